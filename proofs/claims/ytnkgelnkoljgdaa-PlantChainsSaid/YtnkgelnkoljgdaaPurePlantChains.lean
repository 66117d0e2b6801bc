/- What is proved: law PlantChains of this seat, all in one text (laid by prune.py). -/
import Derived.Test.YtnkgelnkoljgdaaOpen
import Derived.OpenShut
import Derived.Test.YtnkgelnkoljgdaaQ1
import Derived.Test.YtnkgelnkoljgdaaQ2
import Derived.Test.YtnkgelnkoljgdaaQ3
import Derived.Test.YtnkgelnkoljgdaaQ4
import Derived.Test.YtnkgelnkoljgdaaQ13
import Derived.Test.YtnkgelnkoljgdaaQ14
import Derived.Test.YtnkgelnkoljgdaaQ15
import Derived.Test.YtnkgelnkoljgdaaQ16
import Derived.Test.YtnkgelnkoljgdaaQ17
import Derived.Test.YtnkgelnkoljgdaaQ18
import Derived.Test.YtnkgelnkoljgdaaQ19
import Derived.Test.YtnkgelnkoljgdaaQ20
import Derived.Test.YtnkgelnkoljgdaaQ21
import Derived.Test.YtnkgelnkoljgdaaQ22
namespace Go.Proofs.YtnkgelnkoljgdaaOwn
open Go.RowKit Go.Proofs.YtnkgelnkoljgdaaW.PrintWords
theorem w64_in {x : Int} (h0 : -9223372036854775808 ≤ x) (h1 : x ≤ 9223372036854775807) : wrap64 x = x := by unfold wrap64; omega
end Go.Proofs.YtnkgelnkoljgdaaOwn
namespace Go.Proofs.Ytnkgelnkoljgdaa.Mod
open Go.RowKit Go.Proofs.YtnkgelnkoljgdaaOwn Go.Proofs.Ytnkgelnkoljgdaa.Q Go.Proofs.YtnkgelnkoljgdaaW.PrintWords Go.Proofs.YtnkgelnkoljgdaaW.PrintLast Go.Proofs.YtnkgelnkoljgdaaW.PrintMore
set_option linter.unusedVariables false
set_option linter.unusedSimpArgs false
/-- A number lies between two bounds. -/
def inB (lo hi a : Int) : Bool := decide (lo ≤ a ∧ a ≤ hi)
def letB (s : ByteArray) (j : Nat) : Bool := inB 97 122 (bt s (j : Int))
/-- A text is a name. -/
def nmB (s : ByteArray) : Bool := decide (1 ≤ s.size) && decide (s.size ≤ 12) && (List.range s.size).all (letB s)
theorem inB_true {lo hi a : Int} : inB lo hi a = true ↔ lo ≤ a ∧ a ≤ hi := by unfold inB; simp
theorem loop_len (s : ByteArray) : ∀ (d i : Nat) (r : List UInt8), i + d = s.size → (ByteArray.toList.loop s i r).length = d + r.length := by
  intro d; induction d with
  | zero => intro i r h; rw [ByteArray.toList.loop, if_neg (by omega)]; simp
  | succ d ih => intro i r h; rw [ByteArray.toList.loop, if_pos (by omega), ih (i + 1) _ (by omega), List.length_cons]; omega
theorem empty_iff (s : ByteArray) : s.toList = ([] : List UInt8) ↔ s.size = 0 := by
  have h := loop_len s s.size 0 [] (by omega)
  have e : (s.toList).length = s.size := by unfold ByteArray.toList; simpa using h
  constructor
  · intro h'; rw [h'] at e; simpa using e.symm
  · intro h'; exact List.eq_nil_of_length_eq_zero (by omega)
/-- all over the places from i on -/
def allFrom (s : ByteArray) (i d : Nat) : Bool := (List.range' i d).all (letB s)
theorem allFrom_succ (s : ByteArray) (i d : Nat) : allFrom s i (d + 1) = (letB s i && allFrom s (i + 1) d) := by simp [allFrom, List.range'_succ]
theorem allFrom_all (s : ByteArray) : allFrom s 0 s.size = (List.range s.size).all (letB s) := by simp [allFrom, List.range_eq_range']
theorem named_loop {s : ByteArray} (hs : s.size ≤ 1000000) : ∀ (d : Nat) (i : Nat), i + d = s.size → Ev (fun k => plant_named.l0 k s (s.size : Int) (i : Int)) (allFrom s i d && (decide (1 ≤ s.size) && decide (s.size ≤ 12))) := by
  intro d; induction d with
  | zero =>
    intro i hi
    refine Ev.step (fun _ => rfl) ?_
    simp only [plant_named.l0, show ¬ (i : Int) < (s.size : Int) by omega, if_false]
    by_cases h : s.toList = ([] : List UInt8)
    · have := (empty_iff s).1 h
      simp only [h, if_true, allFrom, this]; exact Ev.now _
    · have h1 : 1 ≤ s.size := by
        by_cases h2 : s.size = 0
        · exact absurd ((empty_iff s).2 h2) h
        · omega
      have e : decide ((s.size : Int) ≤ 12) = decide (s.size ≤ 12) := by rw [decide_eq_decide]; omega
      simp only [h, if_false, allFrom, List.range'_zero, List.all_nil, Bool.true_and, h1, decide_true, e]; exact Ev.now _
  | succ d ih =>
    intro i hi
    have hb : (if bt s (i : Int) < 97 then true else decide (bt s (i : Int) > 122)) = !letB s i := by
      unfold letB inB
      by_cases h : bt s (i : Int) < 97
      · rw [if_pos h]; simp; omega
      · rw [if_neg h]; by_cases h2 : bt s (i : Int) > 122 <;> simp [h2] <;> omega
    have hi0 : (i : Int) < (s.size : Int) := by omega
    have i0 : (0 : Int) ≤ (i : Int) := by omega
    have wi : wrap64 ((i : Int) + 1) = ((i + 1 : Nat) : Int) := by rw [w64_in (by omega) (by omega)]; omega
    have tail : Ev (fun k => plant_named.j1 k s (s.size : Int) (i : Int) (!letB s i)) (allFrom s i (d + 1) && (decide (1 ≤ s.size) && decide (s.size ≤ 12))) := by
      rw [allFrom_succ]
      refine Ev.step (fun _ => rfl) ?_
      cases hl : letB s i with
      | true =>
        simp only [plant_named.j1, Bool.not_true, Bool.false_eq_true, if_false, wi, Bool.true_and]
        exact ih (i + 1) (by omega)
      | false =>
        simp only [plant_named.j1, Bool.not_false, if_true, Bool.false_and]; exact Ev.now _
    refine Ev.step (fun _ => rfl) ?_
    rw [← hb] at tail
    simp only [plant_named.l0, hi0, i0, if_true]
    by_cases h : bt s (i : Int) < 97
    · simp only [h, if_true] at tail ⊢; exact tail
    · simp only [h, if_false] at tail ⊢; exact tail
theorem named_ok {s : ByteArray} (hs : s.size ≤ 1000000) : Ev (fun k => plant_named.f k s) (nmB s) := by
  have h := named_loop hs s.size 0 (by omega)
  rw [allFrom_all, Bool.and_comm] at h
  exact h
theorem Named_loop {s : ByteArray} (hs : s.size ≤ 1000000) : ∀ (d : Nat) (i : Nat), i + d = s.size → Ev (fun k => hinterlandref10_Named.l0 k s (i : Int)) (allFrom s i d) := by
  intro d; induction d with
  | zero =>
    intro i hi
    refine Ev.step (fun _ => rfl) ?_
    simp only [hinterlandref10_Named.l0, show ¬ (i : Int) < (s.size : Int) by omega, if_false, allFrom]; exact Ev.now _
  | succ d ih =>
    intro i hi
    have hb : (if bt s (i : Int) < 97 then true else decide (bt s (i : Int) > 122)) = !letB s i := by
      unfold letB inB
      by_cases h : bt s (i : Int) < 97
      · rw [if_pos h]; simp; omega
      · rw [if_neg h]; by_cases h2 : bt s (i : Int) > 122 <;> simp [h2] <;> omega
    have hi0 : (i : Int) < (s.size : Int) := by omega
    have i0 : (0 : Int) ≤ (i : Int) := by omega
    have wi : wrap64 ((i : Int) + 1) = ((i + 1 : Nat) : Int) := by rw [w64_in (by omega) (by omega)]; omega
    have tail : Ev (fun k => hinterlandref10_Named.j2 k s (i : Int) (!letB s i)) (allFrom s i (d + 1)) := by
      rw [allFrom_succ]
      refine Ev.step (fun _ => rfl) ?_
      cases hl : letB s i with
      | true =>
        simp only [hinterlandref10_Named.j2, Bool.not_true, Bool.false_eq_true, if_false, wi, Bool.true_and]
        exact ih (i + 1) (by omega)
      | false =>
        simp only [hinterlandref10_Named.j2, Bool.not_false, if_true, Bool.false_and]; exact Ev.now _
    refine Ev.step (fun _ => rfl) ?_
    rw [← hb] at tail
    simp only [hinterlandref10_Named.l0, hi0, i0, if_true]
    by_cases h : bt s (i : Int) < 97
    · simp only [h, if_true] at tail ⊢; exact tail
    · simp only [h, if_false] at tail ⊢; exact tail
theorem Named_ok {s : ByteArray} (hs : s.size ≤ 1000000) : Ev (fun k => hinterlandref10_Named.f k s) (nmB s) := by
  unfold hinterlandref10_Named.f nmB
  have h := Named_loop hs s.size 0 (by omega)
  rw [allFrom_all] at h
  by_cases h1 : (s.size : Int) < 1
  · simp only [h1, if_true, show ¬ 1 ≤ s.size by omega, decide_false, Bool.false_and]
    refine Ev.step (fun _ => rfl) ?_
    simp only [hinterlandref10_Named.j0, if_true]; exact Ev.now _
  · simp only [h1, if_false, show 1 ≤ s.size by omega, decide_true, Bool.true_and]
    refine Ev.step (fun _ => rfl) ?_
    by_cases h2 : s.size ≤ 12
    · simp only [hinterlandref10_Named.j0, show ¬ (s.size : Int) > 12 by omega, decide_false, Bool.false_eq_true, if_false, h2, decide_true, Bool.true_and]
      exact h
    · simp only [hinterlandref10_Named.j0, show (s.size : Int) > 12 by omega, decide_true, if_true, h2, decide_false, Bool.false_and]; exact Ev.now _
theorem rwithin (a lo hi : Int) : hinterlandref10_within.f a lo hi = some (inB lo hi a) := by
  unfold hinterlandref10_within.f inB
  by_cases h1 : a ≥ lo
  · by_cases h2 : a ≤ hi
    · simp [h1, h2]
    · simp [h1, h2]
  · simp [h1]
end Go.Proofs.Ytnkgelnkoljgdaa.Mod
namespace Go.Proofs.Ytnkgelnkoljgdaa.Kin
open Go.RowKit Go.Proofs.YtnkgelnkoljgdaaOwn Go.Proofs.Ytnkgelnkoljgdaa.Q Go.Proofs.Ytnkgelnkoljgdaa.Mod Go.Proofs.YtnkgelnkoljgdaaW.PrintWords Go.Proofs.YtnkgelnkoljgdaaW.PrintLast Go.Proofs.YtnkgelnkoljgdaaW.PrintMore
set_option linter.unusedVariables false
set_option linter.unusedSimpArgs false
/-- A cargo that is taken stands right. -/
def tOK (T : List Int) (i : Nat) : Bool := inB 0 15 (rd T (i : Int)) && (decide (i = 0) || decide (rd T ((i : Int) - 1) < rd T (i : Int)))
/-- A cargo that is made stands right. -/
def mOK (M : List S41) (i : Nat) : Bool := inB 0 15 (rd_T41 M (i : Int)).f0 && (inB 1 1000 (rd_T41 M (i : Int)).f1 && (decide (i = 0) || decide ((rd_T41 M ((i : Int) - 1)).f0 < (rd_T41 M (i : Int)).f0)))
/-- A kind is right. -/
def kB (m : S39) : Bool := nmB m.f0 && (decide (m.f1.length ≤ 4) && (decide (m.f2.length ≤ 4) && ((List.range' 0 m.f1.length).all (tOK m.f1) && (List.range' 0 m.f2.length).all (mOK m.f2))))
theorem pm_loop (s : ByteArray) (T : List Int) {M : List S41} (hM : M.length ≤ 1000000) : ∀ (d i : Nat), i + d = M.length → Ev (fun k => plant_kind.l1 k M (M.length : Int) (i : Int) s T M) ((List.range' i d).all (mOK M)) := by
  intro d; induction d with
  | zero =>
    intro i hi
    refine Ev.step (fun _ => rfl) ?_
    simp only [plant_kind.l1, show ¬ (i : Int) < (M.length : Int) by omega, if_false, List.range'_zero, List.all_nil]; exact Ev.now _
  | succ d ih =>
    intro i hi
    have hi0 : (i : Int) < (M.length : Int) := by omega
    have i0 : (0 : Int) ≤ (i : Int) := by omega
    have wi : wrap64 ((i : Int) + 1) = ((i + 1 : Nat) : Int) := by rw [w64_in (by omega) (by omega)]; omega
    have wp : wrap64 ((i : Int) - 1) = (i : Int) - 1 := w64_in (by omega) (by omega)
    have tail : ∀ b, mOK M i = !b → Ev (fun k => plant_kind.j4 k M (M.length : Int) (i : Int) b s T M) ((List.range' i (d + 1)).all (mOK M)) := by
      intro b hb
      rw [List.range'_succ, List.all_cons, hb]
      refine Ev.step (fun _ => rfl) ?_
      cases b with
      | true => simp only [plant_kind.j4, if_true, Bool.not_true, Bool.false_and]; exact Ev.now _
      | false => simp only [plant_kind.j4, Bool.false_eq_true, if_false, wi, Bool.not_false, Bool.true_and]; exact ih (i + 1) (by omega)
    refine Ev.step (fun _ => rfl) ?_
    simp only [plant_kind.l1, hi0, i0, if_true]
    by_cases h1 : (rd_T41 M (i : Int)).f0 < 0
    · simp only [h1, if_true]; exact tail true (by unfold mOK inB; simp; omega)
    · by_cases h2 : (rd_T41 M (i : Int)).f0 ≥ 16
      · simp only [h1, h2, if_true, if_false]; exact tail true (by unfold mOK inB; simp; omega)
      · by_cases h3 : (rd_T41 M (i : Int)).f1 < 1
        · simp only [h1, h2, h3, if_true, if_false]; exact tail true (by unfold mOK inB; simp; omega)
        · by_cases h4 : (rd_T41 M (i : Int)).f1 > 1000
          · simp only [h1, h2, h3, h4, if_true, if_false]; exact tail true (by unfold mOK inB; simp; omega)
          · have e1 : inB 0 15 (rd_T41 M (i : Int)).f0 = true := inB_true.2 (by omega)
            have e2 : inB 1 1000 (rd_T41 M (i : Int)).f1 = true := inB_true.2 (by omega)
            by_cases h5 : (i : Int) > 0
            · have a0 : (0 : Int) ≤ (i : Int) - 1 := by omega
              have a1 : (i : Int) - 1 < (M.length : Int) := by omega
              simp only [h1, h2, h3, h4, h5, wp, a0, a1, if_true, if_false]
              refine tail _ ?_
              unfold mOK; rw [e1, e2, show decide (i = 0) = false by simp; omega]
              simp only [Bool.true_and, Bool.false_or, ← decide_not, decide_eq_decide]; omega
            · simp only [h1, h2, h3, h4, h5, if_true, if_false]
              refine tail _ ?_
              unfold mOK; rw [e1, e2, show decide (i = 0) = true by simp; omega]; simp
theorem pt_loop (s : ByteArray) {T : List Int} {M : List S41} (hT : T.length ≤ 1000000) {r : Bool} (h : Ev (fun k => plant_kind.l1 k M (M.length : Int) 0 s T M) r) : ∀ (d i : Nat), i + d = T.length → Ev (fun k => plant_kind.l0 k T (T.length : Int) (i : Int) s T M) ((List.range' i d).all (tOK T) && r) := by
  intro d; induction d with
  | zero =>
    intro i hi
    refine Ev.step (fun _ => rfl) ?_
    simp only [plant_kind.l0, show ¬ (i : Int) < (T.length : Int) by omega, if_false, List.range'_zero, List.all_nil, Bool.true_and]; exact h
  | succ d ih =>
    intro i hi
    have hi0 : (i : Int) < (T.length : Int) := by omega
    have i0 : (0 : Int) ≤ (i : Int) := by omega
    have wi : wrap64 ((i : Int) + 1) = ((i + 1 : Nat) : Int) := by rw [w64_in (by omega) (by omega)]; omega
    have wp : wrap64 ((i : Int) - 1) = (i : Int) - 1 := w64_in (by omega) (by omega)
    have tail : ∀ b, tOK T i = !b → Ev (fun k => plant_kind.j2 k T (T.length : Int) (i : Int) b s T M) ((List.range' i (d + 1)).all (tOK T) && r) := by
      intro b hb
      rw [List.range'_succ, List.all_cons, hb]
      refine Ev.step (fun _ => rfl) ?_
      cases b with
      | true => simp only [plant_kind.j2, if_true, Bool.not_true, Bool.false_and]; exact Ev.now _
      | false => simp only [plant_kind.j2, Bool.false_eq_true, if_false, wi, Bool.not_false, Bool.true_and]; exact ih (i + 1) (by omega)
    refine Ev.step (fun _ => rfl) ?_
    simp only [plant_kind.l0, hi0, i0, if_true]
    by_cases h1 : rd T (i : Int) < 0
    · simp only [h1, if_true]; exact tail true (by unfold tOK inB; simp; omega)
    · by_cases h2 : rd T (i : Int) ≥ 16
      · simp only [h1, h2, if_true, if_false]; exact tail true (by unfold tOK inB; simp; omega)
      · have e1 : inB 0 15 (rd T (i : Int)) = true := inB_true.2 (by omega)
        by_cases h5 : (i : Int) > 0
        · have a0 : (0 : Int) ≤ (i : Int) - 1 := by omega
          have a1 : (i : Int) - 1 < (T.length : Int) := by omega
          simp only [h1, h2, h5, wp, a0, a1, if_true, if_false]
          refine tail _ ?_
          unfold tOK; rw [e1, show decide (i = 0) = false by simp; omega]
          simp only [Bool.true_and, Bool.false_or, ← decide_not, decide_eq_decide]; omega
        · simp only [h1, h2, h5, if_true, if_false]
          refine tail _ ?_
          unfold tOK; rw [e1, show decide (i = 0) = true by simp; omega]; simp
theorem pkind_ok (m : S39) (h0 : m.f0.size ≤ 1000000) (h1 : m.f1.length ≤ 1000000) (h2 : m.f2.length ≤ 1000000) : Ev (fun k => plant_kind.f k m.f0 m.f1 m.f2) (kB m) := by
  unfold plant_kind.f kB
  refine Ev.bind (named_ok h0) ?_
  have bad : Ev (fun k => plant_kind.j0 k true m.f0 m.f1 m.f2) false := by
    refine Ev.step (fun _ => rfl) ?_
    simp only [plant_kind.j0, if_true]; exact Ev.now _
  cases nmB m.f0 with
  | false => simp only [Bool.false_eq_true, if_false, Bool.false_and]; exact bad
  | true =>
    simp only [if_true, Bool.true_and]
    by_cases a1 : (m.f1.length : Int) > 4
    · simp only [a1, if_true, show ¬ m.f1.length ≤ 4 by omega, decide_false, Bool.false_and]; exact bad
    · simp only [a1, if_false, show m.f1.length ≤ 4 by omega, decide_true, Bool.true_and]
      by_cases a2 : (m.f2.length : Int) > 4
      · simp only [a2, decide_true, show ¬ m.f2.length ≤ 4 by omega, decide_false, Bool.false_and]; exact bad
      · simp only [a2, decide_false, show m.f2.length ≤ 4 by omega, decide_true, Bool.true_and]
        refine Ev.step (fun _ => rfl) ?_
        simp only [plant_kind.j0, Bool.false_eq_true, if_false]
        exact pt_loop m.f0 h1 (pm_loop m.f0 m.f1 h2 m.f2.length 0 (by omega)) m.f1.length 0 (by omega)
theorem rm_loop (s : ByteArray) (T : List Int) {M : List S41} (hM : M.length ≤ 1000000) : ∀ (d i : Nat), i + d = M.length → Ev (fun k => hinterlandref10_right.l1 k M (M.length : Int) (i : Int) s T M) ((List.range' i d).all (mOK M)) := by
  intro d; induction d with
  | zero =>
    intro i hi
    refine Ev.step (fun _ => rfl) ?_
    simp only [hinterlandref10_right.l1, show ¬ (i : Int) < (M.length : Int) by omega, if_false, List.range'_zero, List.all_nil]; exact Ev.now _
  | succ d ih =>
    intro i hi
    have hi0 : (i : Int) < (M.length : Int) := by omega
    have i0 : (0 : Int) ≤ (i : Int) := by omega
    have wi : wrap64 ((i : Int) + 1) = ((i + 1 : Nat) : Int) := by rw [w64_in (by omega) (by omega)]; omega
    have wp : wrap64 ((i : Int) - 1) = (i : Int) - 1 := w64_in (by omega) (by omega)
    have tail : ∀ b, mOK M i = !b → Ev (fun k => hinterlandref10_right.j4 k M (M.length : Int) (i : Int) b s T M) ((List.range' i (d + 1)).all (mOK M)) := by
      intro b hb
      rw [List.range'_succ, List.all_cons, hb]
      refine Ev.step (fun _ => rfl) ?_
      cases b with
      | true => simp only [hinterlandref10_right.j4, if_true, Bool.not_true, Bool.false_and]; exact Ev.now _
      | false => simp only [hinterlandref10_right.j4, Bool.false_eq_true, if_false, wi, Bool.not_false, Bool.true_and]; exact ih (i + 1) (by omega)
    refine Ev.step (fun _ => rfl) ?_
    simp only [hinterlandref10_right.l1, hi0, i0, if_true, rwithin, Option.bind_some]
    cases e1 : inB 0 15 (rd_T41 M (i : Int)).f0 with
    | false => simp only [Bool.false_eq_true, if_false]; exact tail true (by unfold mOK; rw [e1]; rfl)
    | true =>
      cases e2 : inB 1 1000 (rd_T41 M (i : Int)).f1 with
      | false => simp only [Bool.false_eq_true, if_false, if_true]; exact tail true (by unfold mOK; rw [e1, e2]; rfl)
      | true =>
        by_cases h5 : (i : Int) > 0
        · have a0 : (0 : Int) ≤ (i : Int) - 1 := by omega
          have a1 : (i : Int) - 1 < (M.length : Int) := by omega
          simp only [h5, wp, a0, a1, if_true]
          refine tail _ ?_
          unfold mOK; rw [e1, e2, show decide (i = 0) = false by simp; omega]
          simp only [Bool.true_and, Bool.false_or, ← decide_not, decide_eq_decide]; omega
        · simp only [h5, if_true, if_false]
          refine tail _ ?_
          unfold mOK; rw [e1, e2, show decide (i = 0) = true by simp; omega]; simp
theorem rt_loop (s : ByteArray) {T : List Int} {M : List S41} (hT : T.length ≤ 1000000) {r : Bool} (h : Ev (fun k => hinterlandref10_right.l1 k M (M.length : Int) 0 s T M) r) : ∀ (d i : Nat), i + d = T.length → Ev (fun k => hinterlandref10_right.l0 k T (T.length : Int) (i : Int) s T M) ((List.range' i d).all (tOK T) && r) := by
  intro d; induction d with
  | zero =>
    intro i hi
    refine Ev.step (fun _ => rfl) ?_
    simp only [hinterlandref10_right.l0, show ¬ (i : Int) < (T.length : Int) by omega, if_false, List.range'_zero, List.all_nil, Bool.true_and]; exact h
  | succ d ih =>
    intro i hi
    have hi0 : (i : Int) < (T.length : Int) := by omega
    have i0 : (0 : Int) ≤ (i : Int) := by omega
    have wi : wrap64 ((i : Int) + 1) = ((i + 1 : Nat) : Int) := by rw [w64_in (by omega) (by omega)]; omega
    have wp : wrap64 ((i : Int) - 1) = (i : Int) - 1 := w64_in (by omega) (by omega)
    have tail : ∀ b, tOK T i = !b → Ev (fun k => hinterlandref10_right.j2 k T (T.length : Int) (i : Int) b s T M) ((List.range' i (d + 1)).all (tOK T) && r) := by
      intro b hb
      rw [List.range'_succ, List.all_cons, hb]
      refine Ev.step (fun _ => rfl) ?_
      cases b with
      | true => simp only [hinterlandref10_right.j2, if_true, Bool.not_true, Bool.false_and]; exact Ev.now _
      | false => simp only [hinterlandref10_right.j2, Bool.false_eq_true, if_false, wi, Bool.not_false, Bool.true_and]; exact ih (i + 1) (by omega)
    refine Ev.step (fun _ => rfl) ?_
    simp only [hinterlandref10_right.l0, hi0, i0, if_true, rwithin, Option.bind_some]
    cases e1 : inB 0 15 (rd T (i : Int)) with
    | false => simp only [Bool.false_eq_true, if_false]; exact tail true (by unfold tOK; rw [e1]; rfl)
    | true =>
      by_cases h5 : (i : Int) > 0
      · have a0 : (0 : Int) ≤ (i : Int) - 1 := by omega
        have a1 : (i : Int) - 1 < (T.length : Int) := by omega
        simp only [h5, wp, a0, a1, if_true]
        refine tail _ ?_
        unfold tOK; rw [e1, show decide (i = 0) = false by simp; omega]
        simp only [Bool.true_and, Bool.false_or, ← decide_not, decide_eq_decide]; omega
      · simp only [h5, if_true, if_false]
        refine tail _ ?_
        unfold tOK; rw [e1, show decide (i = 0) = true by simp; omega]; simp
theorem rkind_ok (m : S39) (h0 : m.f0.size ≤ 1000000) (h1 : m.f1.length ≤ 1000000) (h2 : m.f2.length ≤ 1000000) : Ev (fun k => hinterlandref10_right.f k m.f0 m.f1 m.f2) (kB m) := by
  unfold hinterlandref10_right.f kB
  refine Ev.bind (Named_ok h0) ?_
  have bad : Ev (fun k => hinterlandref10_right.j0 k true m.f0 m.f1 m.f2) false := by
    refine Ev.step (fun _ => rfl) ?_
    simp only [hinterlandref10_right.j0, if_true]; exact Ev.now _
  cases nmB m.f0 with
  | false => simp only [Bool.false_eq_true, if_false, Bool.false_and]; exact bad
  | true =>
    simp only [if_true, Bool.true_and]
    by_cases a1 : (m.f1.length : Int) > 4
    · simp only [a1, if_true, show ¬ m.f1.length ≤ 4 by omega, decide_false, Bool.false_and]; exact bad
    · simp only [a1, if_false, show m.f1.length ≤ 4 by omega, decide_true, Bool.true_and]
      by_cases a2 : (m.f2.length : Int) > 4
      · simp only [a2, decide_true, show ¬ m.f2.length ≤ 4 by omega, decide_false, Bool.false_and]; exact bad
      · simp only [a2, decide_false, show m.f2.length ≤ 4 by omega, decide_true, Bool.true_and]
        refine Ev.step (fun _ => rfl) ?_
        simp only [hinterlandref10_right.j0, Bool.false_eq_true, if_false]
        exact rt_loop m.f0 h1 (rm_loop m.f0 m.f1 h2 m.f2.length 0 (by omega)) m.f1.length 0 (by omega)
structure GoodK (K : List S39) : Prop where
  len : K.length ≤ 16
  ok : ∀ i : Int, 0 ≤ i → i < (K.length : Int) → kB (rd_T39 K i) = true
structure Small (K : List S39) : Prop where
  len : K.length ≤ 300
  nm : ∀ i : Int, 0 ≤ i → i < (K.length : Int) → (rd_T39 K i).f0.size ≤ 300 ∧ (rd_T39 K i).f1.length ≤ 300 ∧ (rd_T39 K i).f2.length ≤ 300
theorem bytes_eq {a b : ByteArray} : a.toList = b.toList ↔ a = b := by
  constructor
  · intro h
    have ha : a.data.toList = b.data.toList := by
      have e : ∀ c : ByteArray, c.toList = c.data.toList := fun c => ByteArray.toList_eq c
      rw [← e a, ← e b]; exact h
    cases a; cases b; congr 1; exact Array.ext' ha
  · intro h; rw [h]
end Go.Proofs.Ytnkgelnkoljgdaa.Kin
namespace Go.Proofs.Ytnkgelnkoljgdaa.Vk
open Go.RowKit Go.Proofs.YtnkgelnkoljgdaaOwn Go.Proofs.Ytnkgelnkoljgdaa.Q Go.Proofs.Ytnkgelnkoljgdaa.Mod Go.Proofs.Ytnkgelnkoljgdaa.Kin Go.Proofs.YtnkgelnkoljgdaaW.PrintWords Go.Proofs.YtnkgelnkoljgdaaW.PrintLast Go.Proofs.YtnkgelnkoljgdaaW.PrintMore
set_option linter.unusedVariables false
set_option linter.unusedSimpArgs false
theorem dup_loop {K : List S39} (hK : K.length ≤ 1000000) {i : Int} {y : List S39} (hy : y.length ≤ 1000000) (m : S39) {r : Int} (h : Ev (fun k => hinterlandref10_ValidateKinds.l1 k K K (K.length : Int) (wrap64 (i + 1))) r) : ∀ (d j : Nat), j + d = y.length → Ev (fun k => hinterlandref10_ValidateKinds.l2 k K K (K.length : Int) i y (y.length : Int) (j : Int) m.f0 m.f1 m.f2) (if (y.drop j).any (fun x => decide (m.f0 = x.f0)) = true then 3 else r) := by
  intro d; induction d with
  | zero =>
    intro j hj
    refine Ev.step (fun _ => rfl) ?_
    simp only [hinterlandref10_ValidateKinds.l2, show ¬ (j : Int) < (y.length : Int) by omega, if_false, List.drop_of_length_le (show y.length ≤ j by omega), List.any_nil, Bool.false_eq_true]; exact h
  | succ d ih =>
    intro j hj
    have hj0 : (j : Int) < (y.length : Int) := by omega
    have j0 : (0 : Int) ≤ (j : Int) := by omega
    have wj : wrap64 ((j : Int) + 1) = ((j + 1 : Nat) : Int) := by rw [w64_in (by omega) (by omega)]; omega
    have hr : y.drop j = rd_T39 y (j : Int) :: y.drop (j + 1) := by
      unfold rd_T39
      rw [List.drop_eq_getElem_cons (by omega), List.getD_eq_getElem?_getD, List.getElem?_eq_getElem (by simp; omega)]; simp
    refine Ev.step (fun _ => rfl) ?_
    rw [hr, List.any_cons]
    simp only [hinterlandref10_ValidateKinds.l2, hj0, j0, if_true, wj]
    by_cases he : (rd_T39 y (j : Int)).f0 = m.f0
    · simp only [he, if_true, decide_true, Bool.true_or]; exact Ev.now _
    · have h1 : ¬ (rd_T39 y (j : Int)).f0.toList = m.f0.toList := fun e => he (bytes_eq.1 e)
      have h2 : ¬ m.f0 = (rd_T39 y (j : Int)).f0 := fun e => he e.symm
      simp only [h1, h2, if_false, decide_false, Bool.false_or]; exact ih (j + 1) (by omega)
theorem dups_both {K : List S39} (s : Small K) : ∀ (d i : Nat), i + d = K.length → ∃ r, Ev (fun k => plant_ValidateKinds.l1 k K (K.length : Int) (i : Int)) r ∧ Ev (fun k => hinterlandref10_ValidateKinds.l1 k K K (K.length : Int) (i : Int)) r := by
  have hK := s.len
  intro d; induction d with
  | zero =>
    intro i hi
    refine ⟨0, Ev.step (fun _ => rfl) ?_, Ev.step (fun _ => rfl) ?_⟩
    · simp only [plant_ValidateKinds.l1, show ¬ (i : Int) < (K.length : Int) by omega, if_false]; exact Ev.now _
    · simp only [hinterlandref10_ValidateKinds.l1, show ¬ (i : Int) < (K.length : Int) by omega, if_false]; exact Ev.now _
  | succ d ih =>
    intro i hi
    have hi0 : (i : Int) < (K.length : Int) := by omega
    have i0 : (0 : Int) ≤ (i : Int) := by omega
    have wi : wrap64 ((i : Int) + 1) = ((i + 1 : Nat) : Int) := by rw [w64_in (by omega) (by omega)]; omega
    have hs : (rd_T39 K (i : Int)).f0.size ≤ maxLen := by have := (s.nm i i0 hi0).1; unfold maxLen; omega
    obtain ⟨r, e1, e2⟩ := ih (i + 1) (by omega)
    have l2 := dup_loop (K := K) (by omega) (i := (i : Int)) (y := K.take i) (by simp; omega) (rd_T39 K (i : Int)) (r := r) (by rw [wi]; exact e2) (K.take i).length 0 (by omega)
    rw [List.drop_zero] at l2
    refine ⟨if plant_seen K (i : Int) = true then 3 else r, Ev.step (fun _ => rfl) ?_, Ev.step (fun _ => rfl) ?_⟩
    · simp only [plant_ValidateKinds.l1, hi0, i0, hs, if_true, wi]
      by_cases h : plant_seen K (i : Int) = true
      · simp only [h, if_true]; exact Ev.now _
      · simp only [h, if_false]; exact e1
    · simp only [hinterlandref10_ValidateKinds.l1, hi0, i0, show (i : Int) ≤ (K.length : Int) by omega, if_true, Option.bind_some, Int.toNat_natCast]
      have e : plant_seen K (i : Int) = (K.take i).any (fun x => decide ((rd_T39 K (i : Int)).f0 = x.f0)) := by unfold plant_seen; simp only [Int.toNat_natCast]
      rw [e]; exact l2
theorem oks_both {K : List S39} (s : Small K) {r : Int} (h1 : Ev (fun k => plant_ValidateKinds.l1 k K (K.length : Int) 0) r) (h2 : Ev (fun k => hinterlandref10_ValidateKinds.l1 k K K (K.length : Int) 0) r) : ∀ (d i : Nat), i + d = K.length → ∃ r', Ev (fun k => plant_ValidateKinds.l0 k K K (K.length : Int) (i : Int)) r' ∧ Ev (fun k => hinterlandref10_ValidateKinds.l0 k K K (K.length : Int) (i : Int)) r' ∧ (r' = 0 → ∀ j : Int, (i : Int) ≤ j → j < (K.length : Int) → kB (rd_T39 K j) = true) := by
  have hK := s.len
  intro d; induction d with
  | zero =>
    intro i hi
    refine ⟨r, Ev.step (fun _ => rfl) ?_, Ev.step (fun _ => rfl) ?_, fun _ j a b => by omega⟩
    · simp only [plant_ValidateKinds.l0, show ¬ (i : Int) < (K.length : Int) by omega, if_false]; exact h1
    · simp only [hinterlandref10_ValidateKinds.l0, show ¬ (i : Int) < (K.length : Int) by omega, if_false]; exact h2
  | succ d ih =>
    intro i hi
    have hi0 : (i : Int) < (K.length : Int) := by omega
    have i0 : (0 : Int) ≤ (i : Int) := by omega
    have wi : wrap64 ((i : Int) + 1) = ((i + 1 : Nat) : Int) := by rw [w64_in (by omega) (by omega)]; omega
    obtain ⟨n0, n1, n2⟩ := s.nm i i0 hi0
    have k1 := pkind_ok (rd_T39 K (i : Int)) (by omega) (by omega) (by omega)
    have k2 := rkind_ok (rd_T39 K (i : Int)) (by omega) (by omega) (by omega)
    cases hb : kB (rd_T39 K (i : Int)) with
    | false =>
      rw [hb] at k1 k2
      refine ⟨1, Ev.step (fun _ => rfl) ?_, Ev.step (fun _ => rfl) ?_, fun h => by omega⟩
      · simp only [plant_ValidateKinds.l0, hi0, i0, if_true]
        refine Ev.bind k1 ?_
        simp only [Bool.false_eq_true, if_false]; exact Ev.now _
      · simp only [hinterlandref10_ValidateKinds.l0, hi0, i0, if_true]
        refine Ev.bind k2 ?_
        simp only [Bool.false_eq_true, if_false]; exact Ev.now _
    | true =>
      rw [hb] at k1 k2
      obtain ⟨r', e1, e2, e3⟩ := ih (i + 1) (by omega)
      refine ⟨r', Ev.step (fun _ => rfl) ?_, Ev.step (fun _ => rfl) ?_, fun h j a b => ?_⟩
      · simp only [plant_ValidateKinds.l0, hi0, i0, if_true]
        refine Ev.bind k1 ?_
        simp only [if_true, wi]; exact e1
      · simp only [hinterlandref10_ValidateKinds.l0, hi0, i0, if_true]
        refine Ev.bind k2 ?_
        simp only [if_true, wi]; exact e2
      · by_cases he : j = (i : Int)
        · rw [he]; exact hb
        · exact e3 h j (by omega) b
theorem vk_both {K : List S39} (s : Small K) : ∃ r, Ev (fun k => plant_ValidateKinds.f k K) r ∧ Ev (fun k => hinterlandref10_ValidateKinds.f k K) r ∧ (r = 0 → GoodK K) := by
  unfold plant_ValidateKinds.f hinterlandref10_ValidateKinds.f
  by_cases h : (K.length : Int) > 16
  · refine ⟨4, ?_, ?_, fun h => by omega⟩
    · simp only [h, if_true]; exact Ev.now _
    · simp only [h, if_true]; exact Ev.now _
  · obtain ⟨r, d1, d2⟩ := dups_both s K.length 0 (by omega)
    obtain ⟨r', e1, e2, e3⟩ := oks_both s d1 d2 K.length 0 (by omega)
    refine ⟨r', ?_, ?_, fun hr => ⟨by omega, fun j a b => e3 hr j a b⟩⟩
    · simp only [h, if_false]; exact e1
    · simp only [h, if_false]; exact e2
theorem large_loop {K : List S39} (hM : K.length ≤ maxLen) {A B C D : List Int} (a1 a2 a3 a4 a5 : Int) (a6 : Bool) : ∀ (d : Nat) (i : Int), 0 ≤ i → i + d = (K.length : Int) → ∃ r, Ev (fun k => hinterlandlaw10_large.l0 k K K (K.length : Int) i a1 a2 a3 A B C D a4 a5 a6) r ∧ (r = false → (∀ j, i ≤ j → j < (K.length : Int) → (rd_T39 K j).f0.size ≤ 300 ∧ (rd_T39 K j).f1.length ≤ 300 ∧ (rd_T39 K j).f2.length ≤ 300) ∧ K.length ≤ 300 ∧ A.length ≤ 300 ∧ B.length ≤ 300 ∧ C.length ≤ 300 ∧ D.length ≤ 300) := by
  unfold maxLen at hM
  intro d; induction d with
  | zero =>
    intro i i0 hd
    have hi : ¬ i < (K.length : Int) := by omega
    by_cases h1 : (K.length : Int) > 300
    · exact ⟨true, Ev.step (fun _ => rfl) (by simp only [hinterlandlaw10_large.l0, hi, h1, if_false, if_true]; exact Ev.now _), fun h => by cases h⟩
    by_cases h2 : (A.length : Int) > 300
    · exact ⟨true, Ev.step (fun _ => rfl) (by simp only [hinterlandlaw10_large.l0, hi, h1, h2, if_false, if_true]; exact Ev.now _), fun h => by cases h⟩
    by_cases h3 : (B.length : Int) > 300
    · exact ⟨true, Ev.step (fun _ => rfl) (by simp only [hinterlandlaw10_large.l0, hi, h1, h2, h3, if_false, if_true]; exact Ev.now _), fun h => by cases h⟩
    by_cases h4 : (C.length : Int) > 300
    · exact ⟨true, Ev.step (fun _ => rfl) (by simp only [hinterlandlaw10_large.l0, hi, h1, h2, h3, h4, if_false, if_true]; exact Ev.now _), fun h => by cases h⟩
    · refine ⟨decide ((D.length : Int) > 300), Ev.step (fun _ => rfl) (by simp only [hinterlandlaw10_large.l0, hi, h1, h2, h3, h4, if_false]; exact Ev.now _), fun h => ⟨fun j a b => by omega, by omega, by omega, by omega, by omega, ?_⟩⟩
      have := of_decide_eq_false h; omega
  | succ d ih =>
    intro i i0 hd
    have hi : i < (K.length : Int) := by omega
    have wi : wrap64 (i + 1) = i + 1 := w64_in (by omega) (by omega)
    have yes : Ev (fun k => hinterlandlaw10_large.j1 k K K (K.length : Int) i true a1 a2 a3 A B C D a4 a5 a6) true := by
      refine Ev.step (fun _ => rfl) ?_
      simp only [hinterlandlaw10_large.j1, if_true]; exact Ev.now _
    by_cases h1 : ((rd_T39 K i).f1.length : Int) > 300
    · exact ⟨true, Ev.step (fun _ => rfl) (by simp only [hinterlandlaw10_large.l0, hi, i0, h1, if_true]; exact yes), fun h => by cases h⟩
    by_cases h2 : ((rd_T39 K i).f2.length : Int) > 300
    · exact ⟨true, Ev.step (fun _ => rfl) (by simp only [hinterlandlaw10_large.l0, hi, i0, h1, h2, if_true, if_false]; exact yes), fun h => by cases h⟩
    by_cases h3 : ((rd_T39 K i).f0.size : Int) > 300
    · exact ⟨true, Ev.step (fun _ => rfl) (by simp only [hinterlandlaw10_large.l0, hi, i0, h1, h2, h3, if_true, if_false, decide_true]; exact yes), fun h => by cases h⟩
    · obtain ⟨r, e1, e2⟩ := ih (i + 1) (by omega) (by omega)
      refine ⟨r, Ev.step (fun _ => rfl) (by
        simp only [hinterlandlaw10_large.l0, hi, i0, h1, h2, h3, if_true, if_false, decide_false]
        refine Ev.step (fun _ => rfl) ?_
        simp only [hinterlandlaw10_large.j1, Bool.false_eq_true, if_false, wi]; exact e1), fun h => ⟨fun j a b => ?_, (e2 h).2⟩⟩
      by_cases e : j = i
      · rw [e]; exact ⟨by omega, by omega, by omega⟩
      · exact (e2 h).1 j (by omega) b
theorem large_ok {K : List S39} (hK : wRow wT39 K) (A B C D : List Int) (a1 a2 a3 a4 a5 : Int) (a6 : Bool) : ∃ r, Ev (fun k => hinterlandlaw10_large.f k K a1 a2 a3 A B C D a4 a5 a6) r ∧ (r = false → Small K ∧ A.length ≤ 300 ∧ B.length ≤ 300 ∧ C.length ≤ 300 ∧ D.length ≤ 300) := by
  obtain ⟨r, e1, e2⟩ := large_loop hK.1 (A := A) (B := B) (C := C) (D := D) a1 a2 a3 a4 a5 a6 K.length 0 (by omega) (by omega)
  exact ⟨r, e1, fun h => ⟨⟨(e2 h).2.1, fun i a b => (e2 h).1 i a b⟩, (e2 h).2.2⟩⟩
end Go.Proofs.Ytnkgelnkoljgdaa.Vk
namespace Go.Proofs.Ytnkgelnkoljgdaa.Known
open Go.RowKit Go.Proofs.YtnkgelnkoljgdaaOwn Go.Proofs.Ytnkgelnkoljgdaa.Q Go.Proofs.YtnkgelnkoljgdaaW.PrintWords Go.Proofs.YtnkgelnkoljgdaaW.PrintLast Go.Proofs.YtnkgelnkoljgdaaW.PrintMore
set_option linter.unusedVariables false
set_option linter.unusedSimpArgs false
theorem known_ev : Ev (fun k => hinterlandlaw10_known.f k) true := Ev.of hinterlandlaw10_known.mono (k := 200) (by decide +kernel)
end Go.Proofs.Ytnkgelnkoljgdaa.Known
namespace Go.Proofs.Ytnkgelnkoljgdaa.Pure
open Go.RowKit Go.Proofs.YtnkgelnkoljgdaaOwn Go.Proofs.Ytnkgelnkoljgdaa.Q Go.Proofs.Ytnkgelnkoljgdaa.Mod Go.Proofs.Ytnkgelnkoljgdaa.Kin Go.Proofs.Ytnkgelnkoljgdaa.Vk Go.Proofs.Ytnkgelnkoljgdaa.Known Go.Proofs.YtnkgelnkoljgdaaW.PrintWords Go.Proofs.YtnkgelnkoljgdaaW.PrintLast Go.Proofs.YtnkgelnkoljgdaaW.PrintMore
set_option linter.unusedVariables false
set_option linter.unusedSimpArgs false
theorem list_self {l : List Int} (hl : l.length < 1000000000) : ∀ (d : Nat) (i : Int), 0 ≤ i → i + d = l.length → Ev (fun k => hinterlandsame_List_int.l0 k l l i) true := by
  intro d; induction d with
  | zero =>
    intro i i0 hd
    refine Ev.step (fun _ => rfl) ?_
    simp only [hinterlandsame_List_int.l0, show ¬ i < (l.length : Int) by omega, if_false]; exact Ev.now _
  | succ d ih =>
    intro i i0 hd
    refine Ev.step (fun _ => rfl) ?_
    simp only [hinterlandsame_List_int.l0, show i < (l.length : Int) by omega, i0, if_true, show wrap64 (i + 1) = i + 1 from w64_in (by omega) (by omega)]
    exact ih (i + 1) (by omega) (by omega)
theorem ints_self {l : List Int} (hl : l.length < 1000000000) : Ev (fun k => hinterlandsame_List_int.f k l l) true := by
  unfold hinterlandsame_List_int.f
  simp only [if_true]
  exact list_self hl l.length 0 (by omega) (by omega)
def hasB (T : List Int) (c : Int) (i : Nat) : Bool := (T.drop i).any (fun x => decide (x = c))
theorem drop_rd {T : List Int} {i : Nat} (h : i < T.length) : T.drop i = rd T (i : Int) :: T.drop (i + 1) := by
  unfold rd
  rw [List.drop_eq_getElem_cons (by omega), List.getD_eq_getElem?_getD, List.getElem?_eq_getElem (by simp; omega)]; simp
theorem drop_rd41 {M : List S41} {i : Nat} (h : i < M.length) : M.drop i = rd_T41 M (i : Int) :: M.drop (i + 1) := by
  unfold rd_T41
  rw [List.drop_eq_getElem_cons (by omega), List.getD_eq_getElem?_getD, List.getElem?_eq_getElem (by simp; omega)]; simp
def Inc (T : List Int) : Prop := ∀ i : Nat, i + 1 < T.length → rd T (i : Int) < rd T ((i : Int) + 1)
theorem inc_far {T : List Int} (h : Inc T) (i : Nat) : ∀ d : Nat, i + d + 1 < T.length → rd T (i : Int) < rd T (((i + d + 1 : Nat)) : Int)
  | 0, hd => by have := h i hd; simpa using this
  | d + 1, hd => by
    have h1 := inc_far h i d (by omega)
    have h2 := h (i + d + 1) (by omega)
    rw [show (((i + (d + 1) + 1 : Nat)) : Int) = ((i + d + 1 : Nat) : Int) + 1 by omega]
    omega
theorem has_once {T : List Int} (h : Inc T) {i : Nat} {c : Int} (hi : i < T.length) (he : rd T (i : Int) = c) : hasB T c (i + 1) = false := by
  unfold hasB
  rw [List.any_eq_false]
  intro x hx
  obtain ⟨n, hn, rfl⟩ := List.mem_iff_getElem.1 hx
  rw [List.length_drop] at hn
  have := inc_far h i n (by omega)
  have e : (T.drop (i + 1))[n] = rd T (((i + n + 1 : Nat)) : Int) := by
    unfold rd
    rw [List.getElem_drop, List.getD_eq_getElem?_getD, Int.toNat_natCast, List.getElem?_eq_getElem (by omega)]
    simp [show i + 1 + n = i + n + 1 by omega]
  rw [e]
  simp only [decide_eq_true_eq]
  omega
theorem inc_of {T : List Int} (h : (List.range' 0 T.length).all (tOK T) = true) : Inc T := by
  intro i hi
  have := List.all_eq_true.1 h (i + 1) (by simp; omega)
  unfold tOK at this
  simp only [Bool.and_eq_true, Bool.or_eq_true, decide_eq_true_eq] at this
  rcases this.2 with h | h
  · omega
  · rw [show (((i + 1 : Nat)) : Int) - 1 = (i : Int) by omega] at h
    exact h
def mk (x c : Int) : List S41 → List Int → List Int
  | [], Y => Y
  | m :: M, Y => mk x c M (if m.f0 = c then Y ++ [x] else Y)
theorem mk_len (x c : Int) : ∀ (M : List S41) (Y : List Int), (mk x c M Y).length ≤ Y.length + M.length
  | [], Y => by simp [mk]
  | m :: M, Y => by
    have := mk_len x c M (if m.f0 = c then Y ++ [x] else Y)
    simp only [mk, List.length_cons]
    split at this
    · simp at this; split <;> simp_all <;> omega
    · split <;> simp_all <;> omega
abbrev RC := List Int × List Int × Int
theorem p_takes {T : List Int} (hT : T.length ≤ 300) (h : Inc T) {c x i n : Int} {K : List S39} {Y : List Int} {s : ByteArray} {T2 : List Int} {M : List S41} {r : RC} : ∀ (d j : Nat) (X : List Int), j + d = T.length → X.length + d ≤ 1000000 → Ev (fun k => plant_Chains.l2 k c x K n i M (M.length : Int) 0 (if hasB T c j = true then X ++ [x] else X) Y) r → Ev (fun k => plant_Chains.l1 k c x K n i T (T.length : Int) (j : Int) X Y s T2 M) r := by
  intro d; induction d with
  | zero =>
    intro j X hj hX hr
    have : hasB T c j = false := by unfold hasB; rw [List.drop_of_length_le (by omega)]; rfl
    rw [this] at hr
    refine Ev.step (fun _ => rfl) ?_
    simp only [plant_Chains.l1, show ¬ (j : Int) < (T.length : Int) by omega, if_false]
    simpa using hr
  | succ d ih =>
    intro j X hj hX hr
    have j1 : (j : Int) < (T.length : Int) := by omega
    have j0 : (0 : Int) ≤ (j : Int) := by omega
    have wj : wrap64 ((j : Int) + 1) = ((j + 1 : Nat) : Int) := by rw [w64_in (by omega) (by omega)]; omega
    refine Ev.step (fun _ => rfl) ?_
    simp only [plant_Chains.l1, j1, j0, if_true, wj]
    by_cases e : rd T (j : Int) = c
    · simp only [e, if_true, show X.length < 17592186044416 by omega]
      have h1 : hasB T c j = true := by unfold hasB; rw [drop_rd (by omega), List.any_cons, e]; simp
      have h2 := has_once h (c := c) (i := j) (by omega) e
      have h3 := ih (j + 1) (X ++ [x]) (by omega)
      rw [h1] at hr
      exact h3 (by simp; omega) (by rw [h2]; simpa using hr)
    · simp only [e, if_false]
      refine ih (j + 1) X (by omega) (by omega) ?_
      have : hasB T c j = hasB T c (j + 1) := by
        unfold hasB; rw [drop_rd (by omega), List.any_cons]; simp [e]
      rw [← this]; exact hr
theorem r_takes {T : List Int} (hT : T.length ≤ 300) {c : Int} : ∀ (d j : Nat), j + d = T.length → Ev (fun k => hinterlandref10_Takes.l0 k c T (T.length : Int) (j : Int)) (hasB T c j) := by
  intro d; induction d with
  | zero =>
    intro j hj
    have : hasB T c j = false := by unfold hasB; rw [List.drop_of_length_le (by omega)]; rfl
    rw [this]
    refine Ev.step (fun _ => rfl) ?_
    simp only [hinterlandref10_Takes.l0, show ¬ (j : Int) < (T.length : Int) by omega, if_false]
    exact Ev.now _
  | succ d ih =>
    intro j hj
    have j1 : (j : Int) < (T.length : Int) := by omega
    have j0 : (0 : Int) ≤ (j : Int) := by omega
    have wj : wrap64 ((j : Int) + 1) = ((j + 1 : Nat) : Int) := by rw [w64_in (by omega) (by omega)]; omega
    refine Ev.step (fun _ => rfl) ?_
    simp only [hinterlandref10_Takes.l0, j1, j0, if_true, wj]
    have hc : hasB T c j = (decide (rd T (j : Int) = c) || hasB T c (j + 1)) := by
      unfold hasB; rw [drop_rd (by omega), List.any_cons]
    rw [hc]
    by_cases e : rd T (j : Int) = c
    · simp only [e, if_true, decide_true, Bool.true_or]; exact Ev.now _
    · simp only [e, if_false, decide_false, Bool.false_or]; exact ih (j + 1) (by omega)
theorem p_makes {M : List S41} (hM : M.length ≤ 300) {c x i n : Int} {K : List S39} {X : List Int} {r : RC} : ∀ (d j : Nat) (Y : List Int), j + d = M.length → Y.length + d ≤ 1000000 → Ev (fun k => plant_Chains.l0 k c K n (wrap64 (i + 1)) X (mk x c (M.drop j) Y)) r → Ev (fun k => plant_Chains.l2 k c x K n i M (M.length : Int) (j : Int) X Y) r := by
  intro d; induction d with
  | zero =>
    intro j Y hj hY hr
    rw [List.drop_of_length_le (by omega)] at hr
    refine Ev.step (fun _ => rfl) ?_
    simp only [plant_Chains.l2, show ¬ (j : Int) < (M.length : Int) by omega, if_false]
    exact hr
  | succ d ih =>
    intro j Y hj hY hr
    have j1 : (j : Int) < (M.length : Int) := by omega
    have j0 : (0 : Int) ≤ (j : Int) := by omega
    have wj : wrap64 ((j : Int) + 1) = ((j + 1 : Nat) : Int) := by rw [w64_in (by omega) (by omega)]; omega
    rw [drop_rd41 (by omega)] at hr
    simp only [mk] at hr
    refine Ev.step (fun _ => rfl) ?_
    simp only [plant_Chains.l2, j1, j0, if_true, wj]
    by_cases e : (rd_T41 M (j : Int)).f0 = c
    · simp only [e, if_true, show Y.length < 17592186044416 by omega] at hr ⊢
      exact ih (j + 1) _ (by omega) (by simp; omega) hr
    · simp only [e, if_false] at hr ⊢
      exact ih (j + 1) _ (by omega) (by omega) hr
theorem r_makes {M : List S41} (hM : M.length ≤ 300) {c x i n : Int} {K : List S39} {X : List Int} {r : RC} : ∀ (d j : Nat) (Y : List Int), j + d = M.length → Y.length + d ≤ 1000000 → Ev (fun k => hinterlandref10_Chains.l0 k c X (mk x c (M.drop j) Y) K n (wrap64 (i + 1))) r → Ev (fun k => hinterlandref10_Chains.l1 k c X Y x K n i M (M.length : Int) (j : Int)) r := by
  intro d; induction d with
  | zero =>
    intro j Y hj hY hr
    rw [List.drop_of_length_le (by omega)] at hr
    refine Ev.step (fun _ => rfl) ?_
    simp only [hinterlandref10_Chains.l1, show ¬ (j : Int) < (M.length : Int) by omega, if_false]
    exact hr
  | succ d ih =>
    intro j Y hj hY hr
    have j1 : (j : Int) < (M.length : Int) := by omega
    have j0 : (0 : Int) ≤ (j : Int) := by omega
    have wj : wrap64 ((j : Int) + 1) = ((j + 1 : Nat) : Int) := by rw [w64_in (by omega) (by omega)]; omega
    rw [drop_rd41 (by omega)] at hr
    simp only [mk] at hr
    refine Ev.step (fun _ => rfl) ?_
    simp only [hinterlandref10_Chains.l1, j1, j0, if_true, wj]
    by_cases e : (rd_T41 M (j : Int)).f0 = c
    · simp only [e, if_true, show Y.length < 17592186044416 by omega] at hr ⊢
      exact ih (j + 1) _ (by omega) (by simp; omega) hr
    · simp only [e, if_false] at hr ⊢
      exact ih (j + 1) _ (by omega) (by omega) hr
theorem chains_loop {K : List S39} (g : GoodK K) {c : Int} : ∀ (d i : Nat) (X Y : List Int), i + d = K.length → X.length ≤ i → Y.length ≤ 4 * i → ∃ r : RC, r.1.length ≤ 1000 ∧ r.2.1.length ≤ 1000 ∧ Ev (fun k => plant_Chains.l0 k c K (K.length : Int) (i : Int) X Y) r ∧ Ev (fun k => hinterlandref10_Chains.l0 k c X Y K (K.length : Int) (i : Int)) r := by
  have hK := g.len
  intro d; induction d with
  | zero =>
    intro i X Y hi hX hY
    refine ⟨(X, Y, 0), by show X.length ≤ 1000; omega, by show Y.length ≤ 1000; omega, Ev.step (fun _ => rfl) ?_, Ev.step (fun _ => rfl) ?_⟩
    · simp only [plant_Chains.l0, show ¬ (i : Int) < (K.length : Int) by omega, if_false]; exact Ev.now _
    · simp only [hinterlandref10_Chains.l0, show ¬ (i : Int) < (K.length : Int) by omega, if_false]; exact Ev.now _
  | succ d ih =>
    intro i X Y hi hX hY
    have i1 : (i : Int) < (K.length : Int) := by omega
    have i0 : (0 : Int) ≤ (i : Int) := by omega
    have wi : wrap64 ((i : Int) + 1) = ((i + 1 : Nat) : Int) := by rw [w64_in (by omega) (by omega)]; omega
    have hk := g.ok (i : Int) i0 i1
    unfold kB at hk
    simp only [Bool.and_eq_true, decide_eq_true_eq] at hk
    obtain ⟨_, hT, hM, ht, _⟩ := hk
    have inc := inc_of ht
    have ml := mk_len (i : Int) c (rd_T39 K (i : Int)).f2 Y
    obtain ⟨r, r1, r2, e1, e2⟩ := ih (i + 1) (if hasB (rd_T39 K (i : Int)).f1 c 0 = true then X ++ [(i : Int)] else X) (mk (i : Int) c (rd_T39 K (i : Int)).f2 Y) (by omega) (by split <;> (try rw [List.length_append]) <;> (try simp only [List.length_cons, List.length_nil]) <;> omega) (by omega)
    refine ⟨r, r1, r2, Ev.step (fun _ => rfl) ?_, Ev.step (fun _ => rfl) ?_⟩
    · simp only [plant_Chains.l0, i1, i0, if_true]
      refine p_takes (by omega) inc (rd_T39 K (i : Int)).f1.length 0 X (by omega) (by omega) ?_
      refine p_makes (by omega) (rd_T39 K (i : Int)).f2.length 0 Y (by omega) (by omega) ?_
      rw [wi, List.drop_zero]; exact e1
    · simp only [hinterlandref10_Chains.l0, i1, i0, if_true]
      have ht := r_takes (T := (rd_T39 K (i : Int)).f1) (by omega) (c := c) (rd_T39 K (i : Int)).f1.length 0 (by omega)
      have hm := r_makes (M := (rd_T39 K (i : Int)).f2) (by omega) (c := c) (x := (i : Int)) (i := (i : Int)) (n := (K.length : Int)) (K := K) (X := if hasB (rd_T39 K (i : Int)).f1 c 0 = true then X ++ [(i : Int)] else X) (r := r) (rd_T39 K (i : Int)).f2.length 0 Y (by omega) (by omega) (by rw [wi, List.drop_zero]; exact e2)
      unfold hinterlandref10_Takes.f
      refine Ev.bind ht ?_
      cases hb : hasB (rd_T39 K (i : Int)).f1 c 0 with
      | true =>
        rw [hb] at hm
        simp only [if_true, show X.length < 17592186044416 by omega] at hm ⊢
        refine Ev.step (fun _ => rfl) ?_
        simp only [hinterlandref10_Chains.j1]; exact hm
      | false =>
        rw [hb] at hm
        simp only [Bool.false_eq_true, if_false] at hm ⊢
        refine Ev.step (fun _ => rfl) ?_
        simp only [hinterlandref10_Chains.j1]; exact hm
/-- Which kinds take a cargo, and which make it. -/
theorem PlantChains : hinterlandlaw10_PlantChains.Pure := by
  intro K c hK _
  refine Ev.rounds ?_
  unfold hinterlandlaw10_PlantChains.f
  obtain ⟨g, e1, e2⟩ := large_ok hK [] [] [] [] 0 0 0 0 0 false
  refine Ev.bind e1 ?_
  cases g with
  | true => simp only [if_true]; exact Ev.bind known_ev (Ev.now _)
  | false =>
    simp only [Bool.false_eq_true, if_false]
    obtain ⟨s, _⟩ := e2 rfl
    obtain ⟨v, v1, v2, v3⟩ := vk_both s
    have fin : ∀ r : RC, r.1.length ≤ 1000 → r.2.1.length ≤ 1000 → Ev (fun k => plant_Chains.f k K c) r → Ev (fun k => hinterlandref10_Chains.f k K c) r → Ev (fun k => (plant_Chains.f k K c).bind fun bt285 => ((hinterlandref10_Chains.f k K c).bind fun bt292 => (if bt285.2.2 = bt292.2.2 then ((hinterlandsame_List_int.f k bt285.1 bt292.1).bind fun t299 => (if t299 = true then ((hinterlandsame_List_int.f k bt285.2.1 bt292.2.1).bind fun t300 => (if t300 = true then ((hinterlandlaw10_known.f k).bind fun t301 => (some t301)) else (some false))) else (some false))) else (some false)))) true := by
      intro r l1 l2 h1 h2
      refine Ev.bind h1 (Ev.bind h2 ?_)
      simp only [if_true]
      refine Ev.bind (ints_self (by omega)) ?_
      simp only [if_true]
      refine Ev.bind (ints_self (by omega)) ?_
      simp only [if_true]
      exact Ev.bind known_ev (Ev.now _)
    by_cases hv : v = 0
    · subst hv
      by_cases h1 : c < 0
      · refine fin ([], [], 1) (by simp) (by simp) ?_ ?_
        · unfold plant_Chains.f
          refine Ev.bind v1 ?_
          simp only [if_true, h1]
          refine Ev.step (fun _ => rfl) ?_
          simp only [plant_Chains.j0, if_true]; exact Ev.now _
        · unfold hinterlandref10_Chains.f
          refine Ev.bind v2 ?_
          simp only [if_true, rwithin, Option.bind_some, show inB 0 15 c = false by unfold inB; simp; omega, Bool.false_eq_true, if_false]; exact Ev.now _
      by_cases h2 : c ≥ 16
      · refine fin ([], [], 1) (by simp) (by simp) ?_ ?_
        · unfold plant_Chains.f
          refine Ev.bind v1 ?_
          simp only [if_true, h1, if_false, h2, decide_true]
          refine Ev.step (fun _ => rfl) ?_
          simp only [plant_Chains.j0, if_true]; exact Ev.now _
        · unfold hinterlandref10_Chains.f
          refine Ev.bind v2 ?_
          simp only [if_true, rwithin, Option.bind_some, show inB 0 15 c = false by unfold inB; simp; omega, Bool.false_eq_true, if_false]; exact Ev.now _
      · obtain ⟨r, r1, r2, p1, p2⟩ := chains_loop (v3 rfl) (c := c) K.length 0 [] [] (by omega) (by simp) (by simp)
        refine fin r r1 r2 ?_ ?_
        · unfold plant_Chains.f
          refine Ev.bind v1 ?_
          simp only [if_true, h1, if_false, h2, decide_false]
          refine Ev.step (fun _ => rfl) ?_
          simp only [plant_Chains.j0, Bool.false_eq_true, if_false]; exact p1
        · unfold hinterlandref10_Chains.f
          refine Ev.bind v2 ?_
          simp only [if_true, rwithin, Option.bind_some, show inB 0 15 c = true by unfold inB; simp; omega]; exact p2
    · refine fin ([], [], v) (by simp) (by simp) ?_ ?_
      · unfold plant_Chains.f
        refine Ev.bind v1 ?_
        simp only [hv, if_false]; exact Ev.now _
      · unfold hinterlandref10_Chains.f
        refine Ev.bind v2 ?_
        simp only [hv, if_false]; exact Ev.now _
end Go.Proofs.Ytnkgelnkoljgdaa.Pure

/- What is proved: law PlantMonthsMany of this seat, all in one text (laid by prune.py). -/
import Derived.Test.YtnkgelnkoljgdaaDraw
import Derived.Test.YtnkgelnkoljgdaaOpen
import Derived.OpenShut
import Derived.Test.YtnkgelnkoljgdaaQ2
import Derived.Test.YtnkgelnkoljgdaaQ4
import Derived.Test.YtnkgelnkoljgdaaQ5
import Derived.Test.YtnkgelnkoljgdaaQ8
import Derived.Test.YtnkgelnkoljgdaaQ11
import Derived.Test.YtnkgelnkoljgdaaQ14
import Derived.Test.YtnkgelnkoljgdaaQ19
import Derived.Test.YtnkgelnkoljgdaaQ20
import Derived.Test.YtnkgelnkoljgdaaQ23
import Derived.Test.YtnkgelnkoljgdaaQ24
import Derived.Test.YtnkgelnkoljgdaaQ33
import Derived.Test.YtnkgelnkoljgdaaQ34
namespace Go.Proofs.Ytnkgelnkoljgdaa.Mod
open Go.RowKit Go.Proofs.YtnkgelnkoljgdaaOwn Go.Proofs.Ytnkgelnkoljgdaa.Q Go.Proofs.YtnkgelnkoljgdaaW.PrintWords Go.Proofs.YtnkgelnkoljgdaaW.PrintLast Go.Proofs.YtnkgelnkoljgdaaW.PrintMore
set_option linter.unusedVariables false
set_option linter.unusedSimpArgs false
/-- A number lies between two bounds. -/
def inB (lo hi a : Int) : Bool := decide (lo ≤ a ∧ a ≤ hi)
def letB (s : ByteArray) (j : Nat) : Bool := inB 97 122 (bt s (j : Int))
/-- A text is a name. -/
def nmB (s : ByteArray) : Bool := decide (1 ≤ s.size) && decide (s.size ≤ 12) && (List.range s.size).all (letB s)
theorem inB_true {lo hi a : Int} : inB lo hi a = true ↔ lo ≤ a ∧ a ≤ hi := by unfold inB; simp
theorem loop_len (s : ByteArray) : ∀ (d i : Nat) (r : List UInt8), i + d = s.size → (ByteArray.toList.loop s i r).length = d + r.length := by
  intro d; induction d with
  | zero => intro i r h; rw [ByteArray.toList.loop, if_neg (by omega)]; simp
  | succ d ih => intro i r h; rw [ByteArray.toList.loop, if_pos (by omega), ih (i + 1) _ (by omega), List.length_cons]; omega
theorem empty_iff (s : ByteArray) : s.toList = ([] : List UInt8) ↔ s.size = 0 := by
  have h := loop_len s s.size 0 [] (by omega)
  have e : (s.toList).length = s.size := by unfold ByteArray.toList; simpa using h
  constructor
  · intro h'; rw [h'] at e; simpa using e.symm
  · intro h'; exact List.eq_nil_of_length_eq_zero (by omega)
/-- all over the places from i on -/
def allFrom (s : ByteArray) (i d : Nat) : Bool := (List.range' i d).all (letB s)
theorem allFrom_succ (s : ByteArray) (i d : Nat) : allFrom s i (d + 1) = (letB s i && allFrom s (i + 1) d) := by simp [allFrom, List.range'_succ]
theorem allFrom_all (s : ByteArray) : allFrom s 0 s.size = (List.range s.size).all (letB s) := by simp [allFrom, List.range_eq_range']
theorem named_loop {s : ByteArray} (hs : s.size ≤ 1000000) : ∀ (d : Nat) (i : Nat), i + d = s.size → Ev (fun k => plant_named.l0 k s (s.size : Int) (i : Int)) (allFrom s i d && (decide (1 ≤ s.size) && decide (s.size ≤ 12))) := by
  intro d; induction d with
  | zero =>
    intro i hi
    refine Ev.step (fun _ => rfl) ?_
    simp only [plant_named.l0, show ¬ (i : Int) < (s.size : Int) by omega, if_false]
    by_cases h : s.toList = ([] : List UInt8)
    · have := (empty_iff s).1 h
      simp only [h, if_true, allFrom, this]; exact Ev.now _
    · have h1 : 1 ≤ s.size := by
        by_cases h2 : s.size = 0
        · exact absurd ((empty_iff s).2 h2) h
        · omega
      have e : decide ((s.size : Int) ≤ 12) = decide (s.size ≤ 12) := by rw [decide_eq_decide]; omega
      simp only [h, if_false, allFrom, List.range'_zero, List.all_nil, Bool.true_and, h1, decide_true, e]; exact Ev.now _
  | succ d ih =>
    intro i hi
    have hb : (if bt s (i : Int) < 97 then true else decide (bt s (i : Int) > 122)) = !letB s i := by
      unfold letB inB
      by_cases h : bt s (i : Int) < 97
      · rw [if_pos h]; simp; omega
      · rw [if_neg h]; by_cases h2 : bt s (i : Int) > 122 <;> simp [h2] <;> omega
    have hi0 : (i : Int) < (s.size : Int) := by omega
    have i0 : (0 : Int) ≤ (i : Int) := by omega
    have wi : wrap64 ((i : Int) + 1) = ((i + 1 : Nat) : Int) := by rw [w64_in (by omega) (by omega)]; omega
    have tail : Ev (fun k => plant_named.j1 k s (s.size : Int) (i : Int) (!letB s i)) (allFrom s i (d + 1) && (decide (1 ≤ s.size) && decide (s.size ≤ 12))) := by
      rw [allFrom_succ]
      refine Ev.step (fun _ => rfl) ?_
      cases hl : letB s i with
      | true =>
        simp only [plant_named.j1, Bool.not_true, Bool.false_eq_true, if_false, wi, Bool.true_and]
        exact ih (i + 1) (by omega)
      | false =>
        simp only [plant_named.j1, Bool.not_false, if_true, Bool.false_and]; exact Ev.now _
    refine Ev.step (fun _ => rfl) ?_
    rw [← hb] at tail
    simp only [plant_named.l0, hi0, i0, if_true]
    by_cases h : bt s (i : Int) < 97
    · simp only [h, if_true] at tail ⊢; exact tail
    · simp only [h, if_false] at tail ⊢; exact tail
theorem named_ok {s : ByteArray} (hs : s.size ≤ 1000000) : Ev (fun k => plant_named.f k s) (nmB s) := by
  have h := named_loop hs s.size 0 (by omega)
  rw [allFrom_all, Bool.and_comm] at h
  exact h
theorem Named_loop {s : ByteArray} (hs : s.size ≤ 1000000) : ∀ (d : Nat) (i : Nat), i + d = s.size → Ev (fun k => hinterlandref10_Named.l0 k s (i : Int)) (allFrom s i d) := by
  intro d; induction d with
  | zero =>
    intro i hi
    refine Ev.step (fun _ => rfl) ?_
    simp only [hinterlandref10_Named.l0, show ¬ (i : Int) < (s.size : Int) by omega, if_false, allFrom]; exact Ev.now _
  | succ d ih =>
    intro i hi
    have hb : (if bt s (i : Int) < 97 then true else decide (bt s (i : Int) > 122)) = !letB s i := by
      unfold letB inB
      by_cases h : bt s (i : Int) < 97
      · rw [if_pos h]; simp; omega
      · rw [if_neg h]; by_cases h2 : bt s (i : Int) > 122 <;> simp [h2] <;> omega
    have hi0 : (i : Int) < (s.size : Int) := by omega
    have i0 : (0 : Int) ≤ (i : Int) := by omega
    have wi : wrap64 ((i : Int) + 1) = ((i + 1 : Nat) : Int) := by rw [w64_in (by omega) (by omega)]; omega
    have tail : Ev (fun k => hinterlandref10_Named.j2 k s (i : Int) (!letB s i)) (allFrom s i (d + 1)) := by
      rw [allFrom_succ]
      refine Ev.step (fun _ => rfl) ?_
      cases hl : letB s i with
      | true =>
        simp only [hinterlandref10_Named.j2, Bool.not_true, Bool.false_eq_true, if_false, wi, Bool.true_and]
        exact ih (i + 1) (by omega)
      | false =>
        simp only [hinterlandref10_Named.j2, Bool.not_false, if_true, Bool.false_and]; exact Ev.now _
    refine Ev.step (fun _ => rfl) ?_
    rw [← hb] at tail
    simp only [hinterlandref10_Named.l0, hi0, i0, if_true]
    by_cases h : bt s (i : Int) < 97
    · simp only [h, if_true] at tail ⊢; exact tail
    · simp only [h, if_false] at tail ⊢; exact tail
theorem Named_ok {s : ByteArray} (hs : s.size ≤ 1000000) : Ev (fun k => hinterlandref10_Named.f k s) (nmB s) := by
  unfold hinterlandref10_Named.f nmB
  have h := Named_loop hs s.size 0 (by omega)
  rw [allFrom_all] at h
  by_cases h1 : (s.size : Int) < 1
  · simp only [h1, if_true, show ¬ 1 ≤ s.size by omega, decide_false, Bool.false_and]
    refine Ev.step (fun _ => rfl) ?_
    simp only [hinterlandref10_Named.j0, if_true]; exact Ev.now _
  · simp only [h1, if_false, show 1 ≤ s.size by omega, decide_true, Bool.true_and]
    refine Ev.step (fun _ => rfl) ?_
    by_cases h2 : s.size ≤ 12
    · simp only [hinterlandref10_Named.j0, show ¬ (s.size : Int) > 12 by omega, decide_false, Bool.false_eq_true, if_false, h2, decide_true, Bool.true_and]
      exact h
    · simp only [hinterlandref10_Named.j0, show (s.size : Int) > 12 by omega, decide_true, if_true, h2, decide_false, Bool.false_and]; exact Ev.now _
theorem within_loop (hi : Int) {l : List Int} (hl : l.length ≤ 1000000) : ∀ (d i : Nat), i + d = l.length → Ev (fun k => plant_within.l0 k hi l (l.length : Int) (i : Int)) ((l.drop i).all (inB 0 hi)) := by
  intro d; induction d with
  | zero =>
    intro i hi'
    refine Ev.step (fun _ => rfl) ?_
    simp only [plant_within.l0, show ¬ (i : Int) < (l.length : Int) by omega, if_false, List.drop_of_length_le (show l.length ≤ i by omega), List.all_nil]; exact Ev.now _
  | succ d ih =>
    intro i hi'
    have hi0 : (i : Int) < (l.length : Int) := by omega
    have i0 : (0 : Int) ≤ (i : Int) := by omega
    have hr : l.drop i = rd l (i : Int) :: l.drop (i + 1) := by
      unfold rd
      rw [List.drop_eq_getElem_cons (by omega), List.getD_eq_getElem?_getD, List.getElem?_eq_getElem (by simp; omega)]; simp
    have hb : (if rd l (i : Int) < 0 then true else decide (rd l (i : Int) > hi)) = !inB 0 hi (rd l (i : Int)) := by
      unfold inB
      by_cases h : rd l (i : Int) < 0
      · rw [if_pos h]; simp; omega
      · rw [if_neg h]; by_cases h2 : rd l (i : Int) > hi <;> simp [h2] <;> omega
    have wi : wrap64 ((i : Int) + 1) = ((i + 1 : Nat) : Int) := by rw [w64_in (by omega) (by omega)]; omega
    have tail : Ev (fun k => plant_within.j1 k hi l (l.length : Int) (i : Int) (!inB 0 hi (rd l (i : Int)))) ((l.drop i).all (inB 0 hi)) := by
      rw [hr, List.all_cons]
      refine Ev.step (fun _ => rfl) ?_
      cases hl : inB 0 hi (rd l (i : Int)) with
      | true =>
        simp only [plant_within.j1, Bool.not_true, Bool.false_eq_true, if_false, wi, Bool.true_and]
        exact ih (i + 1) (by omega)
      | false =>
        simp only [plant_within.j1, Bool.not_false, if_true, Bool.false_and]; exact Ev.now _
    refine Ev.step (fun _ => rfl) ?_
    rw [← hb] at tail
    simp only [plant_within.l0, hi0, i0, if_true]
    by_cases h : rd l (i : Int) < 0
    · simp only [h, if_true] at tail ⊢; exact tail
    · simp only [h, if_false] at tail ⊢; exact tail
theorem within_ok (hi : Int) {l : List Int} (hl : l.length ≤ 1000000) : Ev (fun k => plant_within.f k hi l) (l.all (inB 0 hi)) := within_loop hi hl l.length 0 (by omega)
theorem rwithin (a lo hi : Int) : hinterlandref10_within.f a lo hi = some (inB lo hi a) := by
  unfold hinterlandref10_within.f inB
  by_cases h1 : a ≥ lo
  · by_cases h2 : a ≤ hi
    · simp [h1, h2]
    · simp [h1, h2]
  · simp [h1]
end Go.Proofs.Ytnkgelnkoljgdaa.Mod
namespace Go.Proofs.Ytnkgelnkoljgdaa.Kin
open Go.RowKit Go.Proofs.YtnkgelnkoljgdaaOwn Go.Proofs.Ytnkgelnkoljgdaa.Q Go.Proofs.Ytnkgelnkoljgdaa.Mod Go.Proofs.YtnkgelnkoljgdaaW.PrintWords Go.Proofs.YtnkgelnkoljgdaaW.PrintLast Go.Proofs.YtnkgelnkoljgdaaW.PrintMore
set_option linter.unusedVariables false
set_option linter.unusedSimpArgs false
/-- A cargo that is taken stands right. -/
def tOK (T : List Int) (i : Nat) : Bool := inB 0 15 (rd T (i : Int)) && (decide (i = 0) || decide (rd T ((i : Int) - 1) < rd T (i : Int)))
/-- A cargo that is made stands right. -/
def mOK (M : List S41) (i : Nat) : Bool := inB 0 15 (rd_T41 M (i : Int)).f0 && (inB 1 1000 (rd_T41 M (i : Int)).f1 && (decide (i = 0) || decide ((rd_T41 M ((i : Int) - 1)).f0 < (rd_T41 M (i : Int)).f0)))
/-- A kind is right. -/
def kB (m : S39) : Bool := nmB m.f0 && (decide (m.f1.length ≤ 4) && (decide (m.f2.length ≤ 4) && ((List.range' 0 m.f1.length).all (tOK m.f1) && (List.range' 0 m.f2.length).all (mOK m.f2))))
theorem pm_loop (s : ByteArray) (T : List Int) {M : List S41} (hM : M.length ≤ 1000000) : ∀ (d i : Nat), i + d = M.length → Ev (fun k => plant_kind.l1 k M (M.length : Int) (i : Int) s T M) ((List.range' i d).all (mOK M)) := by
  intro d; induction d with
  | zero =>
    intro i hi
    refine Ev.step (fun _ => rfl) ?_
    simp only [plant_kind.l1, show ¬ (i : Int) < (M.length : Int) by omega, if_false, List.range'_zero, List.all_nil]; exact Ev.now _
  | succ d ih =>
    intro i hi
    have hi0 : (i : Int) < (M.length : Int) := by omega
    have i0 : (0 : Int) ≤ (i : Int) := by omega
    have wi : wrap64 ((i : Int) + 1) = ((i + 1 : Nat) : Int) := by rw [w64_in (by omega) (by omega)]; omega
    have wp : wrap64 ((i : Int) - 1) = (i : Int) - 1 := w64_in (by omega) (by omega)
    have tail : ∀ b, mOK M i = !b → Ev (fun k => plant_kind.j4 k M (M.length : Int) (i : Int) b s T M) ((List.range' i (d + 1)).all (mOK M)) := by
      intro b hb
      rw [List.range'_succ, List.all_cons, hb]
      refine Ev.step (fun _ => rfl) ?_
      cases b with
      | true => simp only [plant_kind.j4, if_true, Bool.not_true, Bool.false_and]; exact Ev.now _
      | false => simp only [plant_kind.j4, Bool.false_eq_true, if_false, wi, Bool.not_false, Bool.true_and]; exact ih (i + 1) (by omega)
    refine Ev.step (fun _ => rfl) ?_
    simp only [plant_kind.l1, hi0, i0, if_true]
    by_cases h1 : (rd_T41 M (i : Int)).f0 < 0
    · simp only [h1, if_true]; exact tail true (by unfold mOK inB; simp; omega)
    · by_cases h2 : (rd_T41 M (i : Int)).f0 ≥ 16
      · simp only [h1, h2, if_true, if_false]; exact tail true (by unfold mOK inB; simp; omega)
      · by_cases h3 : (rd_T41 M (i : Int)).f1 < 1
        · simp only [h1, h2, h3, if_true, if_false]; exact tail true (by unfold mOK inB; simp; omega)
        · by_cases h4 : (rd_T41 M (i : Int)).f1 > 1000
          · simp only [h1, h2, h3, h4, if_true, if_false]; exact tail true (by unfold mOK inB; simp; omega)
          · have e1 : inB 0 15 (rd_T41 M (i : Int)).f0 = true := inB_true.2 (by omega)
            have e2 : inB 1 1000 (rd_T41 M (i : Int)).f1 = true := inB_true.2 (by omega)
            by_cases h5 : (i : Int) > 0
            · have a0 : (0 : Int) ≤ (i : Int) - 1 := by omega
              have a1 : (i : Int) - 1 < (M.length : Int) := by omega
              simp only [h1, h2, h3, h4, h5, wp, a0, a1, if_true, if_false]
              refine tail _ ?_
              unfold mOK; rw [e1, e2, show decide (i = 0) = false by simp; omega]
              simp only [Bool.true_and, Bool.false_or, ← decide_not, decide_eq_decide]; omega
            · simp only [h1, h2, h3, h4, h5, if_true, if_false]
              refine tail _ ?_
              unfold mOK; rw [e1, e2, show decide (i = 0) = true by simp; omega]; simp
theorem pt_loop (s : ByteArray) {T : List Int} {M : List S41} (hT : T.length ≤ 1000000) {r : Bool} (h : Ev (fun k => plant_kind.l1 k M (M.length : Int) 0 s T M) r) : ∀ (d i : Nat), i + d = T.length → Ev (fun k => plant_kind.l0 k T (T.length : Int) (i : Int) s T M) ((List.range' i d).all (tOK T) && r) := by
  intro d; induction d with
  | zero =>
    intro i hi
    refine Ev.step (fun _ => rfl) ?_
    simp only [plant_kind.l0, show ¬ (i : Int) < (T.length : Int) by omega, if_false, List.range'_zero, List.all_nil, Bool.true_and]; exact h
  | succ d ih =>
    intro i hi
    have hi0 : (i : Int) < (T.length : Int) := by omega
    have i0 : (0 : Int) ≤ (i : Int) := by omega
    have wi : wrap64 ((i : Int) + 1) = ((i + 1 : Nat) : Int) := by rw [w64_in (by omega) (by omega)]; omega
    have wp : wrap64 ((i : Int) - 1) = (i : Int) - 1 := w64_in (by omega) (by omega)
    have tail : ∀ b, tOK T i = !b → Ev (fun k => plant_kind.j2 k T (T.length : Int) (i : Int) b s T M) ((List.range' i (d + 1)).all (tOK T) && r) := by
      intro b hb
      rw [List.range'_succ, List.all_cons, hb]
      refine Ev.step (fun _ => rfl) ?_
      cases b with
      | true => simp only [plant_kind.j2, if_true, Bool.not_true, Bool.false_and]; exact Ev.now _
      | false => simp only [plant_kind.j2, Bool.false_eq_true, if_false, wi, Bool.not_false, Bool.true_and]; exact ih (i + 1) (by omega)
    refine Ev.step (fun _ => rfl) ?_
    simp only [plant_kind.l0, hi0, i0, if_true]
    by_cases h1 : rd T (i : Int) < 0
    · simp only [h1, if_true]; exact tail true (by unfold tOK inB; simp; omega)
    · by_cases h2 : rd T (i : Int) ≥ 16
      · simp only [h1, h2, if_true, if_false]; exact tail true (by unfold tOK inB; simp; omega)
      · have e1 : inB 0 15 (rd T (i : Int)) = true := inB_true.2 (by omega)
        by_cases h5 : (i : Int) > 0
        · have a0 : (0 : Int) ≤ (i : Int) - 1 := by omega
          have a1 : (i : Int) - 1 < (T.length : Int) := by omega
          simp only [h1, h2, h5, wp, a0, a1, if_true, if_false]
          refine tail _ ?_
          unfold tOK; rw [e1, show decide (i = 0) = false by simp; omega]
          simp only [Bool.true_and, Bool.false_or, ← decide_not, decide_eq_decide]; omega
        · simp only [h1, h2, h5, if_true, if_false]
          refine tail _ ?_
          unfold tOK; rw [e1, show decide (i = 0) = true by simp; omega]; simp
theorem pkind_ok (m : S39) (h0 : m.f0.size ≤ 1000000) (h1 : m.f1.length ≤ 1000000) (h2 : m.f2.length ≤ 1000000) : Ev (fun k => plant_kind.f k m.f0 m.f1 m.f2) (kB m) := by
  unfold plant_kind.f kB
  refine Ev.bind (named_ok h0) ?_
  have bad : Ev (fun k => plant_kind.j0 k true m.f0 m.f1 m.f2) false := by
    refine Ev.step (fun _ => rfl) ?_
    simp only [plant_kind.j0, if_true]; exact Ev.now _
  cases nmB m.f0 with
  | false => simp only [Bool.false_eq_true, if_false, Bool.false_and]; exact bad
  | true =>
    simp only [if_true, Bool.true_and]
    by_cases a1 : (m.f1.length : Int) > 4
    · simp only [a1, if_true, show ¬ m.f1.length ≤ 4 by omega, decide_false, Bool.false_and]; exact bad
    · simp only [a1, if_false, show m.f1.length ≤ 4 by omega, decide_true, Bool.true_and]
      by_cases a2 : (m.f2.length : Int) > 4
      · simp only [a2, decide_true, show ¬ m.f2.length ≤ 4 by omega, decide_false, Bool.false_and]; exact bad
      · simp only [a2, decide_false, show m.f2.length ≤ 4 by omega, decide_true, Bool.true_and]
        refine Ev.step (fun _ => rfl) ?_
        simp only [plant_kind.j0, Bool.false_eq_true, if_false]
        exact pt_loop m.f0 h1 (pm_loop m.f0 m.f1 h2 m.f2.length 0 (by omega)) m.f1.length 0 (by omega)
theorem rm_loop (s : ByteArray) (T : List Int) {M : List S41} (hM : M.length ≤ 1000000) : ∀ (d i : Nat), i + d = M.length → Ev (fun k => hinterlandref10_right.l1 k M (M.length : Int) (i : Int) s T M) ((List.range' i d).all (mOK M)) := by
  intro d; induction d with
  | zero =>
    intro i hi
    refine Ev.step (fun _ => rfl) ?_
    simp only [hinterlandref10_right.l1, show ¬ (i : Int) < (M.length : Int) by omega, if_false, List.range'_zero, List.all_nil]; exact Ev.now _
  | succ d ih =>
    intro i hi
    have hi0 : (i : Int) < (M.length : Int) := by omega
    have i0 : (0 : Int) ≤ (i : Int) := by omega
    have wi : wrap64 ((i : Int) + 1) = ((i + 1 : Nat) : Int) := by rw [w64_in (by omega) (by omega)]; omega
    have wp : wrap64 ((i : Int) - 1) = (i : Int) - 1 := w64_in (by omega) (by omega)
    have tail : ∀ b, mOK M i = !b → Ev (fun k => hinterlandref10_right.j4 k M (M.length : Int) (i : Int) b s T M) ((List.range' i (d + 1)).all (mOK M)) := by
      intro b hb
      rw [List.range'_succ, List.all_cons, hb]
      refine Ev.step (fun _ => rfl) ?_
      cases b with
      | true => simp only [hinterlandref10_right.j4, if_true, Bool.not_true, Bool.false_and]; exact Ev.now _
      | false => simp only [hinterlandref10_right.j4, Bool.false_eq_true, if_false, wi, Bool.not_false, Bool.true_and]; exact ih (i + 1) (by omega)
    refine Ev.step (fun _ => rfl) ?_
    simp only [hinterlandref10_right.l1, hi0, i0, if_true, rwithin, Option.bind_some]
    cases e1 : inB 0 15 (rd_T41 M (i : Int)).f0 with
    | false => simp only [Bool.false_eq_true, if_false]; exact tail true (by unfold mOK; rw [e1]; rfl)
    | true =>
      cases e2 : inB 1 1000 (rd_T41 M (i : Int)).f1 with
      | false => simp only [Bool.false_eq_true, if_false, if_true]; exact tail true (by unfold mOK; rw [e1, e2]; rfl)
      | true =>
        by_cases h5 : (i : Int) > 0
        · have a0 : (0 : Int) ≤ (i : Int) - 1 := by omega
          have a1 : (i : Int) - 1 < (M.length : Int) := by omega
          simp only [h5, wp, a0, a1, if_true]
          refine tail _ ?_
          unfold mOK; rw [e1, e2, show decide (i = 0) = false by simp; omega]
          simp only [Bool.true_and, Bool.false_or, ← decide_not, decide_eq_decide]; omega
        · simp only [h5, if_true, if_false]
          refine tail _ ?_
          unfold mOK; rw [e1, e2, show decide (i = 0) = true by simp; omega]; simp
theorem rt_loop (s : ByteArray) {T : List Int} {M : List S41} (hT : T.length ≤ 1000000) {r : Bool} (h : Ev (fun k => hinterlandref10_right.l1 k M (M.length : Int) 0 s T M) r) : ∀ (d i : Nat), i + d = T.length → Ev (fun k => hinterlandref10_right.l0 k T (T.length : Int) (i : Int) s T M) ((List.range' i d).all (tOK T) && r) := by
  intro d; induction d with
  | zero =>
    intro i hi
    refine Ev.step (fun _ => rfl) ?_
    simp only [hinterlandref10_right.l0, show ¬ (i : Int) < (T.length : Int) by omega, if_false, List.range'_zero, List.all_nil, Bool.true_and]; exact h
  | succ d ih =>
    intro i hi
    have hi0 : (i : Int) < (T.length : Int) := by omega
    have i0 : (0 : Int) ≤ (i : Int) := by omega
    have wi : wrap64 ((i : Int) + 1) = ((i + 1 : Nat) : Int) := by rw [w64_in (by omega) (by omega)]; omega
    have wp : wrap64 ((i : Int) - 1) = (i : Int) - 1 := w64_in (by omega) (by omega)
    have tail : ∀ b, tOK T i = !b → Ev (fun k => hinterlandref10_right.j2 k T (T.length : Int) (i : Int) b s T M) ((List.range' i (d + 1)).all (tOK T) && r) := by
      intro b hb
      rw [List.range'_succ, List.all_cons, hb]
      refine Ev.step (fun _ => rfl) ?_
      cases b with
      | true => simp only [hinterlandref10_right.j2, if_true, Bool.not_true, Bool.false_and]; exact Ev.now _
      | false => simp only [hinterlandref10_right.j2, Bool.false_eq_true, if_false, wi, Bool.not_false, Bool.true_and]; exact ih (i + 1) (by omega)
    refine Ev.step (fun _ => rfl) ?_
    simp only [hinterlandref10_right.l0, hi0, i0, if_true, rwithin, Option.bind_some]
    cases e1 : inB 0 15 (rd T (i : Int)) with
    | false => simp only [Bool.false_eq_true, if_false]; exact tail true (by unfold tOK; rw [e1]; rfl)
    | true =>
      by_cases h5 : (i : Int) > 0
      · have a0 : (0 : Int) ≤ (i : Int) - 1 := by omega
        have a1 : (i : Int) - 1 < (T.length : Int) := by omega
        simp only [h5, wp, a0, a1, if_true]
        refine tail _ ?_
        unfold tOK; rw [e1, show decide (i = 0) = false by simp; omega]
        simp only [Bool.true_and, Bool.false_or, ← decide_not, decide_eq_decide]; omega
      · simp only [h5, if_true, if_false]
        refine tail _ ?_
        unfold tOK; rw [e1, show decide (i = 0) = true by simp; omega]; simp
theorem rkind_ok (m : S39) (h0 : m.f0.size ≤ 1000000) (h1 : m.f1.length ≤ 1000000) (h2 : m.f2.length ≤ 1000000) : Ev (fun k => hinterlandref10_right.f k m.f0 m.f1 m.f2) (kB m) := by
  unfold hinterlandref10_right.f kB
  refine Ev.bind (Named_ok h0) ?_
  have bad : Ev (fun k => hinterlandref10_right.j0 k true m.f0 m.f1 m.f2) false := by
    refine Ev.step (fun _ => rfl) ?_
    simp only [hinterlandref10_right.j0, if_true]; exact Ev.now _
  cases nmB m.f0 with
  | false => simp only [Bool.false_eq_true, if_false, Bool.false_and]; exact bad
  | true =>
    simp only [if_true, Bool.true_and]
    by_cases a1 : (m.f1.length : Int) > 4
    · simp only [a1, if_true, show ¬ m.f1.length ≤ 4 by omega, decide_false, Bool.false_and]; exact bad
    · simp only [a1, if_false, show m.f1.length ≤ 4 by omega, decide_true, Bool.true_and]
      by_cases a2 : (m.f2.length : Int) > 4
      · simp only [a2, decide_true, show ¬ m.f2.length ≤ 4 by omega, decide_false, Bool.false_and]; exact bad
      · simp only [a2, decide_false, show m.f2.length ≤ 4 by omega, decide_true, Bool.true_and]
        refine Ev.step (fun _ => rfl) ?_
        simp only [hinterlandref10_right.j0, Bool.false_eq_true, if_false]
        exact rt_loop m.f0 h1 (rm_loop m.f0 m.f1 h2 m.f2.length 0 (by omega)) m.f1.length 0 (by omega)
structure GoodK (K : List S39) : Prop where
  len : K.length ≤ 16
  ok : ∀ i : Int, 0 ≤ i → i < (K.length : Int) → kB (rd_T39 K i) = true
structure Small (K : List S39) : Prop where
  len : K.length ≤ 300
  nm : ∀ i : Int, 0 ≤ i → i < (K.length : Int) → (rd_T39 K i).f0.size ≤ 300 ∧ (rd_T39 K i).f1.length ≤ 300 ∧ (rd_T39 K i).f2.length ≤ 300
theorem bytes_eq {a b : ByteArray} : a.toList = b.toList ↔ a = b := by
  constructor
  · intro h
    have ha : a.data.toList = b.data.toList := by
      have e : ∀ c : ByteArray, c.toList = c.data.toList := fun c => ByteArray.toList_eq c
      rw [← e a, ← e b]; exact h
    cases a; cases b; congr 1; exact Array.ext' ha
  · intro h; rw [h]
end Go.Proofs.Ytnkgelnkoljgdaa.Kin
namespace Go.Proofs.Ytnkgelnkoljgdaa.Vk
open Go.RowKit Go.Proofs.YtnkgelnkoljgdaaOwn Go.Proofs.Ytnkgelnkoljgdaa.Q Go.Proofs.Ytnkgelnkoljgdaa.Mod Go.Proofs.Ytnkgelnkoljgdaa.Kin Go.Proofs.YtnkgelnkoljgdaaW.PrintWords Go.Proofs.YtnkgelnkoljgdaaW.PrintLast Go.Proofs.YtnkgelnkoljgdaaW.PrintMore
set_option linter.unusedVariables false
set_option linter.unusedSimpArgs false
theorem dup_loop {K : List S39} (hK : K.length ≤ 1000000) {i : Int} {y : List S39} (hy : y.length ≤ 1000000) (m : S39) {r : Int} (h : Ev (fun k => hinterlandref10_ValidateKinds.l1 k K K (K.length : Int) (wrap64 (i + 1))) r) : ∀ (d j : Nat), j + d = y.length → Ev (fun k => hinterlandref10_ValidateKinds.l2 k K K (K.length : Int) i y (y.length : Int) (j : Int) m.f0 m.f1 m.f2) (if (y.drop j).any (fun x => decide (m.f0 = x.f0)) = true then 3 else r) := by
  intro d; induction d with
  | zero =>
    intro j hj
    refine Ev.step (fun _ => rfl) ?_
    simp only [hinterlandref10_ValidateKinds.l2, show ¬ (j : Int) < (y.length : Int) by omega, if_false, List.drop_of_length_le (show y.length ≤ j by omega), List.any_nil, Bool.false_eq_true]; exact h
  | succ d ih =>
    intro j hj
    have hj0 : (j : Int) < (y.length : Int) := by omega
    have j0 : (0 : Int) ≤ (j : Int) := by omega
    have wj : wrap64 ((j : Int) + 1) = ((j + 1 : Nat) : Int) := by rw [w64_in (by omega) (by omega)]; omega
    have hr : y.drop j = rd_T39 y (j : Int) :: y.drop (j + 1) := by
      unfold rd_T39
      rw [List.drop_eq_getElem_cons (by omega), List.getD_eq_getElem?_getD, List.getElem?_eq_getElem (by simp; omega)]; simp
    refine Ev.step (fun _ => rfl) ?_
    rw [hr, List.any_cons]
    simp only [hinterlandref10_ValidateKinds.l2, hj0, j0, if_true, wj]
    by_cases he : (rd_T39 y (j : Int)).f0 = m.f0
    · simp only [he, if_true, decide_true, Bool.true_or]; exact Ev.now _
    · have h1 : ¬ (rd_T39 y (j : Int)).f0.toList = m.f0.toList := fun e => he (bytes_eq.1 e)
      have h2 : ¬ m.f0 = (rd_T39 y (j : Int)).f0 := fun e => he e.symm
      simp only [h1, h2, if_false, decide_false, Bool.false_or]; exact ih (j + 1) (by omega)
theorem dups_both {K : List S39} (s : Small K) : ∀ (d i : Nat), i + d = K.length → ∃ r, Ev (fun k => plant_ValidateKinds.l1 k K (K.length : Int) (i : Int)) r ∧ Ev (fun k => hinterlandref10_ValidateKinds.l1 k K K (K.length : Int) (i : Int)) r := by
  have hK := s.len
  intro d; induction d with
  | zero =>
    intro i hi
    refine ⟨0, Ev.step (fun _ => rfl) ?_, Ev.step (fun _ => rfl) ?_⟩
    · simp only [plant_ValidateKinds.l1, show ¬ (i : Int) < (K.length : Int) by omega, if_false]; exact Ev.now _
    · simp only [hinterlandref10_ValidateKinds.l1, show ¬ (i : Int) < (K.length : Int) by omega, if_false]; exact Ev.now _
  | succ d ih =>
    intro i hi
    have hi0 : (i : Int) < (K.length : Int) := by omega
    have i0 : (0 : Int) ≤ (i : Int) := by omega
    have wi : wrap64 ((i : Int) + 1) = ((i + 1 : Nat) : Int) := by rw [w64_in (by omega) (by omega)]; omega
    have hs : (rd_T39 K (i : Int)).f0.size ≤ maxLen := by have := (s.nm i i0 hi0).1; unfold maxLen; omega
    obtain ⟨r, e1, e2⟩ := ih (i + 1) (by omega)
    have l2 := dup_loop (K := K) (by omega) (i := (i : Int)) (y := K.take i) (by simp; omega) (rd_T39 K (i : Int)) (r := r) (by rw [wi]; exact e2) (K.take i).length 0 (by omega)
    rw [List.drop_zero] at l2
    refine ⟨if plant_seen K (i : Int) = true then 3 else r, Ev.step (fun _ => rfl) ?_, Ev.step (fun _ => rfl) ?_⟩
    · simp only [plant_ValidateKinds.l1, hi0, i0, hs, if_true, wi]
      by_cases h : plant_seen K (i : Int) = true
      · simp only [h, if_true]; exact Ev.now _
      · simp only [h, if_false]; exact e1
    · simp only [hinterlandref10_ValidateKinds.l1, hi0, i0, show (i : Int) ≤ (K.length : Int) by omega, if_true, Option.bind_some, Int.toNat_natCast]
      have e : plant_seen K (i : Int) = (K.take i).any (fun x => decide ((rd_T39 K (i : Int)).f0 = x.f0)) := by unfold plant_seen; simp only [Int.toNat_natCast]
      rw [e]; exact l2
theorem oks_both {K : List S39} (s : Small K) {r : Int} (h1 : Ev (fun k => plant_ValidateKinds.l1 k K (K.length : Int) 0) r) (h2 : Ev (fun k => hinterlandref10_ValidateKinds.l1 k K K (K.length : Int) 0) r) : ∀ (d i : Nat), i + d = K.length → ∃ r', Ev (fun k => plant_ValidateKinds.l0 k K K (K.length : Int) (i : Int)) r' ∧ Ev (fun k => hinterlandref10_ValidateKinds.l0 k K K (K.length : Int) (i : Int)) r' ∧ (r' = 0 → ∀ j : Int, (i : Int) ≤ j → j < (K.length : Int) → kB (rd_T39 K j) = true) := by
  have hK := s.len
  intro d; induction d with
  | zero =>
    intro i hi
    refine ⟨r, Ev.step (fun _ => rfl) ?_, Ev.step (fun _ => rfl) ?_, fun _ j a b => by omega⟩
    · simp only [plant_ValidateKinds.l0, show ¬ (i : Int) < (K.length : Int) by omega, if_false]; exact h1
    · simp only [hinterlandref10_ValidateKinds.l0, show ¬ (i : Int) < (K.length : Int) by omega, if_false]; exact h2
  | succ d ih =>
    intro i hi
    have hi0 : (i : Int) < (K.length : Int) := by omega
    have i0 : (0 : Int) ≤ (i : Int) := by omega
    have wi : wrap64 ((i : Int) + 1) = ((i + 1 : Nat) : Int) := by rw [w64_in (by omega) (by omega)]; omega
    obtain ⟨n0, n1, n2⟩ := s.nm i i0 hi0
    have k1 := pkind_ok (rd_T39 K (i : Int)) (by omega) (by omega) (by omega)
    have k2 := rkind_ok (rd_T39 K (i : Int)) (by omega) (by omega) (by omega)
    cases hb : kB (rd_T39 K (i : Int)) with
    | false =>
      rw [hb] at k1 k2
      refine ⟨1, Ev.step (fun _ => rfl) ?_, Ev.step (fun _ => rfl) ?_, fun h => by omega⟩
      · simp only [plant_ValidateKinds.l0, hi0, i0, if_true]
        refine Ev.bind k1 ?_
        simp only [Bool.false_eq_true, if_false]; exact Ev.now _
      · simp only [hinterlandref10_ValidateKinds.l0, hi0, i0, if_true]
        refine Ev.bind k2 ?_
        simp only [Bool.false_eq_true, if_false]; exact Ev.now _
    | true =>
      rw [hb] at k1 k2
      obtain ⟨r', e1, e2, e3⟩ := ih (i + 1) (by omega)
      refine ⟨r', Ev.step (fun _ => rfl) ?_, Ev.step (fun _ => rfl) ?_, fun h j a b => ?_⟩
      · simp only [plant_ValidateKinds.l0, hi0, i0, if_true]
        refine Ev.bind k1 ?_
        simp only [if_true, wi]; exact e1
      · simp only [hinterlandref10_ValidateKinds.l0, hi0, i0, if_true]
        refine Ev.bind k2 ?_
        simp only [if_true, wi]; exact e2
      · by_cases he : j = (i : Int)
        · rw [he]; exact hb
        · exact e3 h j (by omega) b
theorem vk_both {K : List S39} (s : Small K) : ∃ r, Ev (fun k => plant_ValidateKinds.f k K) r ∧ Ev (fun k => hinterlandref10_ValidateKinds.f k K) r ∧ (r = 0 → GoodK K) := by
  unfold plant_ValidateKinds.f hinterlandref10_ValidateKinds.f
  by_cases h : (K.length : Int) > 16
  · refine ⟨4, ?_, ?_, fun h => by omega⟩
    · simp only [h, if_true]; exact Ev.now _
    · simp only [h, if_true]; exact Ev.now _
  · obtain ⟨r, d1, d2⟩ := dups_both s K.length 0 (by omega)
    obtain ⟨r', e1, e2, e3⟩ := oks_both s d1 d2 K.length 0 (by omega)
    refine ⟨r', ?_, ?_, fun hr => ⟨by omega, fun j a b => e3 hr j a b⟩⟩
    · simp only [h, if_false]; exact e1
    · simp only [h, if_false]; exact e2
theorem large_loop {K : List S39} (hM : K.length ≤ maxLen) {A B C D : List Int} (a1 a2 a3 a4 a5 : Int) (a6 : Bool) : ∀ (d : Nat) (i : Int), 0 ≤ i → i + d = (K.length : Int) → ∃ r, Ev (fun k => hinterlandlaw10_large.l0 k K K (K.length : Int) i a1 a2 a3 A B C D a4 a5 a6) r ∧ (r = false → (∀ j, i ≤ j → j < (K.length : Int) → (rd_T39 K j).f0.size ≤ 300 ∧ (rd_T39 K j).f1.length ≤ 300 ∧ (rd_T39 K j).f2.length ≤ 300) ∧ K.length ≤ 300 ∧ A.length ≤ 300 ∧ B.length ≤ 300 ∧ C.length ≤ 300 ∧ D.length ≤ 300) := by
  unfold maxLen at hM
  intro d; induction d with
  | zero =>
    intro i i0 hd
    have hi : ¬ i < (K.length : Int) := by omega
    by_cases h1 : (K.length : Int) > 300
    · exact ⟨true, Ev.step (fun _ => rfl) (by simp only [hinterlandlaw10_large.l0, hi, h1, if_false, if_true]; exact Ev.now _), fun h => by cases h⟩
    by_cases h2 : (A.length : Int) > 300
    · exact ⟨true, Ev.step (fun _ => rfl) (by simp only [hinterlandlaw10_large.l0, hi, h1, h2, if_false, if_true]; exact Ev.now _), fun h => by cases h⟩
    by_cases h3 : (B.length : Int) > 300
    · exact ⟨true, Ev.step (fun _ => rfl) (by simp only [hinterlandlaw10_large.l0, hi, h1, h2, h3, if_false, if_true]; exact Ev.now _), fun h => by cases h⟩
    by_cases h4 : (C.length : Int) > 300
    · exact ⟨true, Ev.step (fun _ => rfl) (by simp only [hinterlandlaw10_large.l0, hi, h1, h2, h3, h4, if_false, if_true]; exact Ev.now _), fun h => by cases h⟩
    · refine ⟨decide ((D.length : Int) > 300), Ev.step (fun _ => rfl) (by simp only [hinterlandlaw10_large.l0, hi, h1, h2, h3, h4, if_false]; exact Ev.now _), fun h => ⟨fun j a b => by omega, by omega, by omega, by omega, by omega, ?_⟩⟩
      have := of_decide_eq_false h; omega
  | succ d ih =>
    intro i i0 hd
    have hi : i < (K.length : Int) := by omega
    have wi : wrap64 (i + 1) = i + 1 := w64_in (by omega) (by omega)
    have yes : Ev (fun k => hinterlandlaw10_large.j1 k K K (K.length : Int) i true a1 a2 a3 A B C D a4 a5 a6) true := by
      refine Ev.step (fun _ => rfl) ?_
      simp only [hinterlandlaw10_large.j1, if_true]; exact Ev.now _
    by_cases h1 : ((rd_T39 K i).f1.length : Int) > 300
    · exact ⟨true, Ev.step (fun _ => rfl) (by simp only [hinterlandlaw10_large.l0, hi, i0, h1, if_true]; exact yes), fun h => by cases h⟩
    by_cases h2 : ((rd_T39 K i).f2.length : Int) > 300
    · exact ⟨true, Ev.step (fun _ => rfl) (by simp only [hinterlandlaw10_large.l0, hi, i0, h1, h2, if_true, if_false]; exact yes), fun h => by cases h⟩
    by_cases h3 : ((rd_T39 K i).f0.size : Int) > 300
    · exact ⟨true, Ev.step (fun _ => rfl) (by simp only [hinterlandlaw10_large.l0, hi, i0, h1, h2, h3, if_true, if_false, decide_true]; exact yes), fun h => by cases h⟩
    · obtain ⟨r, e1, e2⟩ := ih (i + 1) (by omega) (by omega)
      refine ⟨r, Ev.step (fun _ => rfl) (by
        simp only [hinterlandlaw10_large.l0, hi, i0, h1, h2, h3, if_true, if_false, decide_false]
        refine Ev.step (fun _ => rfl) ?_
        simp only [hinterlandlaw10_large.j1, Bool.false_eq_true, if_false, wi]; exact e1), fun h => ⟨fun j a b => ?_, (e2 h).2⟩⟩
      by_cases e : j = i
      · rw [e]; exact ⟨by omega, by omega, by omega⟩
      · exact (e2 h).1 j (by omega) b
theorem large_ok {K : List S39} (hK : wRow wT39 K) (A B C D : List Int) (a1 a2 a3 a4 a5 : Int) (a6 : Bool) : ∃ r, Ev (fun k => hinterlandlaw10_large.f k K a1 a2 a3 A B C D a4 a5 a6) r ∧ (r = false → Small K ∧ A.length ≤ 300 ∧ B.length ≤ 300 ∧ C.length ≤ 300 ∧ D.length ≤ 300) := by
  obtain ⟨r, e1, e2⟩ := large_loop hK.1 (A := A) (B := B) (C := C) (D := D) a1 a2 a3 a4 a5 a6 K.length 0 (by omega) (by omega)
  exact ⟨r, e1, fun h => ⟨⟨(e2 h).2.1, fun i a b => (e2 h).1 i a b⟩, (e2 h).2.2⟩⟩
end Go.Proofs.Ytnkgelnkoljgdaa.Vk
namespace Go.Proofs.Ytnkgelnkoljgdaa.Val
open Go.RowKit Go.Proofs.YtnkgelnkoljgdaaOwn Go.Proofs.Ytnkgelnkoljgdaa.Q Go.Proofs.Ytnkgelnkoljgdaa.Mod Go.Proofs.Ytnkgelnkoljgdaa.Kin Go.Proofs.Ytnkgelnkoljgdaa.Vk Go.Proofs.YtnkgelnkoljgdaaW.PrintWords Go.Proofs.YtnkgelnkoljgdaaW.PrintLast Go.Proofs.YtnkgelnkoljgdaaW.PrintMore
set_option linter.unusedVariables false
set_option linter.unusedSimpArgs false
/-- A plant's numbers lie right, its kind making n cargoes. -/
def plB (n : Nat) (tile level : Int) (S R Md Mv : List Int) (got idle : Int) : Bool :=
  inB 0 1000000 tile && inB 1 64 level && (decide (S.length = n) && decide (R.length = n) && decide (Md.length = n) && decide (Mv.length = n)) && (S.all (inB 0 1000000) && R.all (inB 0 7) && Md.all (inB 0 1000000) && Mv.all (inB 0 1000000)) && (inB 0 1000000 got && inB 0 1000000 idle)
/-- The first error of a plant, behind v, that of its kinds. -/
def vr (v : Int) (K : List S39) (kind tile level : Int) (S R Md Mv : List Int) (got idle : Int) : Int :=
  if v ≠ 0 then v else if 0 ≤ kind ∧ kind < (K.length : Int) then (if plB (rd_T39 K kind).f2.length tile level S R Md Mv got idle = true then 0 else 1) else 2
section
variable {K : List S39} {kind tile level : Int} {S R Md Mv : List Int} {got idle : Int} {op : Bool}
theorem two_all (a b : Int) : ([a, b] : List Int).all (inB 0 1000000) = (inB 0 1000000 a && inB 0 1000000 b) := by simp
theorem valid_ok {v : Int} (hS : S.length ≤ 300) (hR : R.length ≤ 300) (hM : Md.length ≤ 300) (hV : Mv.length ≤ 300) (hv : Ev (fun k => plant_ValidateKinds.f k K) v) : Ev (fun k => plant_Validate.f k K kind tile level S R Md Mv got idle op) (vr v K kind tile level S R Md Mv got idle) := by
  unfold plant_Validate.f vr
  refine Ev.bind hv ?_
  by_cases h0 : v = 0
  · simp only [h0, if_true, ne_eq, not_true_eq_false, if_false]
    have two : Ev (fun k => plant_Validate.j0 k K true kind tile level S R Md Mv got idle op) (2 : Int) := by
      refine Ev.step (fun _ => rfl) ?_
      simp only [plant_Validate.j0, if_true]; exact Ev.now _
    by_cases hk0 : kind < 0
    · simp only [hk0, if_true, show ¬ (0 ≤ kind ∧ kind < (K.length : Int)) by omega, if_false]; exact two
    · by_cases hk1 : kind ≥ (K.length : Int)
      · simp only [hk0, if_false, hk1, decide_true, show ¬ (0 ≤ kind ∧ kind < (K.length : Int)) by omega]; exact two
      · have a0 : 0 ≤ kind := by omega
        have a1 : kind < (K.length : Int) := by omega
        simp only [hk0, if_false, hk1, decide_false, a0, a1, and_self, if_true]
        refine Ev.step (fun _ => rfl) ?_
        simp only [plant_Validate.j0, Bool.false_eq_true, if_false, a0, a1, if_true]
        have one : Ev (fun k => plant_Validate.j1 k true kind tile level S R Md Mv got idle op) (1 : Int) := by
          refine Ev.step (fun _ => rfl) ?_
          simp only [plant_Validate.j1, if_true]; exact Ev.now _
        have last : ∀ b, Ev (fun k => plant_Validate.j2 k (!b)) (if b = true then (0 : Int) else 1) := by
          intro b
          refine Ev.step (fun _ => rfl) ?_
          cases b with
          | true => simp only [plant_Validate.j2, Bool.not_true, Bool.false_eq_true, if_false, if_true]; exact Ev.now _
          | false => simp only [plant_Validate.j2, Bool.not_false, Bool.false_eq_true, if_false, if_true]; exact Ev.now _
        have bad : Ev (fun k => plant_Validate.j2 k true) (1 : Int) := last false
        have hne : ∀ l : List Int, ((l.length : Int) = ((rd_T39 K kind).f2.length : Int)) ↔ l.length = (rd_T39 K kind).f2.length := fun l => by omega
        unfold plB
        by_cases b1 : tile < 0
        · simp only [b1, if_true, show inB 0 1000000 tile = false by unfold inB; simp; omega, Bool.false_and, Bool.false_eq_true, if_false]; exact one
        by_cases b2 : tile > 1000000
        · simp only [b1, b2, if_true, if_false, show inB 0 1000000 tile = false by unfold inB; simp; omega, Bool.false_and, Bool.false_eq_true]; exact one
        have t1 : inB 0 1000000 tile = true := inB_true.2 (by omega)
        by_cases b3 : level < 1
        · simp only [b1, b2, b3, if_true, if_false, show inB 1 64 level = false by unfold inB; simp; omega, Bool.false_and, Bool.and_false, Bool.false_eq_true]; exact one
        by_cases b4 : level > 64
        · simp only [b1, b2, b3, b4, if_true, if_false, show inB 1 64 level = false by unfold inB; simp; omega, Bool.false_and, Bool.and_false, Bool.false_eq_true]; exact one
        have t2 : inB 1 64 level = true := inB_true.2 (by omega)
        simp only [b1, b2, b3, b4, if_false, hne, t1, t2, Bool.true_and]
        by_cases c1 : S.length = (rd_T39 K kind).f2.length
        · by_cases c2 : R.length = (rd_T39 K kind).f2.length
          · by_cases c3 : Md.length = (rd_T39 K kind).f2.length
            · by_cases c4 : Mv.length = (rd_T39 K kind).f2.length
              · have c5 : ((Mv.length : Int) != ((rd_T39 K kind).f2.length : Int)) = false := by rw [c4]; simp
                simp only [c1, c2, c3, c4, c5, if_true, decide_true, Bool.true_and, bne_self_eq_false]
                refine Ev.step (fun _ => rfl) ?_
                simp only [plant_Validate.j1, Bool.false_eq_true, if_false]
                refine Ev.bind (within_ok _ (by omega)) ?_
                cases S.all (inB 0 1000000) with
                | false => simp only [Bool.false_eq_true, if_false, Bool.false_and]; exact bad
                | true =>
                  simp only [if_true, Bool.true_and]
                  refine Ev.bind (within_ok _ (by omega)) ?_
                  cases R.all (inB 0 7) with
                  | false => simp only [Bool.false_eq_true, if_false, Bool.false_and]; exact bad
                  | true =>
                    simp only [if_true, Bool.true_and]
                    refine Ev.bind (within_ok _ (by omega)) ?_
                    cases Md.all (inB 0 1000000) with
                    | false => simp only [Bool.false_eq_true, if_false, Bool.false_and]; exact bad
                    | true =>
                      simp only [if_true, Bool.true_and]
                      refine Ev.bind (within_ok _ (by omega)) ?_
                      cases Mv.all (inB 0 1000000) with
                      | false => simp only [Bool.false_eq_true, if_false, Bool.false_and]; exact bad
                      | true =>
                        simp only [if_true, Bool.true_and]
                        refine Ev.bind (within_ok _ (by simp)) ?_
                        rw [two_all]; exact last _
              · have c5 : ((Mv.length : Int) != ((rd_T39 K kind).f2.length : Int)) = true := by simp; omega
                simp only [c1, c2, c3, c4, c5, if_true, decide_false, Bool.and_false, Bool.false_and, Bool.false_eq_true, if_false]; exact one
            · simp only [c1, c2, c3, if_true, if_false, decide_false, Bool.and_false, Bool.false_and, Bool.false_eq_true]; exact one
          · simp only [c1, c2, if_true, if_false, decide_false, Bool.and_false, Bool.false_and, Bool.false_eq_true]; exact one
        · simp only [c1, if_false, decide_false, Bool.and_false, Bool.false_and, Bool.false_eq_true]; exact one
  · simp only [h0, if_false, ne_eq, not_false_eq_true, if_true]; exact Ev.now _
end
end Go.Proofs.Ytnkgelnkoljgdaa.Val
namespace Go.Proofs.Ytnkgelnkoljgdaa.Pla
open Go.RowKit Go.Proofs.YtnkgelnkoljgdaaOwn Go.Proofs.Ytnkgelnkoljgdaa.Q Go.Proofs.Ytnkgelnkoljgdaa.Mod Go.Proofs.Ytnkgelnkoljgdaa.Kin Go.Proofs.Ytnkgelnkoljgdaa.Vk Go.Proofs.Ytnkgelnkoljgdaa.Val Go.Proofs.YtnkgelnkoljgdaaW.PrintWords Go.Proofs.YtnkgelnkoljgdaaW.PrintLast Go.Proofs.YtnkgelnkoljgdaaW.PrintMore
set_option linter.unusedVariables false
set_option linter.unusedSimpArgs false
theorem list_self {l : List Int} (hl : l.length < 1000000000) : ∀ (d : Nat) (i : Int), 0 ≤ i → i + d = l.length → Ev (fun k => hinterlandsame_List_int.l0 k l l i) true := by
  intro d; induction d with
  | zero =>
    intro i i0 hd
    refine Ev.step (fun _ => rfl) ?_
    simp only [hinterlandsame_List_int.l0, show ¬ i < (l.length : Int) by omega, if_false]; exact Ev.now _
  | succ d ih =>
    intro i i0 hd
    refine Ev.step (fun _ => rfl) ?_
    simp only [hinterlandsame_List_int.l0, show i < (l.length : Int) by omega, i0, if_true, show wrap64 (i + 1) = i + 1 from w64_in (by omega) (by omega)]
    exact ih (i + 1) (by omega) (by omega)
theorem ints_self {l : List Int} (hl : l.length < 1000000000) : Ev (fun k => hinterlandsame_List_int.f k l l) true := by
  unfold hinterlandsame_List_int.f
  simp only [if_true]
  exact list_self hl l.length 0 (by omega) (by omega)
theorem all_rd {l : List Int} {p : Int → Bool} (h : l.all p = true) {i : Nat} (hi : i < l.length) : p (rd l (i : Int)) = true := by
  rw [List.all_eq_true] at h
  apply h
  unfold rd
  rw [List.getD_eq_getElem?_getD, List.getElem?_eq_getElem (by simpa using hi)]; simp
structure Pl (n : Nat) (tile level : Int) (S R Md Mv : List Int) (got idle : Int) : Prop where
  tile : 0 ≤ tile ∧ tile ≤ 1000000
  level : 1 ≤ level ∧ level ≤ 64
  s : S.length = n
  r : R.length = n
  m : Md.length = n
  v : Mv.length = n
  sa : S.all (inB 0 1000000) = true
  ra : R.all (inB 0 7) = true
  ma : Md.all (inB 0 1000000) = true
  va : Mv.all (inB 0 1000000) = true
  got : 0 ≤ got ∧ got ≤ 1000000
  idle : 0 ≤ idle ∧ idle ≤ 1000000
theorem plB_iff {n : Nat} {tile level : Int} {S R Md Mv : List Int} {got idle : Int} : plB n tile level S R Md Mv got idle = true ↔ Pl n tile level S R Md Mv got idle := by
  unfold plB
  simp only [Bool.and_eq_true, inB_true, decide_eq_true_eq]
  constructor
  · rintro ⟨⟨⟨⟨a, b⟩, ⟨⟨c, d⟩, e⟩, f⟩, ⟨⟨g, h⟩, i⟩, j⟩, k, l⟩; exact ⟨a, b, c, d, e, f, g, h, i, j, k, l⟩
  · rintro ⟨a, b, c, d, e, f, g, h, i, j, k, l⟩; exact ⟨⟨⟨⟨a, b⟩, ⟨⟨c, d⟩, e⟩, f⟩, ⟨⟨g, h⟩, i⟩, j⟩, k, l⟩
section
variable {K : List S39} {kind tile level : Int} {S R Md Mv : List Int} {got idle : Int} {op : Bool} {v : Int}
structure Good (K : List S39) (kind : Int) : Prop where
  good : GoodK K
  k0 : 0 ≤ kind
  k1 : kind < (K.length : Int)
theorem Good.kb (g : Good K kind) : kB (rd_T39 K kind) = true := g.good.ok _ g.k0 g.k1
theorem kb_parts {m : S39} (h : kB m = true) : m.f1.length ≤ 4 ∧ m.f2.length ≤ 4 ∧ ∀ i : Nat, i < m.f2.length → mOK m.f2 i = true := by
  unfold kB at h
  simp only [Bool.and_eq_true, decide_eq_true_eq] at h
  obtain ⟨_, a, b, _, d⟩ := h
  refine ⟨a, b, fun i hi => ?_⟩
  exact List.all_eq_true.1 d i (by simp [List.mem_range']; omega)
theorem vr_zero (hg : v = 0 → GoodK K) (h : vr v K kind tile level S R Md Mv got idle = 0) : v = 0 ∧ Good K kind ∧ Pl (rd_T39 K kind).f2.length tile level S R Md Mv got idle := by
  unfold vr at h
  by_cases hv : v = 0
  · rw [if_neg (by simpa using hv)] at h
    by_cases hk : 0 ≤ kind ∧ kind < (K.length : Int)
    · rw [if_pos hk] at h
      by_cases hb : plB (rd_T39 K kind).f2.length tile level S R Md Mv got idle = true
      · exact ⟨hv, ⟨hg hv, hk.1, hk.2⟩, plB_iff.1 hb⟩
      · rw [if_neg hb] at h; omega
    · rw [if_neg hk] at h; omega
  · rw [if_pos hv] at h; exact absurd h hv
theorem Pl.vr (p : Pl (rd_T39 K kind).f2.length tile level S R Md Mv got idle) (hv : v = 0) (g : Good K kind) : vr v K kind tile level S R Md Mv got idle = 0 := by
  unfold Val.vr
  rw [if_neg (by simpa using hv), if_pos ⟨g.k0, g.k1⟩, if_pos (plB_iff.2 p)]
theorem clone_ok (hS : S.length ≤ 300) (hR : R.length ≤ 300) (hM : Md.length ≤ 300) (hV : Mv.length ≤ 300) : plant_clone.f kind tile level S R Md Mv got idle op = some (kind, tile, level, S, R, Md, Mv, got, idle, op) := by
  unfold plant_clone.f plant_fresh.f
  rw [if_pos (by omega), if_pos (by omega), if_pos (by omega), if_pos (by omega)]; rfl
end
end Go.Proofs.Ytnkgelnkoljgdaa.Pla
namespace Go.Proofs.Ytnkgelnkoljgdaa.Mon
open Go.RowKit Go.Proofs.YtnkgelnkoljgdaaOwn Go.Proofs.Ytnkgelnkoljgdaa.Q Go.Proofs.Ytnkgelnkoljgdaa.Mod Go.Proofs.Ytnkgelnkoljgdaa.Kin Go.Proofs.Ytnkgelnkoljgdaa.Vk Go.Proofs.Ytnkgelnkoljgdaa.Val Go.Proofs.Ytnkgelnkoljgdaa.Pla Go.Proofs.YtnkgelnkoljgdaaW.PrintWords Go.Proofs.YtnkgelnkoljgdaaW.PrintLast Go.Proofs.YtnkgelnkoljgdaaW.PrintMore
set_option linter.unusedVariables false
set_option linter.unusedSimpArgs false
/-- The sum of the entries behind the i-th. -/
def tot (l : List Int) : Nat → Nat → Int
  | _, 0 => 0
  | i, d + 1 => rd l (i : Int) + tot l (i + 1) d
theorem psum_loop {l : List Int} (hl : l.length ≤ 300) (h : l.all (inB 0 1000000) = true) : ∀ (d i : Nat) (x : Int), i + d = l.length → 0 ≤ x → x ≤ 1000000 * i → Ev (fun k => plant_sum.l0 k x l (l.length : Int) (i : Int)) (x + tot l i d) := by
  intro d; induction d with
  | zero =>
    intro i x hi _ _
    refine Ev.step (fun _ => rfl) ?_
    simp only [plant_sum.l0, show ¬ (i : Int) < (l.length : Int) by omega, if_false, tot, Int.add_zero]; exact Ev.now _
  | succ d ih =>
    intro i x hi x0 x1
    have a := inB_true.1 (all_rd h (i := i) (by omega))
    refine Ev.step (fun _ => rfl) ?_
    simp only [plant_sum.l0, show (i : Int) < (l.length : Int) by omega, show (0 : Int) ≤ (i : Int) by omega, if_true, show wrap64 ((i : Int) + 1) = ((i + 1 : Nat) : Int) by rw [w64_in (by omega) (by omega)]; omega, show wrap64 (x + rd l (i : Int)) = x + rd l (i : Int) from w64_in (by omega) (by omega), tot, ← Int.add_assoc]
    exact ih (i + 1) _ (by omega) (by omega) (by omega)
theorem psum_ok {l : List Int} (hl : l.length ≤ 300) (h : l.all (inB 0 1000000) = true) : Ev (fun k => plant_sum.f k l) (tot l 0 l.length) := by
  have := psum_loop hl h l.length 0 0 (by omega) (by omega) (by omega)
  rw [Int.zero_add] at this; exact this
theorem lsum_loop {l : List Int} (hl : l.length ≤ 300) (h : l.all (inB 0 1000000) = true) : ∀ (d i : Nat) (x : Int), i + d = l.length → 0 ≤ x → x ≤ 1000000 * i → Ev (fun k => hinterlandlaw10_total.l0 k x l (l.length : Int) (i : Int)) (x + tot l i d) := by
  intro d; induction d with
  | zero =>
    intro i x hi _ _
    refine Ev.step (fun _ => rfl) ?_
    simp only [hinterlandlaw10_total.l0, show ¬ (i : Int) < (l.length : Int) by omega, if_false, tot, Int.add_zero]; exact Ev.now _
  | succ d ih =>
    intro i x hi x0 x1
    have a := inB_true.1 (all_rd h (i := i) (by omega))
    refine Ev.step (fun _ => rfl) ?_
    simp only [hinterlandlaw10_total.l0, show (i : Int) < (l.length : Int) by omega, show (0 : Int) ≤ (i : Int) by omega, if_true, show wrap64 ((i : Int) + 1) = ((i + 1 : Nat) : Int) by rw [w64_in (by omega) (by omega)]; omega, show wrap64 (x + rd l (i : Int)) = x + rd l (i : Int) from w64_in (by omega) (by omega), tot, ← Int.add_assoc]
    exact ih (i + 1) _ (by omega) (by omega) (by omega)
theorem lsum_ok {l : List Int} (hl : l.length ≤ 300) (h : l.all (inB 0 1000000) = true) : Ev (fun k => hinterlandlaw10_total.f k l) (tot l 0 l.length) := by
  have := lsum_loop hl h l.length 0 0 (by omega) (by omega) (by omega)
  rw [Int.zero_add] at this; exact this
theorem zeros_all (n : Nat) : (List.replicate n (0 : Int)).all (inB 0 1000000) = true := by
  rw [List.all_eq_true]; intro x hx; rw [(List.mem_replicate.1 hx).2]; rfl
theorem rd_zeros (n : Nat) (i : Nat) : rd (List.replicate n (0 : Int)) (i : Int) = 0 := by
  unfold rd; rw [List.getD_eq_getElem?_getD, List.getElem?_replicate]; split <;> rfl
theorem tot_zeros (n : Nat) : ∀ (d i : Nat), tot (List.replicate n (0 : Int)) i d = 0 := by
  intro d; induction d with
  | zero => intro i; rfl
  | succ d ih => intro i; unfold tot; rw [rd_zeros, ih]; rfl
abbrev MT := Int × Int × Int × List Int × List Int × List Int × List Int × Int × Int × Bool × Int × Int × Int
/-- A month without use, or with. -/
def idl (src : Bool) (moved got idle : Int) : Int := if ((src && decide (moved > 0)) || (!src && decide (got > 0))) = true then 0 else mn (wrap64 (idle + 1)) 1000000
/-- The level behind a draw. -/
def lev (level v made moved : Int) : Int :=
  if v < (if wrap64 (100 * moved) ≥ wrap64 (60 * made) then 40 else 20) then mn (wrap64 (level + mx (wrap64 (Int.tdiv level 8)) 1)) 64
  else if v ≥ (if wrap64 (100 * moved) ≥ wrap64 (60 * made) then 90 else 60) then mx (wrap64 (level - mx (wrap64 (Int.tdiv level 8)) 1)) 1 else level
def tld (level lv : Int) : Int := if lv < level then 2 else if lv > level then 1 else 0
section
variable {K : List S39} {kind tile level : Int} {S R Md Mv : List Int} {got idle s lv id v t v2 t2 made moved : Int}
def fin (kind tile lv : Int) (S R : List Int) (n : Nat) (id told s v2 t2 : Int) : MT :=
  if id ≥ 60 then (if v2 = 0 then (kind, tile, lv, S, R, List.replicate n 0, List.replicate n 0, 0, id, false, 3, t2, 0) else (kind, tile, lv, S, R, List.replicate n 0, List.replicate n 0, 0, id, true, told, t2, 0)) else (kind, tile, lv, S, R, List.replicate n 0, List.replicate n 0, 0, id, true, told, s, 0)
def chg (src : Bool) (level v made moved : Int) : Int := if (src && decide (made > 0)) = true then lev level v made moved else level
def stt (src : Bool) (made s t : Int) : Int := if (src && decide (made > 0)) = true then t else s
theorem pm8 (told : Int) (hM : Md.length ≤ 300) (hb : Ev (fun k => roll_Below.f k s 4) (v2, t2)) : Ev (fun k => plant_Month.j8 k told kind tile level S R Md Mv got idle true s kind tile lv S R Md Mv got id true) (fin kind tile lv S R Md.length id told s v2 t2) := by
  have z0 : (0 : Int) ≤ (Md.length : Int) := by omega
  have z1 : Md.length ≤ 35184372088832 := by omega
  have e : ∀ (b : Bool) (told s : Int), Ev (fun k => plant_Month.j10 k told kind tile level S R Md Mv got idle true s kind tile lv S R Md Mv got id b) ((kind, tile, lv, S, R, List.replicate Md.length 0, List.replicate Md.length 0, 0, id, b, told, s, 0) : MT) := by
    intro b told s
    refine Ev.step (fun _ => rfl) ?_
    simp only [plant_Month.j10, Int.toNat_natCast, z0, z1, if_true]; exact Ev.now _
  refine Ev.step (fun _ => rfl) ?_
  simp only [plant_Month.j8]
  unfold fin
  by_cases h : id ≥ 60
  · simp only [h, if_true]
    refine Ev.bind hb ?_
    by_cases h2 : v2 = 0
    · simp only [h2, if_true]
      refine Ev.step (fun _ => rfl) ?_
      simp only [plant_Month.j9]; exact e false 3 t2
    · simp only [h2, if_false]
      refine Ev.step (fun _ => rfl) ?_
      simp only [plant_Month.j9]; exact e true told t2
  · simp only [h, if_false]; exact e true told s
theorem pm6 (hM : Md.length ≤ 300) (hb : Ev (fun k => roll_Below.f k s 4) (v2, t2)) : Ev (fun k => plant_Month.j6 k kind tile level S R Md Mv got idle true s kind tile lv S R Md Mv got id true) (fin kind tile lv S R Md.length id (tld level lv) s v2 t2) := by
  refine Ev.step (fun _ => rfl) ?_
  simp only [plant_Month.j6]
  unfold tld
  by_cases h : lv > level
  · simp only [h, if_true, show ¬ lv < level by omega, if_false]
    refine Ev.step (fun _ => rfl) ?_
    simp only [plant_Month.j7, show ¬ lv < level by omega, if_false]
    exact pm8 1 hM hb
  · simp only [h, if_false]
    refine Ev.step (fun _ => rfl) ?_
    simp only [plant_Month.j7]
    by_cases h2 : lv < level
    · simp only [h2, if_true]; exact pm8 2 hM hb
    · simp only [h2, if_false]; exact pm8 0 hM hb
theorem pm5 (hM : Md.length ≤ 300) (hb : Ev (fun k => roll_Below.f k s 4) (v2, t2)) : Ev (fun k => plant_Month.j5 k kind tile level S R Md Mv got idle true s kind tile lv S R Md Mv got id true) (fin kind tile lv S R Md.length id (tld level lv) s v2 t2) := by
  refine Ev.step (fun _ => rfl) ?_
  simp only [plant_Month.j5]
  exact pm6 hM hb
theorem pm3 (up down : Int) (hu : up < down) (hM : Md.length ≤ 300) (hb : Ev (fun k => roll_Below.f k s 4) (v2, t2)) (r : Int) (hr : r = if v < up then mn (wrap64 (level + mx (wrap64 (Int.tdiv level 8)) 1)) 64 else if v ≥ down then mx (wrap64 (level - mx (wrap64 (Int.tdiv level 8)) 1)) 1 else level) : Ev (fun k => plant_Month.j3 k v up down kind tile level S R Md Mv got idle true s kind tile level S R Md Mv got id true) (fin kind tile r S R Md.length id (tld level r) s v2 t2) := by
  subst hr
  refine Ev.step (fun _ => rfl) ?_
  simp only [plant_Month.j3]
  by_cases h : v < up
  · simp only [h, if_true]
    refine Ev.step (fun _ => rfl) ?_
    simp only [plant_Month.j4, show ¬ v ≥ down by omega, if_false]
    exact pm5 hM hb
  · simp only [h, if_false]
    refine Ev.step (fun _ => rfl) ?_
    simp only [plant_Month.j4]
    by_cases h2 : v ≥ down
    · simp only [h2, if_true]; exact pm5 hM hb
    · simp only [h2, if_false]; exact pm5 hM hb
theorem pm1 (src : Bool) (hM : Md.length ≤ 300) (hv : Ev (fun k => roll_Below.f k s 100) (v, t)) (hb : Ev (fun k => roll_Below.f k (stt src made s t) 4) (v2, t2)) : Ev (fun k => plant_Month.j1 k src made moved kind tile level S R Md Mv got idle true s kind tile level S R Md Mv got id true) (fin kind tile (chg src level v made moved) S R Md.length id (tld level (chg src level v made moved)) (stt src made s t) v2 t2) := by
  unfold stt chg lev at *
  refine Ev.step (fun _ => rfl) ?_
  simp only [plant_Month.j1]
  have e : (if src = true then (fun k => plant_Month.j2 k made moved (decide (made > 0)) kind tile level S R Md Mv got idle true s kind tile level S R Md Mv got id true) else (fun k => plant_Month.j2 k made moved false kind tile level S R Md Mv got idle true s kind tile level S R Md Mv got id true)) = fun k => plant_Month.j2 k made moved (src && decide (made > 0)) kind tile level S R Md Mv got idle true s kind tile level S R Md Mv got id true := by
    cases src <;> simp
  have e2 : ∀ k, (if src = true then plant_Month.j2 k made moved (decide (made > 0)) kind tile level S R Md Mv got idle true s kind tile level S R Md Mv got id true else plant_Month.j2 k made moved false kind tile level S R Md Mv got idle true s kind tile level S R Md Mv got id true) = plant_Month.j2 k made moved (src && decide (made > 0)) kind tile level S R Md Mv got idle true s kind tile level S R Md Mv got id true := by
    intro k; cases src <;> simp
  simp only [e2]
  refine Ev.step (fun _ => rfl) ?_
  simp only [plant_Month.j2]
  by_cases h : (src && decide (made > 0)) = true
  · simp only [h, if_true] at hb ⊢
    refine Ev.bind hv ?_
    by_cases h2 : wrap64 (100 * moved) ≥ wrap64 (60 * made)
    · simp only [h2, if_true]; exact pm3 40 90 (by omega) hM hb _ rfl
    · simp only [h2, if_false]; exact pm3 20 60 (by omega) hM hb _ rfl
  · simp only [h, if_false, Bool.false_eq_true] at hb ⊢
    exact pm6 hM hb
theorem pm0 (src q : Bool) (hM : Md.length ≤ 300) (hv : Ev (fun k => roll_Below.f k s 100) (v, t)) (hb : Ev (fun k => roll_Below.f k (stt src made s t) 4) (v2, t2)) (hid : id = if q = true then 0 else mn (wrap64 (idle + 1)) 1000000) : Ev (fun k => plant_Month.j0 k src made moved q kind tile level S R Md Mv got idle true s kind tile level S R Md Mv got (mn (wrap64 (idle + 1)) 1000000) true) (fin kind tile (chg src level v made moved) S R Md.length id (tld level (chg src level v made moved)) (stt src made s t) v2 t2) := by
  subst hid
  refine Ev.step (fun _ => rfl) ?_
  simp only [plant_Month.j0]
  cases q with
  | true => simp only [if_true]; exact pm1 src hM hv hb
  | false => simp only [Bool.false_eq_true, if_false]; exact pm1 src hM hv hb
/-- What a month makes of an open plant. -/
def out (K : List S39) (kind tile level : Int) (S R Md Mv : List Int) (got idle s v t v2 t2 : Int) : MT :=
  let src := (((rd_T39 K kind).f1).length : Int) == 0
  let made := tot Md 0 Md.length
  let moved := tot Mv 0 Mv.length
  fin kind tile (chg src level v made moved) S R Md.length (idl src moved got idle) (tld level (chg src level v made moved)) (stt src made s t) v2 t2
theorem pmonth (hv0 : Ev (fun k => plant_ValidateKinds.f k K) 0) (g : Go.Proofs.Ytnkgelnkoljgdaa.Pla.Good K kind) (p : Pl (rd_T39 K kind).f2.length tile level S R Md Mv got idle) (hv : Ev (fun k => roll_Below.f k s 100) (v, t)) (hb : Ev (fun k => roll_Below.f k (stt ((((rd_T39 K kind).f1).length : Int) == 0) (tot Md 0 Md.length) s t) 4) (v2, t2)) : Ev (fun k => plant_Month.f k K kind tile level S R Md Mv got idle true s) (out K kind tile level S R Md Mv got idle s v t v2 t2) := by
  have n4 := (kb_parts g.kb).2.1
  have hS : S.length ≤ 300 := by rw [p.s]; omega
  have hR : R.length ≤ 300 := by rw [p.r]; omega
  have hM : Md.length ≤ 300 := by rw [p.m]; omega
  have hV : Mv.length ≤ 300 := by rw [p.v]; omega
  unfold plant_Month.f out
  refine Ev.bind (valid_ok hS hR hM hV hv0) ?_
  simp only [p.vr rfl g, if_true, clone_ok hS hR hM hV, Option.bind_some, g.k0, g.k1]
  refine Ev.bind (psum_ok hM p.ma) ?_
  refine Ev.bind (psum_ok hV p.va) ?_
  by_cases h : (((rd_T39 K kind).f1).length : Int) = 0
  · simp only [h, if_true, beq_self_eq_true] at hb ⊢
    by_cases h2 : tot Mv 0 Mv.length > 0
    · simp only [h2, if_true]; exact pm0 true true hM hv hb (by simp [idl, h2])
    · simp only [h2, if_false]; exact pm0 true false hM hv hb (by simp [idl, h2])
  · have e : ((((rd_T39 K kind).f1).length : Int) == 0) = false := by simpa using h
    simp only [h, if_false, e] at hb ⊢
    exact pm0 false _ hM hv hb (by simp [idl])
theorem pclosed (hv0 : Ev (fun k => plant_ValidateKinds.f k K) 0) (g : Go.Proofs.Ytnkgelnkoljgdaa.Pla.Good K kind) (p : Pl (rd_T39 K kind).f2.length tile level S R Md Mv got idle) (s : Int) : Ev (fun k => plant_Month.f k K kind tile level S R Md Mv got idle false s) ((kind, tile, level, S, R, Md, Mv, got, idle, false, 0, s, 0) : MT) := by
  have n4 := (kb_parts g.kb).2.1
  have hS : S.length ≤ 300 := by rw [p.s]; omega
  have hR : R.length ≤ 300 := by rw [p.r]; omega
  have hM : Md.length ≤ 300 := by rw [p.m]; omega
  have hV : Mv.length ≤ 300 := by rw [p.v]; omega
  unfold plant_Month.f
  refine Ev.bind (valid_ok hS hR hM hV hv0) ?_
  simp only [p.vr rfl g, if_true, clone_ok hS hR hM hV, Option.bind_some, Bool.false_eq_true, if_false]
  exact Ev.now _
theorem lev_in (made moved : Int) (h1 : 1 ≤ level) (h2 : level ≤ 64) : 1 ≤ lev level v made moved ∧ lev level v made moved ≤ 64 := by
  have e0 : Int.tdiv level 8 = level / 8 := Int.tdiv_eq_ediv_of_nonneg (by omega)
  have e1 : wrap64 (Int.tdiv level 8) = level / 8 := by rw [e0]; exact w64_in (by omega) (by omega)
  have e2 : 1 ≤ mx (level / 8) 1 ∧ mx (level / 8) 1 ≤ 8 := by unfold mx; split <;> omega
  unfold lev
  rw [e1, w64_in (x := level + _) (by omega) (by omega), w64_in (x := level - _) (by omega) (by omega)]
  generalize (if wrap64 (100 * moved) ≥ wrap64 (60 * made) then (40 : Int) else 20) = a
  generalize (if wrap64 (100 * moved) ≥ wrap64 (60 * made) then (90 : Int) else 60) = b
  generalize mx (level / 8) 1 = c at e2 ⊢
  unfold mn mx
  split
  · split <;> omega
  · split
    · split <;> omega
    · omega
theorem chg_in (src : Bool) (made moved : Int) (h1 : 1 ≤ level) (h2 : level ≤ 64) : 1 ≤ chg src level v made moved ∧ chg src level v made moved ≤ 64 := by
  unfold chg; split
  · exact lev_in made moved h1 h2
  · exact ⟨h1, h2⟩
theorem idl_in (src : Bool) (h1 : 0 ≤ idle) (h2 : idle ≤ 1000000) : 0 ≤ idl src moved got idle ∧ idl src moved got idle ≤ 1000000 := by
  unfold idl; split
  · omega
  · rw [w64_in (by omega) (by omega)]; unfold mn; split <;> omega
/-- What a month leaves: a plant that lies right. -/
def Left (K : List S39) (kind tile : Int) (S R : List Int) (r : MT) : Prop := ∃ lv id op told u, r = (kind, tile, lv, S, R, List.replicate (rd_T39 K kind).f2.length 0, List.replicate (rd_T39 K kind).f2.length 0, 0, id, op, told, u, 0) ∧ Pl (rd_T39 K kind).f2.length tile lv S R (List.replicate (rd_T39 K kind).f2.length 0) (List.replicate (rd_T39 K kind).f2.length 0) 0 id ∧ (op = false ↔ told = 3) ∧ (op = false → 60 ≤ id) ∧ 0 ≤ u ∧ u ≤ 18446744073709551615
theorem out_left (p : Pl (rd_T39 K kind).f2.length tile level S R Md Mv got idle) (s0 : 0 ≤ s ∧ s ≤ 18446744073709551615) (t0 : 0 ≤ t ∧ t ≤ 18446744073709551615) (t1 : 0 ≤ t2 ∧ t2 ≤ 18446744073709551615) : Left K kind tile S R (out K kind tile level S R Md Mv got idle s v t v2 t2) := by
  unfold out
  simp only [p.m]
  generalize ((((rd_T39 K kind).f1).length : Int) == 0) = src
  generalize tot Md 0 (rd_T39 K kind).f2.length = made
  generalize tot Mv 0 Mv.length = moved
  have hl := chg_in (v := v) src made moved p.level.1 p.level.2
  have hi := idl_in (moved := moved) (got := got) src p.idle.1 p.idle.2
  have hs : 0 ≤ stt src made s t ∧ stt src made s t ≤ 18446744073709551615 := by unfold stt; split <;> assumption
  have ht : tld level (chg src level v made moved) ≠ 3 := by unfold tld; split <;> (try split) <;> omega
  generalize chg src level v made moved = lv at hl ht ⊢
  generalize idl src moved got idle = id at hi ⊢
  generalize stt src made s t = s1 at hs ⊢
  generalize tld level lv = told at ht ⊢
  have pl : Pl (rd_T39 K kind).f2.length tile lv S R (List.replicate (rd_T39 K kind).f2.length 0) (List.replicate (rd_T39 K kind).f2.length 0) 0 id := ⟨p.tile, hl, p.s, p.r, List.length_replicate, List.length_replicate, p.sa, p.ra, zeros_all _, zeros_all _, by omega, hi⟩
  unfold fin
  by_cases h : id ≥ 60
  · rw [if_pos h]
    by_cases h2 : v2 = 0
    · rw [if_pos h2]; exact ⟨_, _, _, _, _, rfl, pl, by simp, fun _ => h, t1.1, t1.2⟩
    · rw [if_neg h2]; exact ⟨_, _, _, _, _, rfl, pl, by simp [ht], fun _ => h, t1.1, t1.2⟩
  · rw [if_neg h]; exact ⟨_, _, _, _, _, rfl, pl, by simp [ht], by simp, hs.1, hs.2⟩
end
end Go.Proofs.Ytnkgelnkoljgdaa.Mon
namespace Go.Proofs.Ytnkgelnkoljgdaa.Known
open Go.RowKit Go.Proofs.YtnkgelnkoljgdaaOwn Go.Proofs.Ytnkgelnkoljgdaa.Q Go.Proofs.YtnkgelnkoljgdaaW.PrintWords Go.Proofs.YtnkgelnkoljgdaaW.PrintLast Go.Proofs.YtnkgelnkoljgdaaW.PrintMore
set_option linter.unusedVariables false
set_option linter.unusedSimpArgs false
theorem known_ev : Ev (fun k => hinterlandlaw10_known.f k) true := Ev.of hinterlandlaw10_known.mono (k := 200) (by decide +kernel)
end Go.Proofs.Ytnkgelnkoljgdaa.Known
namespace Go.Proofs.Ytnkgelnkoljgdaa.Pure
open Go.RowKit Go.Proofs.YtnkgelnkoljgdaaOwn Go.Proofs.Ytnkgelnkoljgdaa.Q Go.Proofs.Ytnkgelnkoljgdaa.Mod Go.Proofs.Ytnkgelnkoljgdaa.Kin Go.Proofs.Ytnkgelnkoljgdaa.Vk Go.Proofs.Ytnkgelnkoljgdaa.Val Go.Proofs.Ytnkgelnkoljgdaa.Pla Go.Proofs.Ytnkgelnkoljgdaa.Mon Go.Proofs.Ytnkgelnkoljgdaa.Known Go.Proofs.Ytnkgelnkoljgdaa.Draw Go.Proofs.YtnkgelnkoljgdaaW.PrintWords Go.Proofs.YtnkgelnkoljgdaaW.PrintLast Go.Proofs.YtnkgelnkoljgdaaW.PrintMore
set_option linter.unusedVariables false
set_option linter.unusedSimpArgs false
theorem drawn (s n : Int) (h : 0 ≤ s ∧ s ≤ 18446744073709551615) (hn : 1 ≤ n) (hn1 : n ≤ 100) : ∃ v t, (0 ≤ t ∧ t ≤ 18446744073709551615) ∧ Ev (fun k => roll_Below.f k s n) (v, t) := by
  obtain ⟨v, t, Kr, _, _, t0, t1, e⟩ := below_ok s n h.1 h.2 hn (by omega)
  exact ⟨v, t, ⟨t0, t1⟩, Kr, fun k hk => (e k hk).1⟩
section
variable {K : List S39}
theorem many_loop (hv0 : Ev (fun k => plant_ValidateKinds.f k K) 0) (n : Int) (hn : n ≤ 130) : ∀ (d : Nat) (i x : Int) (kind tile level : Int) (S R Md Mv : List Int) (got idle : Int) (op : Bool) (s : Int), 0 ≤ i → n ≤ i + d → Go.Proofs.Ytnkgelnkoljgdaa.Pla.Good K kind → Pl (rd_T39 K kind).f2.length tile level S R Md Mv got idle → 0 ≤ s ∧ s ≤ 18446744073709551615 → Ev (fun k => hinterlandlaw10_PlantMonthsMany.l0 k K x n i kind tile level S R Md Mv got idle op s) true := by
  intro d; induction d with
  | zero =>
    intro i x kind tile level S R Md Mv got idle op s i0 hi g p hs
    refine Ev.step (fun _ => rfl) ?_
    simp only [hinterlandlaw10_PlantMonthsMany.l0, show ¬ i < n by omega, if_false]
    exact Ev.bind known_ev (Ev.now _)
  | succ d ih =>
    intro i x kind tile level S R Md Mv got idle op s i0 hi g p hs
    by_cases hin : i < n
    rotate_left
    · refine Ev.step (fun _ => rfl) ?_
      simp only [hinterlandlaw10_PlantMonthsMany.l0, hin, if_false]
      exact Ev.bind known_ev (Ev.now _)
    have n4 := (kb_parts g.kb).2.1
    have hS : S.length < 1000000000 := by rw [p.s]; omega
    have wi : wrap64 (i + 1) = i + 1 := w64_in (by omega) (by omega)
    have n3 : (rd_T39 K kind).f2.length ≤ 300 := by omega
    refine Ev.step (fun _ => rfl) ?_
    simp only [hinterlandlaw10_PlantMonthsMany.l0, hin, if_true]
    cases op with
    | false =>
      refine Ev.bind (pclosed hv0 g p s) ?_
      have c1 : ¬ level < 1 := by have := p.level; omega
      have c2 : ¬ level > 64 := by have := p.level; omega
      simp only [if_true, Bool.false_eq_true, if_false, c1, c2, decide_false, show (((0 : Int) == 3) != false) = false from rfl]
      refine Ev.step (fun _ => rfl) ?_
      simp only [hinterlandlaw10_PlantMonthsMany.j2, Bool.false_eq_true, if_false]
      refine Ev.step (fun _ => rfl) ?_
      simp only [hinterlandlaw10_PlantMonthsMany.j3, show ¬ (0 : Int) = 3 by omega, if_false, Bool.false_eq_true]
      refine Ev.bind (lsum_ok (by rw [p.m]; omega) p.ma) ?_
      refine Ev.bind (lsum_ok (by rw [p.v]; omega) p.va) ?_
      simp only [ite_self]
      refine Ev.bind (ints_self hS) ?_
      refine Ev.step (fun _ => rfl) ?_
      simp only [hinterlandlaw10_PlantMonthsMany.j4, Bool.not_true, Bool.false_eq_true, if_false, wi]
      exact ih (i + 1) x kind tile level S R Md Mv got idle false s (by omega) (by omega) g p hs
    | true =>
      obtain ⟨v, t, t0, e1⟩ := drawn s 100 hs (by omega) (by omega)
      have hs1 : 0 ≤ stt ((((rd_T39 K kind).f1).length : Int) == 0) (tot Md 0 Md.length) s t ∧ stt ((((rd_T39 K kind).f1).length : Int) == 0) (tot Md 0 Md.length) s t ≤ 18446744073709551615 := by unfold stt; split <;> assumption
      obtain ⟨v2, t2, t1, e2⟩ := drawn _ 4 hs1 (by omega) (by omega)
      refine Ev.bind (pmonth hv0 g p e1 e2) ?_
      obtain ⟨lv, id, op', told, u, er, pl, ho, hid, u0⟩ := out_left (v := v) (v2 := v2) p hs t0 t1
      rw [er]
      have c1 : ¬ lv < 1 := by have := pl.level; omega
      have c2 : ¬ lv > 64 := by have := pl.level; omega
      have c3 : ((told == 3) != (!op')) = false := by
        cases op' with
        | false => rw [ho.1 rfl]; rfl
        | true => have : ¬ told = 3 := fun h => by have := ho.2 h; simp at this
                  simp [this]
      simp only [if_true, c3, Bool.false_eq_true, if_false, c1, c2, decide_false]
      refine Ev.step (fun _ => rfl) ?_
      simp only [hinterlandlaw10_PlantMonthsMany.j2, Bool.false_eq_true, if_false, if_true]
      have z : Ev (fun k => hinterlandlaw10_total.f k (List.replicate (rd_T39 K kind).f2.length 0)) 0 := by
        have := lsum_ok (l := List.replicate (rd_T39 K kind).f2.length 0) (by rw [List.length_replicate]; omega) (zeros_all _)
        rwa [tot_zeros] at this
      have last : Ev (fun k => hinterlandlaw10_PlantMonthsMany.j4 k K id n i (!true) kind tile lv S R (List.replicate (rd_T39 K kind).f2.length 0) (List.replicate (rd_T39 K kind).f2.length 0) 0 id op' u) true := by
        refine Ev.step (fun _ => rfl) ?_
        simp only [hinterlandlaw10_PlantMonthsMany.j4, Bool.not_true, Bool.false_eq_true, if_false, wi]
        exact ih (i + 1) id kind tile lv S R _ _ 0 id op' u (by omega) (by omega) g pl u0
      have w0 : wrap64 (wrap64 (0 + 0) + 0) = 0 := by decide +kernel
      refine Ev.step (fun _ => rfl) ?_
      simp only [hinterlandlaw10_PlantMonthsMany.j3]
      by_cases h3 : told = 3
      · have : ¬ id < 60 := by have := hid (ho.2 h3); omega
        simp only [h3, if_true, this, if_false]
        refine Ev.bind z (Ev.bind z ?_)
        simp only [w0, if_true]
        exact Ev.bind (ints_self hS) last
      · simp only [h3, if_false]
        refine Ev.bind z (Ev.bind z ?_)
        simp only [w0, if_true]
        exact Ev.bind (ints_self hS) last
end
theorem PlantMonthsMany : hinterlandlaw10_PlantMonthsMany.Pure := by
  intro K kind tile level S R Md Mv got idle op s m hK _ _ _ _ _ _ _ _ _ _ ws wm
  refine Ev.rounds ?_
  have hs := wInt_u64 ws
  unfold hinterlandlaw10_PlantMonthsMany.f
  have quit : Ev (fun k => hinterlandlaw10_PlantMonthsMany.j0 k K m true kind tile level S R Md Mv got idle op s) true := by
    refine Ev.step (fun _ => rfl) ?_
    simp only [hinterlandlaw10_PlantMonthsMany.j0, if_true]
    exact Ev.bind known_ev (Ev.now _)
  obtain ⟨r, hr, sm⟩ := large_ok hK S R Md Mv kind tile level got idle op
  refine Ev.bind hr ?_
  cases r with
  | true => simp only [if_true]; exact quit
  | false =>
    obtain ⟨small, hS, hR, hM, hV⟩ := sm rfl
    simp only [Bool.false_eq_true, if_false]
    obtain ⟨v, v1, v2, vg⟩ := vk_both small
    refine Ev.bind (valid_ok hS hR hM hV v1) ?_
    by_cases h0 : vr v K kind tile level S R Md Mv got idle = 0
    rotate_left
    · simp only [h0, if_false]; exact quit
    obtain ⟨hv, g, p⟩ := vr_zero vg h0
    simp only [h0, if_true]
    refine Ev.step (fun _ => rfl) ?_
    simp only [hinterlandlaw10_PlantMonthsMany.j0]
    by_cases h1 : idle > 1000
    · simp only [h1, decide_true, if_true]; exact Ev.bind known_ev (Ev.now _)
    · simp only [h1, decide_false, Bool.false_eq_true, if_false]
      have hn : mn m 130 ≤ 130 := by unfold mn; split <;> omega
      exact many_loop (hv ▸ v1) _ hn 130 0 idle kind tile level S R Md Mv got idle op s (by omega) (by omega) g p hs
end Go.Proofs.Ytnkgelnkoljgdaa.Pure

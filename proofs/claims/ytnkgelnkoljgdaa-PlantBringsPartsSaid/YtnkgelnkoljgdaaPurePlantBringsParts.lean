/- What is proved: law PlantBringsParts of this seat, all in one text (laid by prune.py). -/
import Derived.Test.YtnkgelnkoljgdaaOpen
import Derived.OpenShut
import Derived.Test.YtnkgelnkoljgdaaQ1
import Derived.Test.YtnkgelnkoljgdaaQ2
import Derived.Test.YtnkgelnkoljgdaaQ3
import Derived.Test.YtnkgelnkoljgdaaQ4
import Derived.Test.YtnkgelnkoljgdaaQ6
import Derived.Test.YtnkgelnkoljgdaaQ7
import Derived.Test.YtnkgelnkoljgdaaQ8
import Derived.Test.YtnkgelnkoljgdaaQ9
import Derived.Test.YtnkgelnkoljgdaaQ10
import Derived.Test.YtnkgelnkoljgdaaQ11
import Derived.Test.YtnkgelnkoljgdaaQ13
import Derived.Test.YtnkgelnkoljgdaaQ14
import Derived.Test.YtnkgelnkoljgdaaQ15
import Derived.Test.YtnkgelnkoljgdaaQ16
import Derived.Test.YtnkgelnkoljgdaaQ17
import Derived.Test.YtnkgelnkoljgdaaQ22
import Derived.Test.YtnkgelnkoljgdaaQ23
import Derived.Test.YtnkgelnkoljgdaaQ30
namespace Go.Proofs.YtnkgelnkoljgdaaOwn
open Go.RowKit Go.Proofs.YtnkgelnkoljgdaaW.PrintWords
theorem w64_in {x : Int} (h0 : -9223372036854775808 ≤ x) (h1 : x ≤ 9223372036854775807) : wrap64 x = x := by unfold wrap64; omega
end Go.Proofs.YtnkgelnkoljgdaaOwn
namespace Go.Proofs.Ytnkgelnkoljgdaa.Mod
open Go.RowKit Go.Proofs.YtnkgelnkoljgdaaOwn Go.Proofs.Ytnkgelnkoljgdaa.Q Go.Proofs.YtnkgelnkoljgdaaW.PrintWords Go.Proofs.YtnkgelnkoljgdaaW.PrintLast Go.Proofs.YtnkgelnkoljgdaaW.PrintMore
set_option linter.unusedVariables false
set_option linter.unusedSimpArgs false
/-- A number lies between two bounds. -/
def inB (lo hi a : Int) : Bool := decide (lo ≤ a ∧ a ≤ hi)
def letB (s : ByteArray) (j : Nat) : Bool := inB 97 122 (bt s (j : Int))
/-- A text is a name. -/
def nmB (s : ByteArray) : Bool := decide (1 ≤ s.size) && decide (s.size ≤ 12) && (List.range s.size).all (letB s)
theorem inB_true {lo hi a : Int} : inB lo hi a = true ↔ lo ≤ a ∧ a ≤ hi := by unfold inB; simp
theorem loop_len (s : ByteArray) : ∀ (d i : Nat) (r : List UInt8), i + d = s.size → (ByteArray.toList.loop s i r).length = d + r.length := by
 intro d; induction d with
 | zero => intro i r h; rw [ByteArray.toList.loop, if_neg (by omega)]; simp
 | succ d ih => intro i r h; rw [ByteArray.toList.loop, if_pos (by omega), ih (i + 1) _ (by omega), List.length_cons]; omega
theorem empty_iff (s : ByteArray) : s.toList = ([] : List UInt8) ↔ s.size = 0 := by
 have h := loop_len s s.size 0 [] (by omega)
 have e : (s.toList).length = s.size := by unfold ByteArray.toList; simpa using h
 constructor
 ·intro h'; rw [h'] at e; simpa using e.symm
 ·intro h'; exact List.eq_nil_of_length_eq_zero (by omega)
/-- all over the places from i on -/
def allFrom (s : ByteArray) (i d : Nat) : Bool := (List.range' i d).all (letB s)
theorem allFrom_succ (s : ByteArray) (i d : Nat) : allFrom s i (d + 1) = (letB s i && allFrom s (i + 1) d) := by simp [allFrom, List.range'_succ]
theorem allFrom_all (s : ByteArray) : allFrom s 0 s.size = (List.range s.size).all (letB s) := by simp [allFrom, List.range_eq_range']
theorem named_loop {s : ByteArray} (hs : s.size ≤ 1000000) : ∀ (d : Nat) (i : Nat), i + d = s.size → Ev (fun k => plant_named.l0 k s (s.size : Int) (i : Int)) (allFrom s i d && (decide (1 ≤ s.size) && decide (s.size ≤ 12))) := by
 intro d; induction d with
 | zero =>
  intro i hi
  refine Ev.step (fun _ => rfl) ?_
  simp only [plant_named.l0, show ¬ (i : Int) < (s.size : Int) by omega, if_false]
  by_cases h : s.toList = ([] : List UInt8)
  ·have := (empty_iff s).1 h
   simp only [h, if_true, allFrom, this]; exact Ev.now _
  ·have h1 : 1 ≤ s.size := by
    by_cases h2 : s.size = 0
    ·exact absurd ((empty_iff s).2 h2) h
    ·omega
   have e : decide ((s.size : Int) ≤ 12) = decide (s.size ≤ 12) := by rw [decide_eq_decide]; omega
   simp only [h, if_false, allFrom, List.range'_zero, List.all_nil, Bool.true_and, h1, decide_true, e]; exact Ev.now _
 | succ d ih =>
  intro i hi
  have hb : (if bt s (i : Int) < 97 then true else decide (bt s (i : Int) > 122)) = !letB s i := by
   unfold letB inB
   by_cases h : bt s (i : Int) < 97
   ·rw [if_pos h]; simp; omega
   ·rw [if_neg h]; by_cases h2 : bt s (i : Int) > 122 <;> simp [h2] <;> omega
  have hi0 : (i : Int) < (s.size : Int) := by omega
  have i0 : (0 : Int) ≤ (i : Int) := by omega
  have wi : wrap64 ((i : Int) + 1) = ((i + 1 : Nat) : Int) := by rw [w64_in (by omega) (by omega)]; omega
  have tail : Ev (fun k => plant_named.j1 k s (s.size : Int) (i : Int) (!letB s i)) (allFrom s i (d + 1) && (decide (1 ≤ s.size) && decide (s.size ≤ 12))) := by
   rw [allFrom_succ]
   refine Ev.step (fun _ => rfl) ?_
   cases hl : letB s i with
   | true =>
    simp only [plant_named.j1, Bool.not_true, Bool.false_eq_true, if_false, wi, Bool.true_and]
    exact ih (i + 1) (by omega)
   | false =>
    simp only [plant_named.j1, Bool.not_false, if_true, Bool.false_and]; exact Ev.now _
  refine Ev.step (fun _ => rfl) ?_
  rw [← hb] at tail
  simp only [plant_named.l0, hi0, i0, if_true]
  by_cases h : bt s (i : Int) < 97
  ·simp only [h, if_true] at tail ⊢; exact tail
  ·simp only [h, if_false] at tail ⊢; exact tail
theorem named_ok {s : ByteArray} (hs : s.size ≤ 1000000) : Ev (fun k => plant_named.f k s) (nmB s) := by
 have h := named_loop hs s.size 0 (by omega)
 rw [allFrom_all, Bool.and_comm] at h
 exact h
theorem Named_loop {s : ByteArray} (hs : s.size ≤ 1000000) : ∀ (d : Nat) (i : Nat), i + d = s.size → Ev (fun k => hinterlandref10_Named.l0 k s (i : Int)) (allFrom s i d) := by
 intro d; induction d with
 | zero =>
  intro i hi
  refine Ev.step (fun _ => rfl) ?_
  simp only [hinterlandref10_Named.l0, show ¬ (i : Int) < (s.size : Int) by omega, if_false, allFrom]; exact Ev.now _
 | succ d ih =>
  intro i hi
  have hb : (if bt s (i : Int) < 97 then true else decide (bt s (i : Int) > 122)) = !letB s i := by
   unfold letB inB
   by_cases h : bt s (i : Int) < 97
   ·rw [if_pos h]; simp; omega
   ·rw [if_neg h]; by_cases h2 : bt s (i : Int) > 122 <;> simp [h2] <;> omega
  have hi0 : (i : Int) < (s.size : Int) := by omega
  have i0 : (0 : Int) ≤ (i : Int) := by omega
  have wi : wrap64 ((i : Int) + 1) = ((i + 1 : Nat) : Int) := by rw [w64_in (by omega) (by omega)]; omega
  have tail : Ev (fun k => hinterlandref10_Named.j2 k s (i : Int) (!letB s i)) (allFrom s i (d + 1)) := by
   rw [allFrom_succ]
   refine Ev.step (fun _ => rfl) ?_
   cases hl : letB s i with
   | true =>
    simp only [hinterlandref10_Named.j2, Bool.not_true, Bool.false_eq_true, if_false, wi, Bool.true_and]
    exact ih (i + 1) (by omega)
   | false =>
    simp only [hinterlandref10_Named.j2, Bool.not_false, if_true, Bool.false_and]; exact Ev.now _
  refine Ev.step (fun _ => rfl) ?_
  rw [← hb] at tail
  simp only [hinterlandref10_Named.l0, hi0, i0, if_true]
  by_cases h : bt s (i : Int) < 97
  ·simp only [h, if_true] at tail ⊢; exact tail
  ·simp only [h, if_false] at tail ⊢; exact tail
theorem Named_ok {s : ByteArray} (hs : s.size ≤ 1000000) : Ev (fun k => hinterlandref10_Named.f k s) (nmB s) := by
 unfold hinterlandref10_Named.f nmB
 have h := Named_loop hs s.size 0 (by omega)
 rw [allFrom_all] at h
 by_cases h1 : (s.size : Int) < 1
 ·simp only [h1, if_true, show ¬ 1 ≤ s.size by omega, decide_false, Bool.false_and]
  refine Ev.step (fun _ => rfl) ?_
  simp only [hinterlandref10_Named.j0, if_true]; exact Ev.now _
 ·simp only [h1, if_false, show 1 ≤ s.size by omega, decide_true, Bool.true_and]
  refine Ev.step (fun _ => rfl) ?_
  by_cases h2 : s.size ≤ 12
  ·simp only [hinterlandref10_Named.j0, show ¬ (s.size : Int) > 12 by omega, decide_false, Bool.false_eq_true, if_false, h2, decide_true, Bool.true_and]
   exact h
  ·simp only [hinterlandref10_Named.j0, show (s.size : Int) > 12 by omega, decide_true, if_true, h2, decide_false, Bool.false_and]; exact Ev.now _
theorem within_loop (hi : Int) {l : List Int} (hl : l.length ≤ 1000000) : ∀ (d i : Nat), i + d = l.length → Ev (fun k => plant_within.l0 k hi l (l.length : Int) (i : Int)) ((l.drop i).all (inB 0 hi)) := by
 intro d; induction d with
 | zero =>
  intro i hi'
  refine Ev.step (fun _ => rfl) ?_
  simp only [plant_within.l0, show ¬ (i : Int) < (l.length : Int) by omega, if_false, List.drop_of_length_le (show l.length ≤ i by omega), List.all_nil]; exact Ev.now _
 | succ d ih =>
  intro i hi'
  have hi0 : (i : Int) < (l.length : Int) := by omega
  have i0 : (0 : Int) ≤ (i : Int) := by omega
  have hr : l.drop i = rd l (i : Int) :: l.drop (i + 1) := by
   unfold rd
   rw [List.drop_eq_getElem_cons (by omega), List.getD_eq_getElem?_getD, List.getElem?_eq_getElem (by simp; omega)]; simp
  have hb : (if rd l (i : Int) < 0 then true else decide (rd l (i : Int) > hi)) = !inB 0 hi (rd l (i : Int)) := by
   unfold inB
   by_cases h : rd l (i : Int) < 0
   ·rw [if_pos h]; simp; omega
   ·rw [if_neg h]; by_cases h2 : rd l (i : Int) > hi <;> simp [h2] <;> omega
  have wi : wrap64 ((i : Int) + 1) = ((i + 1 : Nat) : Int) := by rw [w64_in (by omega) (by omega)]; omega
  have tail : Ev (fun k => plant_within.j1 k hi l (l.length : Int) (i : Int) (!inB 0 hi (rd l (i : Int)))) ((l.drop i).all (inB 0 hi)) := by
   rw [hr, List.all_cons]
   refine Ev.step (fun _ => rfl) ?_
   cases hl : inB 0 hi (rd l (i : Int)) with
   | true =>
    simp only [plant_within.j1, Bool.not_true, Bool.false_eq_true, if_false, wi, Bool.true_and]
    exact ih (i + 1) (by omega)
   | false =>
    simp only [plant_within.j1, Bool.not_false, if_true, Bool.false_and]; exact Ev.now _
  refine Ev.step (fun _ => rfl) ?_
  rw [← hb] at tail
  simp only [plant_within.l0, hi0, i0, if_true]
  by_cases h : rd l (i : Int) < 0
  ·simp only [h, if_true] at tail ⊢; exact tail
  ·simp only [h, if_false] at tail ⊢; exact tail
theorem within_ok (hi : Int) {l : List Int} (hl : l.length ≤ 1000000) : Ev (fun k => plant_within.f k hi l) (l.all (inB 0 hi)) := within_loop hi hl l.length 0 (by omega)
theorem rwithin (a lo hi : Int) : hinterlandref10_within.f a lo hi = some (inB lo hi a) := by
 unfold hinterlandref10_within.f inB
 by_cases h1 : a ≥ lo
 ·by_cases h2 : a ≤ hi
  ·simp [h1, h2]
  ·simp [h1, h2]
 ·simp [h1]
end Go.Proofs.Ytnkgelnkoljgdaa.Mod
namespace Go.Proofs.Ytnkgelnkoljgdaa.Kin
open Go.RowKit Go.Proofs.YtnkgelnkoljgdaaOwn Go.Proofs.Ytnkgelnkoljgdaa.Q Go.Proofs.Ytnkgelnkoljgdaa.Mod Go.Proofs.YtnkgelnkoljgdaaW.PrintWords Go.Proofs.YtnkgelnkoljgdaaW.PrintLast Go.Proofs.YtnkgelnkoljgdaaW.PrintMore
set_option linter.unusedVariables false
set_option linter.unusedSimpArgs false
/-- A cargo that is taken stands right. -/
def tOK (T : List Int) (i : Nat) : Bool := inB 0 15 (rd T (i : Int)) && (decide (i = 0) || decide (rd T ((i : Int) - 1) < rd T (i : Int)))
/-- A cargo that is made stands right. -/
def mOK (M : List S41) (i : Nat) : Bool := inB 0 15 (rd_T41 M (i : Int)).f0 && (inB 1 1000 (rd_T41 M (i : Int)).f1 && (decide (i = 0) || decide ((rd_T41 M ((i : Int) - 1)).f0 < (rd_T41 M (i : Int)).f0)))
/-- A kind is right. -/
def kB (m : S39) : Bool := nmB m.f0 && (decide (m.f1.length ≤ 4) && (decide (m.f2.length ≤ 4) && ((List.range' 0 m.f1.length).all (tOK m.f1) && (List.range' 0 m.f2.length).all (mOK m.f2))))
theorem pm_loop (s : ByteArray) (T : List Int) {M : List S41} (hM : M.length ≤ 1000000) : ∀ (d i : Nat), i + d = M.length → Ev (fun k => plant_kind.l1 k M (M.length : Int) (i : Int) s T M) ((List.range' i d).all (mOK M)) := by
 intro d; induction d with
 | zero =>
  intro i hi
  refine Ev.step (fun _ => rfl) ?_
  simp only [plant_kind.l1, show ¬ (i : Int) < (M.length : Int) by omega, if_false, List.range'_zero, List.all_nil]; exact Ev.now _
 | succ d ih =>
  intro i hi
  have hi0 : (i : Int) < (M.length : Int) := by omega
  have i0 : (0 : Int) ≤ (i : Int) := by omega
  have wi : wrap64 ((i : Int) + 1) = ((i + 1 : Nat) : Int) := by rw [w64_in (by omega) (by omega)]; omega
  have wp : wrap64 ((i : Int) - 1) = (i : Int) - 1 := w64_in (by omega) (by omega)
  have tail : ∀ b, mOK M i = !b → Ev (fun k => plant_kind.j4 k M (M.length : Int) (i : Int) b s T M) ((List.range' i (d + 1)).all (mOK M)) := by
   intro b hb
   rw [List.range'_succ, List.all_cons, hb]
   refine Ev.step (fun _ => rfl) ?_
   cases b with
   | true => simp only [plant_kind.j4, if_true, Bool.not_true, Bool.false_and]; exact Ev.now _
   | false => simp only [plant_kind.j4, Bool.false_eq_true, if_false, wi, Bool.not_false, Bool.true_and]; exact ih (i + 1) (by omega)
  refine Ev.step (fun _ => rfl) ?_
  simp only [plant_kind.l1, hi0, i0, if_true]
  by_cases h1 : (rd_T41 M (i : Int)).f0 < 0
  ·simp only [h1, if_true]; exact tail true (by unfold mOK inB; simp; omega)
  ·by_cases h2 : (rd_T41 M (i : Int)).f0 ≥ 16
   ·simp only [h1, h2, if_true, if_false]; exact tail true (by unfold mOK inB; simp; omega)
   ·by_cases h3 : (rd_T41 M (i : Int)).f1 < 1
    ·simp only [h1, h2, h3, if_true, if_false]; exact tail true (by unfold mOK inB; simp; omega)
    ·by_cases h4 : (rd_T41 M (i : Int)).f1 > 1000
     ·simp only [h1, h2, h3, h4, if_true, if_false]; exact tail true (by unfold mOK inB; simp; omega)
     ·have e1 : inB 0 15 (rd_T41 M (i : Int)).f0 = true := inB_true.2 (by omega)
      have e2 : inB 1 1000 (rd_T41 M (i : Int)).f1 = true := inB_true.2 (by omega)
      by_cases h5 : (i : Int) > 0
      ·have a0 : (0 : Int) ≤ (i : Int) - 1 := by omega
       have a1 : (i : Int) - 1 < (M.length : Int) := by omega
       simp only [h1, h2, h3, h4, h5, wp, a0, a1, if_true, if_false]
       refine tail _ ?_
       unfold mOK; rw [e1, e2, show decide (i = 0) = false by simp; omega]
       simp only [Bool.true_and, Bool.false_or, ← decide_not, decide_eq_decide]; omega
      ·simp only [h1, h2, h3, h4, h5, if_true, if_false]
       refine tail _ ?_
       unfold mOK; rw [e1, e2, show decide (i = 0) = true by simp; omega]; simp
theorem pt_loop (s : ByteArray) {T : List Int} {M : List S41} (hT : T.length ≤ 1000000) {r : Bool} (h : Ev (fun k => plant_kind.l1 k M (M.length : Int) 0 s T M) r) : ∀ (d i : Nat), i + d = T.length → Ev (fun k => plant_kind.l0 k T (T.length : Int) (i : Int) s T M) ((List.range' i d).all (tOK T) && r) := by
 intro d; induction d with
 | zero =>
  intro i hi
  refine Ev.step (fun _ => rfl) ?_
  simp only [plant_kind.l0, show ¬ (i : Int) < (T.length : Int) by omega, if_false, List.range'_zero, List.all_nil, Bool.true_and]; exact h
 | succ d ih =>
  intro i hi
  have hi0 : (i : Int) < (T.length : Int) := by omega
  have i0 : (0 : Int) ≤ (i : Int) := by omega
  have wi : wrap64 ((i : Int) + 1) = ((i + 1 : Nat) : Int) := by rw [w64_in (by omega) (by omega)]; omega
  have wp : wrap64 ((i : Int) - 1) = (i : Int) - 1 := w64_in (by omega) (by omega)
  have tail : ∀ b, tOK T i = !b → Ev (fun k => plant_kind.j2 k T (T.length : Int) (i : Int) b s T M) ((List.range' i (d + 1)).all (tOK T) && r) := by
   intro b hb
   rw [List.range'_succ, List.all_cons, hb]
   refine Ev.step (fun _ => rfl) ?_
   cases b with
   | true => simp only [plant_kind.j2, if_true, Bool.not_true, Bool.false_and]; exact Ev.now _
   | false => simp only [plant_kind.j2, Bool.false_eq_true, if_false, wi, Bool.not_false, Bool.true_and]; exact ih (i + 1) (by omega)
  refine Ev.step (fun _ => rfl) ?_
  simp only [plant_kind.l0, hi0, i0, if_true]
  by_cases h1 : rd T (i : Int) < 0
  ·simp only [h1, if_true]; exact tail true (by unfold tOK inB; simp; omega)
  ·by_cases h2 : rd T (i : Int) ≥ 16
   ·simp only [h1, h2, if_true, if_false]; exact tail true (by unfold tOK inB; simp; omega)
   ·have e1 : inB 0 15 (rd T (i : Int)) = true := inB_true.2 (by omega)
    by_cases h5 : (i : Int) > 0
    ·have a0 : (0 : Int) ≤ (i : Int) - 1 := by omega
     have a1 : (i : Int) - 1 < (T.length : Int) := by omega
     simp only [h1, h2, h5, wp, a0, a1, if_true, if_false]
     refine tail _ ?_
     unfold tOK; rw [e1, show decide (i = 0) = false by simp; omega]
     simp only [Bool.true_and, Bool.false_or, ← decide_not, decide_eq_decide]; omega
    ·simp only [h1, h2, h5, if_true, if_false]
     refine tail _ ?_
     unfold tOK; rw [e1, show decide (i = 0) = true by simp; omega]; simp
theorem pkind_ok (m : S39) (h0 : m.f0.size ≤ 1000000) (h1 : m.f1.length ≤ 1000000) (h2 : m.f2.length ≤ 1000000) : Ev (fun k => plant_kind.f k m.f0 m.f1 m.f2) (kB m) := by
 unfold plant_kind.f kB
 refine Ev.bind (named_ok h0) ?_
 have bad : Ev (fun k => plant_kind.j0 k true m.f0 m.f1 m.f2) false := by
  refine Ev.step (fun _ => rfl) ?_
  simp only [plant_kind.j0, if_true]; exact Ev.now _
 cases nmB m.f0 with
 | false => simp only [Bool.false_eq_true, if_false, Bool.false_and]; exact bad
 | true =>
  simp only [if_true, Bool.true_and]
  by_cases a1 : (m.f1.length : Int) > 4
  ·simp only [a1, if_true, show ¬ m.f1.length ≤ 4 by omega, decide_false, Bool.false_and]; exact bad
  ·simp only [a1, if_false, show m.f1.length ≤ 4 by omega, decide_true, Bool.true_and]
   by_cases a2 : (m.f2.length : Int) > 4
   ·simp only [a2, decide_true, show ¬ m.f2.length ≤ 4 by omega, decide_false, Bool.false_and]; exact bad
   ·simp only [a2, decide_false, show m.f2.length ≤ 4 by omega, decide_true, Bool.true_and]
    refine Ev.step (fun _ => rfl) ?_
    simp only [plant_kind.j0, Bool.false_eq_true, if_false]
    exact pt_loop m.f0 h1 (pm_loop m.f0 m.f1 h2 m.f2.length 0 (by omega)) m.f1.length 0 (by omega)
theorem rm_loop (s : ByteArray) (T : List Int) {M : List S41} (hM : M.length ≤ 1000000) : ∀ (d i : Nat), i + d = M.length → Ev (fun k => hinterlandref10_right.l1 k M (M.length : Int) (i : Int) s T M) ((List.range' i d).all (mOK M)) := by
 intro d; induction d with
 | zero =>
  intro i hi
  refine Ev.step (fun _ => rfl) ?_
  simp only [hinterlandref10_right.l1, show ¬ (i : Int) < (M.length : Int) by omega, if_false, List.range'_zero, List.all_nil]; exact Ev.now _
 | succ d ih =>
  intro i hi
  have hi0 : (i : Int) < (M.length : Int) := by omega
  have i0 : (0 : Int) ≤ (i : Int) := by omega
  have wi : wrap64 ((i : Int) + 1) = ((i + 1 : Nat) : Int) := by rw [w64_in (by omega) (by omega)]; omega
  have wp : wrap64 ((i : Int) - 1) = (i : Int) - 1 := w64_in (by omega) (by omega)
  have tail : ∀ b, mOK M i = !b → Ev (fun k => hinterlandref10_right.j4 k M (M.length : Int) (i : Int) b s T M) ((List.range' i (d + 1)).all (mOK M)) := by
   intro b hb
   rw [List.range'_succ, List.all_cons, hb]
   refine Ev.step (fun _ => rfl) ?_
   cases b with
   | true => simp only [hinterlandref10_right.j4, if_true, Bool.not_true, Bool.false_and]; exact Ev.now _
   | false => simp only [hinterlandref10_right.j4, Bool.false_eq_true, if_false, wi, Bool.not_false, Bool.true_and]; exact ih (i + 1) (by omega)
  refine Ev.step (fun _ => rfl) ?_
  simp only [hinterlandref10_right.l1, hi0, i0, if_true, rwithin, Option.bind_some]
  cases e1 : inB 0 15 (rd_T41 M (i : Int)).f0 with
  | false => simp only [Bool.false_eq_true, if_false]; exact tail true (by unfold mOK; rw [e1]; rfl)
  | true =>
   cases e2 : inB 1 1000 (rd_T41 M (i : Int)).f1 with
   | false => simp only [Bool.false_eq_true, if_false, if_true]; exact tail true (by unfold mOK; rw [e1, e2]; rfl)
   | true =>
    by_cases h5 : (i : Int) > 0
    ·have a0 : (0 : Int) ≤ (i : Int) - 1 := by omega
     have a1 : (i : Int) - 1 < (M.length : Int) := by omega
     simp only [h5, wp, a0, a1, if_true]
     refine tail _ ?_
     unfold mOK; rw [e1, e2, show decide (i = 0) = false by simp; omega]
     simp only [Bool.true_and, Bool.false_or, ← decide_not, decide_eq_decide]; omega
    ·simp only [h5, if_true, if_false]
     refine tail _ ?_
     unfold mOK; rw [e1, e2, show decide (i = 0) = true by simp; omega]; simp
theorem rt_loop (s : ByteArray) {T : List Int} {M : List S41} (hT : T.length ≤ 1000000) {r : Bool} (h : Ev (fun k => hinterlandref10_right.l1 k M (M.length : Int) 0 s T M) r) : ∀ (d i : Nat), i + d = T.length → Ev (fun k => hinterlandref10_right.l0 k T (T.length : Int) (i : Int) s T M) ((List.range' i d).all (tOK T) && r) := by
 intro d; induction d with
 | zero =>
  intro i hi
  refine Ev.step (fun _ => rfl) ?_
  simp only [hinterlandref10_right.l0, show ¬ (i : Int) < (T.length : Int) by omega, if_false, List.range'_zero, List.all_nil, Bool.true_and]; exact h
 | succ d ih =>
  intro i hi
  have hi0 : (i : Int) < (T.length : Int) := by omega
  have i0 : (0 : Int) ≤ (i : Int) := by omega
  have wi : wrap64 ((i : Int) + 1) = ((i + 1 : Nat) : Int) := by rw [w64_in (by omega) (by omega)]; omega
  have wp : wrap64 ((i : Int) - 1) = (i : Int) - 1 := w64_in (by omega) (by omega)
  have tail : ∀ b, tOK T i = !b → Ev (fun k => hinterlandref10_right.j2 k T (T.length : Int) (i : Int) b s T M) ((List.range' i (d + 1)).all (tOK T) && r) := by
   intro b hb
   rw [List.range'_succ, List.all_cons, hb]
   refine Ev.step (fun _ => rfl) ?_
   cases b with
   | true => simp only [hinterlandref10_right.j2, if_true, Bool.not_true, Bool.false_and]; exact Ev.now _
   | false => simp only [hinterlandref10_right.j2, Bool.false_eq_true, if_false, wi, Bool.not_false, Bool.true_and]; exact ih (i + 1) (by omega)
  refine Ev.step (fun _ => rfl) ?_
  simp only [hinterlandref10_right.l0, hi0, i0, if_true, rwithin, Option.bind_some]
  cases e1 : inB 0 15 (rd T (i : Int)) with
  | false => simp only [Bool.false_eq_true, if_false]; exact tail true (by unfold tOK; rw [e1]; rfl)
  | true =>
   by_cases h5 : (i : Int) > 0
   ·have a0 : (0 : Int) ≤ (i : Int) - 1 := by omega
    have a1 : (i : Int) - 1 < (T.length : Int) := by omega
    simp only [h5, wp, a0, a1, if_true]
    refine tail _ ?_
    unfold tOK; rw [e1, show decide (i = 0) = false by simp; omega]
    simp only [Bool.true_and, Bool.false_or, ← decide_not, decide_eq_decide]; omega
   ·simp only [h5, if_true, if_false]
    refine tail _ ?_
    unfold tOK; rw [e1, show decide (i = 0) = true by simp; omega]; simp
theorem rkind_ok (m : S39) (h0 : m.f0.size ≤ 1000000) (h1 : m.f1.length ≤ 1000000) (h2 : m.f2.length ≤ 1000000) : Ev (fun k => hinterlandref10_right.f k m.f0 m.f1 m.f2) (kB m) := by
 unfold hinterlandref10_right.f kB
 refine Ev.bind (Named_ok h0) ?_
 have bad : Ev (fun k => hinterlandref10_right.j0 k true m.f0 m.f1 m.f2) false := by
  refine Ev.step (fun _ => rfl) ?_
  simp only [hinterlandref10_right.j0, if_true]; exact Ev.now _
 cases nmB m.f0 with
 | false => simp only [Bool.false_eq_true, if_false, Bool.false_and]; exact bad
 | true =>
  simp only [if_true, Bool.true_and]
  by_cases a1 : (m.f1.length : Int) > 4
  ·simp only [a1, if_true, show ¬ m.f1.length ≤ 4 by omega, decide_false, Bool.false_and]; exact bad
  ·simp only [a1, if_false, show m.f1.length ≤ 4 by omega, decide_true, Bool.true_and]
   by_cases a2 : (m.f2.length : Int) > 4
   ·simp only [a2, decide_true, show ¬ m.f2.length ≤ 4 by omega, decide_false, Bool.false_and]; exact bad
   ·simp only [a2, decide_false, show m.f2.length ≤ 4 by omega, decide_true, Bool.true_and]
    refine Ev.step (fun _ => rfl) ?_
    simp only [hinterlandref10_right.j0, Bool.false_eq_true, if_false]
    exact rt_loop m.f0 h1 (rm_loop m.f0 m.f1 h2 m.f2.length 0 (by omega)) m.f1.length 0 (by omega)
structure GoodK (K : List S39) : Prop where
 len : K.length ≤ 16
 ok : ∀ i : Int, 0 ≤ i → i < (K.length : Int) → kB (rd_T39 K i) = true
structure Small (K : List S39) : Prop where
 len : K.length ≤ 300
 nm : ∀ i : Int, 0 ≤ i → i < (K.length : Int) → (rd_T39 K i).f0.size ≤ 300 ∧ (rd_T39 K i).f1.length ≤ 300 ∧ (rd_T39 K i).f2.length ≤ 300
theorem bytes_eq {a b : ByteArray} : a.toList = b.toList ↔ a = b := by
 constructor
 ·intro h
  have ha : a.data.toList = b.data.toList := by
   have e : ∀ c : ByteArray, c.toList = c.data.toList := fun c => ByteArray.toList_eq c
   rw [← e a, ← e b]; exact h
  cases a; cases b; congr 1; exact Array.ext' ha
 ·intro h; rw [h]
end Go.Proofs.Ytnkgelnkoljgdaa.Kin
namespace Go.Proofs.Ytnkgelnkoljgdaa.Vk
open Go.RowKit Go.Proofs.YtnkgelnkoljgdaaOwn Go.Proofs.Ytnkgelnkoljgdaa.Q Go.Proofs.Ytnkgelnkoljgdaa.Mod Go.Proofs.Ytnkgelnkoljgdaa.Kin Go.Proofs.YtnkgelnkoljgdaaW.PrintWords Go.Proofs.YtnkgelnkoljgdaaW.PrintLast Go.Proofs.YtnkgelnkoljgdaaW.PrintMore
set_option linter.unusedVariables false
set_option linter.unusedSimpArgs false
theorem dup_loop {K : List S39} (hK : K.length ≤ 1000000) {i : Int} {y : List S39} (hy : y.length ≤ 1000000) (m : S39) {r : Int} (h : Ev (fun k => hinterlandref10_ValidateKinds.l1 k K K (K.length : Int) (wrap64 (i + 1))) r) : ∀ (d j : Nat), j + d = y.length → Ev (fun k => hinterlandref10_ValidateKinds.l2 k K K (K.length : Int) i y (y.length : Int) (j : Int) m.f0 m.f1 m.f2) (if (y.drop j).any (fun x => decide (m.f0 = x.f0)) = true then 3 else r) := by
 intro d; induction d with
 | zero =>
  intro j hj
  refine Ev.step (fun _ => rfl) ?_
  simp only [hinterlandref10_ValidateKinds.l2, show ¬ (j : Int) < (y.length : Int) by omega, if_false, List.drop_of_length_le (show y.length ≤ j by omega), List.any_nil, Bool.false_eq_true]; exact h
 | succ d ih =>
  intro j hj
  have hj0 : (j : Int) < (y.length : Int) := by omega
  have j0 : (0 : Int) ≤ (j : Int) := by omega
  have wj : wrap64 ((j : Int) + 1) = ((j + 1 : Nat) : Int) := by rw [w64_in (by omega) (by omega)]; omega
  have hr : y.drop j = rd_T39 y (j : Int) :: y.drop (j + 1) := by
   unfold rd_T39
   rw [List.drop_eq_getElem_cons (by omega), List.getD_eq_getElem?_getD, List.getElem?_eq_getElem (by simp; omega)]; simp
  refine Ev.step (fun _ => rfl) ?_
  rw [hr, List.any_cons]
  simp only [hinterlandref10_ValidateKinds.l2, hj0, j0, if_true, wj]
  by_cases he : (rd_T39 y (j : Int)).f0 = m.f0
  ·simp only [he, if_true, decide_true, Bool.true_or]; exact Ev.now _
  ·have h1 : ¬ (rd_T39 y (j : Int)).f0.toList = m.f0.toList := fun e => he (bytes_eq.1 e)
   have h2 : ¬ m.f0 = (rd_T39 y (j : Int)).f0 := fun e => he e.symm
   simp only [h1, h2, if_false, decide_false, Bool.false_or]; exact ih (j + 1) (by omega)
theorem dups_both {K : List S39} (s : Small K) : ∀ (d i : Nat), i + d = K.length → ∃ r, Ev (fun k => plant_ValidateKinds.l1 k K (K.length : Int) (i : Int)) r ∧ Ev (fun k => hinterlandref10_ValidateKinds.l1 k K K (K.length : Int) (i : Int)) r := by
 have hK := s.len
 intro d; induction d with
 | zero =>
  intro i hi
  refine ⟨0, Ev.step (fun _ => rfl) ?_, Ev.step (fun _ => rfl) ?_⟩
  ·simp only [plant_ValidateKinds.l1, show ¬ (i : Int) < (K.length : Int) by omega, if_false]; exact Ev.now _
  ·simp only [hinterlandref10_ValidateKinds.l1, show ¬ (i : Int) < (K.length : Int) by omega, if_false]; exact Ev.now _
 | succ d ih =>
  intro i hi
  have hi0 : (i : Int) < (K.length : Int) := by omega
  have i0 : (0 : Int) ≤ (i : Int) := by omega
  have wi : wrap64 ((i : Int) + 1) = ((i + 1 : Nat) : Int) := by rw [w64_in (by omega) (by omega)]; omega
  have hs : (rd_T39 K (i : Int)).f0.size ≤ maxLen := by have := (s.nm i i0 hi0).1; unfold maxLen; omega
  obtain ⟨r, e1, e2⟩ := ih (i + 1) (by omega)
  have l2 := dup_loop (K := K) (by omega) (i := (i : Int)) (y := K.take i) (by simp; omega) (rd_T39 K (i : Int)) (r := r) (by rw [wi]; exact e2) (K.take i).length 0 (by omega)
  rw [List.drop_zero] at l2
  refine ⟨if plant_seen K (i : Int) = true then 3 else r, Ev.step (fun _ => rfl) ?_, Ev.step (fun _ => rfl) ?_⟩
  ·simp only [plant_ValidateKinds.l1, hi0, i0, hs, if_true, wi]
   by_cases h : plant_seen K (i : Int) = true
   ·simp only [h, if_true]; exact Ev.now _
   ·simp only [h, if_false]; exact e1
  ·simp only [hinterlandref10_ValidateKinds.l1, hi0, i0, show (i : Int) ≤ (K.length : Int) by omega, if_true, Option.bind_some, Int.toNat_natCast]
   have e : plant_seen K (i : Int) = (K.take i).any (fun x => decide ((rd_T39 K (i : Int)).f0 = x.f0)) := by unfold plant_seen; simp only [Int.toNat_natCast]
   rw [e]; exact l2
theorem oks_both {K : List S39} (s : Small K) {r : Int} (h1 : Ev (fun k => plant_ValidateKinds.l1 k K (K.length : Int) 0) r) (h2 : Ev (fun k => hinterlandref10_ValidateKinds.l1 k K K (K.length : Int) 0) r) : ∀ (d i : Nat), i + d = K.length → ∃ r', Ev (fun k => plant_ValidateKinds.l0 k K K (K.length : Int) (i : Int)) r' ∧ Ev (fun k => hinterlandref10_ValidateKinds.l0 k K K (K.length : Int) (i : Int)) r' ∧ (r' = 0 → ∀ j : Int, (i : Int) ≤ j → j < (K.length : Int) → kB (rd_T39 K j) = true) := by
 have hK := s.len
 intro d; induction d with
 | zero =>
  intro i hi
  refine ⟨r, Ev.step (fun _ => rfl) ?_, Ev.step (fun _ => rfl) ?_, fun _ j a b => by omega⟩
  ·simp only [plant_ValidateKinds.l0, show ¬ (i : Int) < (K.length : Int) by omega, if_false]; exact h1
  ·simp only [hinterlandref10_ValidateKinds.l0, show ¬ (i : Int) < (K.length : Int) by omega, if_false]; exact h2
 | succ d ih =>
  intro i hi
  have hi0 : (i : Int) < (K.length : Int) := by omega
  have i0 : (0 : Int) ≤ (i : Int) := by omega
  have wi : wrap64 ((i : Int) + 1) = ((i + 1 : Nat) : Int) := by rw [w64_in (by omega) (by omega)]; omega
  obtain ⟨n0, n1, n2⟩ := s.nm i i0 hi0
  have k1 := pkind_ok (rd_T39 K (i : Int)) (by omega) (by omega) (by omega)
  have k2 := rkind_ok (rd_T39 K (i : Int)) (by omega) (by omega) (by omega)
  cases hb : kB (rd_T39 K (i : Int)) with
  | false =>
   rw [hb] at k1 k2
   refine ⟨1, Ev.step (fun _ => rfl) ?_, Ev.step (fun _ => rfl) ?_, fun h => by omega⟩
   ·simp only [plant_ValidateKinds.l0, hi0, i0, if_true]
    refine Ev.bind k1 ?_
    simp only [Bool.false_eq_true, if_false]; exact Ev.now _
   ·simp only [hinterlandref10_ValidateKinds.l0, hi0, i0, if_true]
    refine Ev.bind k2 ?_
    simp only [Bool.false_eq_true, if_false]; exact Ev.now _
  | true =>
   rw [hb] at k1 k2
   obtain ⟨r', e1, e2, e3⟩ := ih (i + 1) (by omega)
   refine ⟨r', Ev.step (fun _ => rfl) ?_, Ev.step (fun _ => rfl) ?_, fun h j a b => ?_⟩
   ·simp only [plant_ValidateKinds.l0, hi0, i0, if_true]
    refine Ev.bind k1 ?_
    simp only [if_true, wi]; exact e1
   ·simp only [hinterlandref10_ValidateKinds.l0, hi0, i0, if_true]
    refine Ev.bind k2 ?_
    simp only [if_true, wi]; exact e2
   ·by_cases he : j = (i : Int)
    ·rw [he]; exact hb
    ·exact e3 h j (by omega) b
theorem vk_both {K : List S39} (s : Small K) : ∃ r, Ev (fun k => plant_ValidateKinds.f k K) r ∧ Ev (fun k => hinterlandref10_ValidateKinds.f k K) r ∧ (r = 0 → GoodK K) := by
 unfold plant_ValidateKinds.f hinterlandref10_ValidateKinds.f
 by_cases h : (K.length : Int) > 16
 ·refine ⟨4, ?_, ?_, fun h => by omega⟩
  ·simp only [h, if_true]; exact Ev.now _
  ·simp only [h, if_true]; exact Ev.now _
 ·obtain ⟨r, d1, d2⟩ := dups_both s K.length 0 (by omega)
  obtain ⟨r', e1, e2, e3⟩ := oks_both s d1 d2 K.length 0 (by omega)
  refine ⟨r', ?_, ?_, fun hr => ⟨by omega, fun j a b => e3 hr j a b⟩⟩
  ·simp only [h, if_false]; exact e1
  ·simp only [h, if_false]; exact e2
theorem large_loop {K : List S39} (hM : K.length ≤ maxLen) {A B C D : List Int} (a1 a2 a3 a4 a5 : Int) (a6 : Bool) : ∀ (d : Nat) (i : Int), 0 ≤ i → i + d = (K.length : Int) → ∃ r, Ev (fun k => hinterlandlaw10_large.l0 k K K (K.length : Int) i a1 a2 a3 A B C D a4 a5 a6) r ∧ (r = false → (∀ j, i ≤ j → j < (K.length : Int) → (rd_T39 K j).f0.size ≤ 300 ∧ (rd_T39 K j).f1.length ≤ 300 ∧ (rd_T39 K j).f2.length ≤ 300) ∧ K.length ≤ 300 ∧ A.length ≤ 300 ∧ B.length ≤ 300 ∧ C.length ≤ 300 ∧ D.length ≤ 300) := by
 unfold maxLen at hM
 intro d; induction d with
 | zero =>
  intro i i0 hd
  have hi : ¬ i < (K.length : Int) := by omega
  by_cases h1 : (K.length : Int) > 300
  ·exact ⟨true, Ev.step (fun _ => rfl) (by simp only [hinterlandlaw10_large.l0, hi, h1, if_false, if_true]; exact Ev.now _), fun h => by cases h⟩
  by_cases h2 : (A.length : Int) > 300
  ·exact ⟨true, Ev.step (fun _ => rfl) (by simp only [hinterlandlaw10_large.l0, hi, h1, h2, if_false, if_true]; exact Ev.now _), fun h => by cases h⟩
  by_cases h3 : (B.length : Int) > 300
  ·exact ⟨true, Ev.step (fun _ => rfl) (by simp only [hinterlandlaw10_large.l0, hi, h1, h2, h3, if_false, if_true]; exact Ev.now _), fun h => by cases h⟩
  by_cases h4 : (C.length : Int) > 300
  ·exact ⟨true, Ev.step (fun _ => rfl) (by simp only [hinterlandlaw10_large.l0, hi, h1, h2, h3, h4, if_false, if_true]; exact Ev.now _), fun h => by cases h⟩
  ·refine ⟨decide ((D.length : Int) > 300), Ev.step (fun _ => rfl) (by simp only [hinterlandlaw10_large.l0, hi, h1, h2, h3, h4, if_false]; exact Ev.now _), fun h => ⟨fun j a b => by omega, by omega, by omega, by omega, by omega, ?_⟩⟩
   have := of_decide_eq_false h; omega
 | succ d ih =>
  intro i i0 hd
  have hi : i < (K.length : Int) := by omega
  have wi : wrap64 (i + 1) = i + 1 := w64_in (by omega) (by omega)
  have yes : Ev (fun k => hinterlandlaw10_large.j1 k K K (K.length : Int) i true a1 a2 a3 A B C D a4 a5 a6) true := by
   refine Ev.step (fun _ => rfl) ?_
   simp only [hinterlandlaw10_large.j1, if_true]; exact Ev.now _
  by_cases h1 : ((rd_T39 K i).f1.length : Int) > 300
  ·exact ⟨true, Ev.step (fun _ => rfl) (by simp only [hinterlandlaw10_large.l0, hi, i0, h1, if_true]; exact yes), fun h => by cases h⟩
  by_cases h2 : ((rd_T39 K i).f2.length : Int) > 300
  ·exact ⟨true, Ev.step (fun _ => rfl) (by simp only [hinterlandlaw10_large.l0, hi, i0, h1, h2, if_true, if_false]; exact yes), fun h => by cases h⟩
  by_cases h3 : ((rd_T39 K i).f0.size : Int) > 300
  ·exact ⟨true, Ev.step (fun _ => rfl) (by simp only [hinterlandlaw10_large.l0, hi, i0, h1, h2, h3, if_true, if_false, decide_true]; exact yes), fun h => by cases h⟩
  ·obtain ⟨r, e1, e2⟩ := ih (i + 1) (by omega) (by omega)
   refine ⟨r, Ev.step (fun _ => rfl) (by
    simp only [hinterlandlaw10_large.l0, hi, i0, h1, h2, h3, if_true, if_false, decide_false]
    refine Ev.step (fun _ => rfl) ?_
    simp only [hinterlandlaw10_large.j1, Bool.false_eq_true, if_false, wi]; exact e1), fun h => ⟨fun j a b => ?_, (e2 h).2⟩⟩
   by_cases e : j = i
   ·rw [e]; exact ⟨by omega, by omega, by omega⟩
   ·exact (e2 h).1 j (by omega) b
theorem large_ok {K : List S39} (hK : wRow wT39 K) (A B C D : List Int) (a1 a2 a3 a4 a5 : Int) (a6 : Bool) : ∃ r, Ev (fun k => hinterlandlaw10_large.f k K a1 a2 a3 A B C D a4 a5 a6) r ∧ (r = false → Small K ∧ A.length ≤ 300 ∧ B.length ≤ 300 ∧ C.length ≤ 300 ∧ D.length ≤ 300) := by
 obtain ⟨r, e1, e2⟩ := large_loop hK.1 (A := A) (B := B) (C := C) (D := D) a1 a2 a3 a4 a5 a6 K.length 0 (by omega) (by omega)
 exact ⟨r, e1, fun h => ⟨⟨(e2 h).2.1, fun i a b => (e2 h).1 i a b⟩, (e2 h).2.2⟩⟩
end Go.Proofs.Ytnkgelnkoljgdaa.Vk
namespace Go.Proofs.Ytnkgelnkoljgdaa.Val
open Go.RowKit Go.Proofs.YtnkgelnkoljgdaaOwn Go.Proofs.Ytnkgelnkoljgdaa.Q Go.Proofs.Ytnkgelnkoljgdaa.Mod Go.Proofs.Ytnkgelnkoljgdaa.Kin Go.Proofs.Ytnkgelnkoljgdaa.Vk Go.Proofs.YtnkgelnkoljgdaaW.PrintWords Go.Proofs.YtnkgelnkoljgdaaW.PrintLast Go.Proofs.YtnkgelnkoljgdaaW.PrintMore
set_option linter.unusedVariables false
set_option linter.unusedSimpArgs false
/-- A plant's numbers lie right, its kind making n cargoes. -/
def plB (n : Nat) (tile level : Int) (S R Md Mv : List Int) (got idle : Int) : Bool :=
 inB 0 1000000 tile && inB 1 64 level && (decide (S.length = n) && decide (R.length = n) && decide (Md.length = n) && decide (Mv.length = n)) && (S.all (inB 0 1000000) && R.all (inB 0 7) && Md.all (inB 0 1000000) && Mv.all (inB 0 1000000)) && (inB 0 1000000 got && inB 0 1000000 idle)
/-- The first error of a plant, behind v, that of its kinds. -/
def vr (v : Int) (K : List S39) (kind tile level : Int) (S R Md Mv : List Int) (got idle : Int) : Int :=
 if v ≠ 0 then v else if 0 ≤ kind ∧ kind < (K.length : Int) then (if plB (rd_T39 K kind).f2.length tile level S R Md Mv got idle = true then 0 else 1) else 2
section
variable {K : List S39} {kind tile level : Int} {S R Md Mv : List Int} {got idle : Int} {op : Bool}
theorem two_all (a b : Int) : ([a, b] : List Int).all (inB 0 1000000) = (inB 0 1000000 a && inB 0 1000000 b) := by simp
theorem valid_ok {v : Int} (hS : S.length ≤ 300) (hR : R.length ≤ 300) (hM : Md.length ≤ 300) (hV : Mv.length ≤ 300) (hv : Ev (fun k => plant_ValidateKinds.f k K) v) : Ev (fun k => plant_Validate.f k K kind tile level S R Md Mv got idle op) (vr v K kind tile level S R Md Mv got idle) := by
 unfold plant_Validate.f vr
 refine Ev.bind hv ?_
 by_cases h0 : v = 0
 ·simp only [h0, if_true, ne_eq, not_true_eq_false, if_false]
  have two : Ev (fun k => plant_Validate.j0 k K true kind tile level S R Md Mv got idle op) (2 : Int) := by
   refine Ev.step (fun _ => rfl) ?_
   simp only [plant_Validate.j0, if_true]; exact Ev.now _
  by_cases hk0 : kind < 0
  ·simp only [hk0, if_true, show ¬ (0 ≤ kind ∧ kind < (K.length : Int)) by omega, if_false]; exact two
  ·by_cases hk1 : kind ≥ (K.length : Int)
   ·simp only [hk0, if_false, hk1, decide_true, show ¬ (0 ≤ kind ∧ kind < (K.length : Int)) by omega]; exact two
   ·have a0 : 0 ≤ kind := by omega
    have a1 : kind < (K.length : Int) := by omega
    simp only [hk0, if_false, hk1, decide_false, a0, a1, and_self, if_true]
    refine Ev.step (fun _ => rfl) ?_
    simp only [plant_Validate.j0, Bool.false_eq_true, if_false, a0, a1, if_true]
    have one : Ev (fun k => plant_Validate.j1 k true kind tile level S R Md Mv got idle op) (1 : Int) := by
     refine Ev.step (fun _ => rfl) ?_
     simp only [plant_Validate.j1, if_true]; exact Ev.now _
    have last : ∀ b, Ev (fun k => plant_Validate.j2 k (!b)) (if b = true then (0 : Int) else 1) := by
     intro b
     refine Ev.step (fun _ => rfl) ?_
     cases b with
     | true => simp only [plant_Validate.j2, Bool.not_true, Bool.false_eq_true, if_false, if_true]; exact Ev.now _
     | false => simp only [plant_Validate.j2, Bool.not_false, Bool.false_eq_true, if_false, if_true]; exact Ev.now _
    have bad : Ev (fun k => plant_Validate.j2 k true) (1 : Int) := last false
    have hne : ∀ l : List Int, ((l.length : Int) = ((rd_T39 K kind).f2.length : Int)) ↔ l.length = (rd_T39 K kind).f2.length := fun l => by omega
    unfold plB
    by_cases b1 : tile < 0
    ·simp only [b1, if_true, show inB 0 1000000 tile = false by unfold inB; simp; omega, Bool.false_and, Bool.false_eq_true, if_false]; exact one
    by_cases b2 : tile > 1000000
    ·simp only [b1, b2, if_true, if_false, show inB 0 1000000 tile = false by unfold inB; simp; omega, Bool.false_and, Bool.false_eq_true]; exact one
    have t1 : inB 0 1000000 tile = true := inB_true.2 (by omega)
    by_cases b3 : level < 1
    ·simp only [b1, b2, b3, if_true, if_false, show inB 1 64 level = false by unfold inB; simp; omega, Bool.false_and, Bool.and_false, Bool.false_eq_true]; exact one
    by_cases b4 : level > 64
    ·simp only [b1, b2, b3, b4, if_true, if_false, show inB 1 64 level = false by unfold inB; simp; omega, Bool.false_and, Bool.and_false, Bool.false_eq_true]; exact one
    have t2 : inB 1 64 level = true := inB_true.2 (by omega)
    simp only [b1, b2, b3, b4, if_false, hne, t1, t2, Bool.true_and]
    by_cases c1 : S.length = (rd_T39 K kind).f2.length
    ·by_cases c2 : R.length = (rd_T39 K kind).f2.length
     ·by_cases c3 : Md.length = (rd_T39 K kind).f2.length
      ·by_cases c4 : Mv.length = (rd_T39 K kind).f2.length
       ·have c5 : ((Mv.length : Int) != ((rd_T39 K kind).f2.length : Int)) = false := by rw [c4]; simp
        simp only [c1, c2, c3, c4, c5, if_true, decide_true, Bool.true_and, bne_self_eq_false]
        refine Ev.step (fun _ => rfl) ?_
        simp only [plant_Validate.j1, Bool.false_eq_true, if_false]
        refine Ev.bind (within_ok _ (by omega)) ?_
        cases S.all (inB 0 1000000) with
        | false => simp only [Bool.false_eq_true, if_false, Bool.false_and]; exact bad
        | true =>
         simp only [if_true, Bool.true_and]
         refine Ev.bind (within_ok _ (by omega)) ?_
         cases R.all (inB 0 7) with
         | false => simp only [Bool.false_eq_true, if_false, Bool.false_and]; exact bad
         | true =>
          simp only [if_true, Bool.true_and]
          refine Ev.bind (within_ok _ (by omega)) ?_
          cases Md.all (inB 0 1000000) with
          | false => simp only [Bool.false_eq_true, if_false, Bool.false_and]; exact bad
          | true =>
           simp only [if_true, Bool.true_and]
           refine Ev.bind (within_ok _ (by omega)) ?_
           cases Mv.all (inB 0 1000000) with
           | false => simp only [Bool.false_eq_true, if_false, Bool.false_and]; exact bad
           | true =>
            simp only [if_true, Bool.true_and]
            refine Ev.bind (within_ok _ (by simp)) ?_
            rw [two_all]; exact last _
       ·have c5 : ((Mv.length : Int) != ((rd_T39 K kind).f2.length : Int)) = true := by simp; omega
        simp only [c1, c2, c3, c4, c5, if_true, decide_false, Bool.and_false, Bool.false_and, Bool.false_eq_true, if_false]; exact one
      ·simp only [c1, c2, c3, if_true, if_false, decide_false, Bool.and_false, Bool.false_and, Bool.false_eq_true]; exact one
     ·simp only [c1, c2, if_true, if_false, decide_false, Bool.and_false, Bool.false_and, Bool.false_eq_true]; exact one
    ·simp only [c1, if_false, decide_false, Bool.and_false, Bool.false_and, Bool.false_eq_true]; exact one
 ·simp only [h0, if_false, ne_eq, not_false_eq_true, if_true]; exact Ev.now _
end
end Go.Proofs.Ytnkgelnkoljgdaa.Val
namespace Go.Proofs.Ytnkgelnkoljgdaa.Pla
open Go.RowKit Go.Proofs.YtnkgelnkoljgdaaOwn Go.Proofs.Ytnkgelnkoljgdaa.Q Go.Proofs.Ytnkgelnkoljgdaa.Mod Go.Proofs.Ytnkgelnkoljgdaa.Kin Go.Proofs.Ytnkgelnkoljgdaa.Vk Go.Proofs.Ytnkgelnkoljgdaa.Val Go.Proofs.YtnkgelnkoljgdaaW.PrintWords Go.Proofs.YtnkgelnkoljgdaaW.PrintLast Go.Proofs.YtnkgelnkoljgdaaW.PrintMore
set_option linter.unusedVariables false
set_option linter.unusedSimpArgs false
theorem list_self {l : List Int} (hl : l.length < 1000000000) : ∀ (d : Nat) (i : Int), 0 ≤ i → i + d = l.length → Ev (fun k => hinterlandsame_List_int.l0 k l l i) true := by
 intro d; induction d with
 | zero =>
  intro i i0 hd
  refine Ev.step (fun _ => rfl) ?_
  simp only [hinterlandsame_List_int.l0, show ¬ i < (l.length : Int) by omega, if_false]; exact Ev.now _
 | succ d ih =>
  intro i i0 hd
  refine Ev.step (fun _ => rfl) ?_
  simp only [hinterlandsame_List_int.l0, show i < (l.length : Int) by omega, i0, if_true, show wrap64 (i + 1) = i + 1 from w64_in (by omega) (by omega)]
  exact ih (i + 1) (by omega) (by omega)
theorem ints_self {l : List Int} (hl : l.length < 1000000000) : Ev (fun k => hinterlandsame_List_int.f k l l) true := by
 unfold hinterlandsame_List_int.f
 simp only [if_true]
 exact list_self hl l.length 0 (by omega) (by omega)
theorem plant_self (a b c : Int) {A B C D : List Int} (e f : Int) (g : Bool) (hA : A.length < 1000000000) (hB : B.length < 1000000000) (hC : C.length < 1000000000) (hD : D.length < 1000000000) : Ev (fun k => hinterlandsame_Plant.f k a b c A B C D e f g a b c A B C D e f g) true := by
 unfold hinterlandsame_Plant.f
 simp only [if_true, beq_self_eq_true]
 refine Ev.bind (ints_self hA) ?_
 simp only [if_true]
 refine Ev.bind (ints_self hB) ?_
 simp only [if_true]
 refine Ev.bind (ints_self hC) ?_
 simp only [if_true]
 refine Ev.bind (ints_self hD) ?_
 exact Ev.now _
theorem rd_set (l : List Int) (v : Int) (i j : Nat) : rd (l.set i v) (j : Int) = if j = i ∧ i < l.length then v else rd l (j : Int) := by
 unfold rd
 simp only [Int.toNat_natCast, List.getD_eq_getElem?_getD, List.getElem?_set]
 by_cases h : i = j
 ·subst h
  by_cases h2 : i < l.length
  ·simp [h2]
  ·simp [h2]
 ·rw [if_neg h, if_neg (by omega)]
theorem all_rd {l : List Int} {p : Int → Bool} (h : l.all p = true) {i : Nat} (hi : i < l.length) : p (rd l (i : Int)) = true := by
 rw [List.all_eq_true] at h
 apply h
 unfold rd
 rw [List.getD_eq_getElem?_getD, List.getElem?_eq_getElem (by simpa using hi)]; simp
structure Pl (n : Nat) (tile level : Int) (S R Md Mv : List Int) (got idle : Int) : Prop where
 tile : 0 ≤ tile ∧ tile ≤ 1000000
 level : 1 ≤ level ∧ level ≤ 64
 s : S.length = n
 r : R.length = n
 m : Md.length = n
 v : Mv.length = n
 sa : S.all (inB 0 1000000) = true
 ra : R.all (inB 0 7) = true
 ma : Md.all (inB 0 1000000) = true
 va : Mv.all (inB 0 1000000) = true
 got : 0 ≤ got ∧ got ≤ 1000000
 idle : 0 ≤ idle ∧ idle ≤ 1000000
theorem plB_iff {n : Nat} {tile level : Int} {S R Md Mv : List Int} {got idle : Int} : plB n tile level S R Md Mv got idle = true ↔ Pl n tile level S R Md Mv got idle := by
 unfold plB
 simp only [Bool.and_eq_true, inB_true, decide_eq_true_eq]
 constructor
 ·rintro ⟨⟨⟨⟨a, b⟩, ⟨⟨c, d⟩, e⟩, f⟩, ⟨⟨g, h⟩, i⟩, j⟩, k, l⟩; exact ⟨a, b, c, d, e, f, g, h, i, j, k, l⟩
 ·rintro ⟨a, b, c, d, e, f, g, h, i, j, k, l⟩; exact ⟨⟨⟨⟨a, b⟩, ⟨⟨c, d⟩, e⟩, f⟩, ⟨⟨g, h⟩, i⟩, j⟩, k, l⟩
section
variable {K : List S39} {kind tile level : Int} {S R Md Mv : List Int} {got idle : Int} {op : Bool} {v : Int}
structure Good (K : List S39) (kind : Int) : Prop where
 good : GoodK K
 k0 : 0 ≤ kind
 k1 : kind < (K.length : Int)
theorem Good.kb (g : Good K kind) : kB (rd_T39 K kind) = true := g.good.ok _ g.k0 g.k1
theorem kb_parts {m : S39} (h : kB m = true) : m.f1.length ≤ 4 ∧ m.f2.length ≤ 4 ∧ ∀ i : Nat, i < m.f2.length → mOK m.f2 i = true := by
 unfold kB at h
 simp only [Bool.and_eq_true, decide_eq_true_eq] at h
 obtain ⟨_, a, b, _, d⟩ := h
 refine ⟨a, b, fun i hi => ?_⟩
 exact List.all_eq_true.1 d i (by simp [List.mem_range']; omega)
theorem mk_amount {M : List S41} {i : Nat} (h : mOK M i = true) : 1 ≤ (rd_T41 M (i : Int)).f1 ∧ (rd_T41 M (i : Int)).f1 ≤ 1000 := by
 unfold mOK at h
 simp only [Bool.and_eq_true, inB_true] at h
 exact h.2.1
theorem vr_zero (hg : v = 0 → GoodK K) (h : vr v K kind tile level S R Md Mv got idle = 0) : v = 0 ∧ Good K kind ∧ Pl (rd_T39 K kind).f2.length tile level S R Md Mv got idle := by
 unfold vr at h
 by_cases hv : v = 0
 ·rw [if_neg (by simpa using hv)] at h
  by_cases hk : 0 ≤ kind ∧ kind < (K.length : Int)
  ·rw [if_pos hk] at h
   by_cases hb : plB (rd_T39 K kind).f2.length tile level S R Md Mv got idle = true
   ·exact ⟨hv, ⟨hg hv, hk.1, hk.2⟩, plB_iff.1 hb⟩
   ·rw [if_neg hb] at h; omega
  ·rw [if_neg hk] at h; omega
 ·rw [if_pos hv] at h; exact absurd h hv
theorem Pl.vr (p : Pl (rd_T39 K kind).f2.length tile level S R Md Mv got idle) (hv : v = 0) (g : Good K kind) : vr v K kind tile level S R Md Mv got idle = 0 := by
 unfold Val.vr
 rw [if_neg (by simpa using hv), if_pos ⟨g.k0, g.k1⟩, if_pos (plB_iff.2 p)]
theorem clone_ok (hS : S.length ≤ 300) (hR : R.length ≤ 300) (hM : Md.length ≤ 300) (hV : Mv.length ≤ 300) : plant_clone.f kind tile level S R Md Mv got idle op = some (kind, tile, level, S, R, Md, Mv, got, idle, op) := by
 unfold plant_clone.f plant_fresh.f
 rw [if_pos (by omega), if_pos (by omega), if_pos (by omega), if_pos (by omega)]; rfl
/-- The first error of a plant, a cargo and an amount. -/
def ar (e cargo cnt : Int) : Int := if e = 0 then (if (inB 0 1000000 cnt && inB 0 15 cargo) = true then 0 else 1) else e
theorem argued_ok (hS : S.length ≤ 300) (hR : R.length ≤ 300) (hM : Md.length ≤ 300) (hV : Mv.length ≤ 300) (hv : Ev (fun k => plant_ValidateKinds.f k K) v) (cargo cnt : Int) : Ev (fun k => plant_argued.f k K kind tile level S R Md Mv got idle op cargo cnt) (ar (vr v K kind tile level S R Md Mv got idle) cargo cnt) := by
 unfold plant_argued.f ar
 refine Ev.bind (valid_ok hS hR hM hV hv) ?_
 by_cases h : vr v K kind tile level S R Md Mv got idle = 0
 ·simp only [h, if_true]
  have one : Ev (fun k => plant_argued.j0 k true) (1 : Int) := by
   refine Ev.step (fun _ => rfl) ?_
   simp only [plant_argued.j0, if_true]; exact Ev.now _
  by_cases a : cnt < 0
  ·simp only [a, if_true, show inB 0 1000000 cnt = false by unfold inB; simp; omega, Bool.false_and, Bool.false_eq_true, if_false]; exact one
  by_cases b : cnt > 1000000
  ·simp only [a, b, if_true, if_false, show inB 0 1000000 cnt = false by unfold inB; simp; omega, Bool.false_and, Bool.false_eq_true]; exact one
  have e1 : inB 0 1000000 cnt = true := inB_true.2 (by omega)
  by_cases c : cargo < 0
  ·simp only [a, b, c, if_true, if_false, e1, show inB 0 15 cargo = false by unfold inB; simp; omega, Bool.and_false, Bool.false_eq_true]; exact one
  ·by_cases d : cargo ≥ 16
   ·simp only [a, b, c, d, if_false, decide_true, e1, show inB 0 15 cargo = false by unfold inB; simp; omega, Bool.and_false, Bool.false_eq_true]; exact one
   ·simp only [a, b, c, d, if_false, decide_false, e1, show inB 0 15 cargo = true from inB_true.2 (by omega), Bool.and_true, if_true]
    refine Ev.step (fun _ => rfl) ?_
    simp only [plant_argued.j0, Bool.false_eq_true, if_false]; exact Ev.now _
 ·simp only [h, if_false]; exact Ev.now _
theorem ar_zero {e cargo cnt : Int} (h : ar e cargo cnt = 0) : e = 0 ∧ (0 ≤ cnt ∧ cnt ≤ 1000000) ∧ 0 ≤ cargo ∧ cargo ≤ 15 := by
 unfold ar at h
 by_cases he : e = 0
 ·rw [if_pos he] at h
  by_cases hb : (inB 0 1000000 cnt && inB 0 15 cargo) = true
  ·simp only [Bool.and_eq_true, inB_true] at hb; exact ⟨he, hb.1, hb.2⟩
  ·rw [if_neg hb] at h; omega
 ·rw [if_neg he] at h; exact absurd h he
end
end Go.Proofs.Ytnkgelnkoljgdaa.Pla
namespace Go.Proofs.Ytnkgelnkoljgdaa.Known
open Go.RowKit Go.Proofs.YtnkgelnkoljgdaaOwn Go.Proofs.Ytnkgelnkoljgdaa.Q Go.Proofs.YtnkgelnkoljgdaaW.PrintWords Go.Proofs.YtnkgelnkoljgdaaW.PrintLast Go.Proofs.YtnkgelnkoljgdaaW.PrintMore
set_option linter.unusedVariables false
set_option linter.unusedSimpArgs false
theorem known_ev : Ev (fun k => hinterlandlaw10_known.f k) true := Ev.of hinterlandlaw10_known.mono (k := 200) (by decide +kernel)
end Go.Proofs.Ytnkgelnkoljgdaa.Known
namespace Go.Proofs.Ytnkgelnkoljgdaa.Pure
open Go.RowKit Go.Proofs.YtnkgelnkoljgdaaOwn Go.Proofs.Ytnkgelnkoljgdaa.Q Go.Proofs.Ytnkgelnkoljgdaa.Mod Go.Proofs.Ytnkgelnkoljgdaa.Kin Go.Proofs.Ytnkgelnkoljgdaa.Vk Go.Proofs.Ytnkgelnkoljgdaa.Val Go.Proofs.Ytnkgelnkoljgdaa.Pla Go.Proofs.Ytnkgelnkoljgdaa.Known Go.Proofs.YtnkgelnkoljgdaaW.PrintWords Go.Proofs.YtnkgelnkoljgdaaW.PrintLast Go.Proofs.YtnkgelnkoljgdaaW.PrintMore
set_option linter.unusedVariables false
set_option linter.unusedSimpArgs false
section
variable {K : List S39} {kind tile level : Int} {S R Md Mv : List Int} {got idle : Int} {op : Bool}
/-- The eighths of a cargo that a works holds when it is given n units. -/
def eig (r n a : Int) : Int := wrap64 (r + wrap64 (n * a))
theorem eig_in {r n a : Int} (ha : 1 ≤ a ∧ a ≤ 1000) (hn : 0 ≤ n ∧ n ≤ 1000000) (hr : 0 ≤ r ∧ r ≤ 7) : eig r n a = r + n * a ∧ 0 ≤ eig r n a ∧ eig r n a ≤ 1000000007 := by
 have p0 : 0 ≤ n * a := Int.mul_nonneg (by omega) (by omega)
 have p1 : n * a ≤ 1000000 * 1000 := Int.mul_le_mul hn.2 ha.2 (by omega) (by omega)
 unfold eig
 generalize n * a = z at *
 rw [w64_in (x := z) (by omega) (by omega), w64_in (x := r + z) (by omega) (by omega)]; omega
theorem eig_div {e : Int} (h : 0 ≤ e ∧ e ≤ 1000000007) : wrap64 (Int.tdiv e 8) = e / 8 ∧ Int.tmod e 8 = e % 8 := by
 refine ⟨?_, Int.tmod_eq_emod_of_nonneg h.1⟩
 rw [Int.tdiv_eq_ediv_of_nonneg h.1, w64_in (by omega) (by omega)]
theorem drop_rd {T : List Int} {i : Nat} (h : i < T.length) : T.drop i = rd T (i : Int) :: T.drop (i + 1) := by
 unfold rd
 rw [List.drop_eq_getElem_cons h, List.getD_eq_getElem?_getD, List.getElem?_eq_getElem (by simp; omega)]; simp
abbrev BT := Int × Int × Int × List Int × List Int × List Int × List Int × Int × Int × Bool × Int × Int
theorem takes_loop (c n : Int) {T : List Int} (hT : T.length ≤ 4) {S1 R1 M1 V1 : List Int} {A : ByteArray} {U : List Int} {V : List S41} {r : BT} : ∀ (d i : Nat) (b : Bool), i + d = T.length → Ev (fun k => plant_Bring.j1 k n (if op = true then !(b || (T.drop i).any (fun x => decide (x = c))) else true) kind tile level S1 R1 M1 V1 got idle op A U V) r → Ev (fun k => plant_Bring.l0 k c n b T (T.length : Int) (i : Int) kind tile level S R Md Mv got idle op kind tile level S1 R1 M1 V1 got idle op A U V) r := by
 intro d; induction d with
 | zero =>
  intro i b hi h
  refine Ev.step (fun _ => rfl) ?_
  rw [List.drop_of_length_le (show T.length ≤ i by omega), List.any_nil, Bool.or_false] at h
  simp only [plant_Bring.l0, show ¬ (i : Int) < (T.length : Int) by omega, if_false]
  cases op with
  | true => simp only [if_true] at h ⊢; exact h
  | false => simp only [Bool.false_eq_true, if_false] at h ⊢; exact h
 | succ d ih =>
  intro i b hi h
  have hi0 : (i : Int) < (T.length : Int) := by omega
  have i0 : (0 : Int) ≤ (i : Int) := by omega
  have wi : wrap64 ((i : Int) + 1) = ((i + 1 : Nat) : Int) := by rw [w64_in (by omega) (by omega)]; omega
  rw [drop_rd (show i < T.length by omega), List.any_cons, ← Bool.or_assoc] at h
  have hb : (rd T (i : Int) == c) = decide (rd T (i : Int) = c) := by
   by_cases h1 : rd T (i : Int) = c <;> simp [h1]
  have nx := ih (i + 1) (b || decide (rd T (i : Int) = c)) (by omega) h
  refine Ev.step (fun _ => rfl) ?_
  cases b with
  | true => simp only [plant_Bring.l0, hi0, i0, if_true, wi, Bool.true_or] at nx ⊢; exact nx
  | false => simp only [plant_Bring.l0, hi0, i0, if_true, wi, Bool.false_or, Bool.false_eq_true, if_false, hb] at nx ⊢; exact nx
def badb (e : Int) : BT := (0, 0, 0, [], [], [], [], 0, 0, false, 0, e)
end
end Go.Proofs.Ytnkgelnkoljgdaa.Pure
namespace Go.Proofs.Ytnkgelnkoljgdaa.Pure
open Go.RowKit Go.Proofs.YtnkgelnkoljgdaaOwn Go.Proofs.Ytnkgelnkoljgdaa.Q Go.Proofs.Ytnkgelnkoljgdaa.Mod Go.Proofs.Ytnkgelnkoljgdaa.Kin Go.Proofs.Ytnkgelnkoljgdaa.Vk Go.Proofs.Ytnkgelnkoljgdaa.Val Go.Proofs.Ytnkgelnkoljgdaa.Pla Go.Proofs.Ytnkgelnkoljgdaa.Known Go.Proofs.YtnkgelnkoljgdaaW.PrintWords Go.Proofs.YtnkgelnkoljgdaaW.PrintLast Go.Proofs.YtnkgelnkoljgdaaW.PrintMore
set_option linter.unusedVariables false
set_option linter.unusedSimpArgs false
section
variable {K : List S39} {kind tile level : Int} {S R Md Mv : List Int} {got idle : Int} {op : Bool}
theorem val_eq {r n a s : Int} (ha : 1 ≤ a ∧ a ≤ 1000) (hn : 0 ≤ n ∧ n ≤ 1000000) (hr : 0 ≤ r ∧ r ≤ 7) (hs : 0 ≤ s ∧ s ≤ 1000000) : mn (wrap64 (s + wrap64 (Int.tdiv (eig r n a) 8))) 1000000 = mn (s + (r + n * a) / 8) 1000000 ∧ Int.tmod (eig r n a) 8 = (r + n * a) % 8 := by
 obtain ⟨e1, e2⟩ := eig_in ha hn hr
 have d := eig_div e2
 rw [e1] at e2 d
 rw [e1, d.1, d.2]
 generalize n * a = z at *
 rw [w64_in (x := s + (r + z) / 8) (by omega) (by omega)]
 exact ⟨rfl, rfl⟩
/-- What the lists are when n units were brought. -/
def Fact (M : List S41) (n : Int) (S R Md S2 R2 M2 : List Int) (d : Nat) : Prop := ∀ j : Nat, j < d → rd S2 (j : Int) = mn (rd S (j : Int) + (rd R (j : Int) + n * (rd_T41 M (j : Int)).f1) / 8) 1000000 ∧ rd R2 (j : Int) = (rd R (j : Int) + n * (rd_T41 M (j : Int)).f1) % 8 ∧ rd M2 (j : Int) = mn (rd Md (j : Int) + (rd R (j : Int) + n * (rd_T41 M (j : Int)).f1) / 8) 1000000
theorem bring2_loop {M : List S41} (h4 : M.length ≤ 4) (hM : ∀ i : Nat, i < M.length → mOK M i = true) {n : Int} (hn : 0 ≤ n ∧ n ≤ 1000000) (bS : ∀ j : Nat, j < M.length → 0 ≤ rd S (j : Int) ∧ rd S (j : Int) ≤ 1000000) (bR : ∀ j : Nat, j < M.length → 0 ≤ rd R (j : Int) ∧ rd R (j : Int) ≤ 7) (bM : ∀ j : Nat, j < M.length → 0 ≤ rd Md (j : Int) ∧ rd Md (j : Int) ≤ 1000000) : ∀ (d i : Nat) (S1 R1 M1 : List Int), i + d = M.length → S1.length = M.length → R1.length = M.length → M1.length = M.length → Fact M n S R Md S1 R1 M1 i → (∀ j : Nat, i ≤ j → j < M.length → rd S1 (j : Int) = rd S (j : Int) ∧ rd R1 (j : Int) = rd R (j : Int) ∧ rd M1 (j : Int) = rd Md (j : Int)) → ∃ S2 R2 M2, (S2.length = M.length ∧ R2.length = M.length ∧ M2.length = M.length) ∧ Fact M n S R Md S2 R2 M2 M.length ∧ Ev (fun k => plant_Bring.l1 k n M (M.length : Int) (i : Int) kind tile level S1 R1 M1 Mv got idle op) (kind, tile, level, S2, R2, M2, Mv, mn (wrap64 (got + n)) 1000000, idle, op, n, (0 : Int)) := by
 intro d; induction d with
 | zero =>
  intro i S1 R1 M1 hi lS1 lR1 lM1 fc same
  have hn' : ¬ (i : Int) < (M.length : Int) := by omega
  obtain rfl : i = M.length := by omega
  refine ⟨S1, R1, M1, ⟨lS1, lR1, lM1⟩, fc, Ev.step (fun _ => rfl) ?_⟩
  simp only [plant_Bring.l1, hn', if_false]; exact Ev.now _
 | succ d ih =>
  intro i S1 R1 M1 hi lS1 lR1 lM1 fc same
  have hj : i < M.length := by omega
  have hi0 : (i : Int) < (M.length : Int) := by omega
  have i0 : (0 : Int) ≤ (i : Int) := by omega
  have i1 : (i : Int) < (S1.length : Int) := by omega
  have i2 : (i : Int) < (M1.length : Int) := by omega
  have i4 : (i : Int) < (R1.length : Int) := by omega
  have j1 : i < S1.length := by omega
  have j2 : i < R1.length := by omega
  have j3 : i < M1.length := by omega
  have hd : i + 1 + d = M.length := by omega
  have wi : wrap64 ((i : Int) + 1) = ((i + 1 : Nat) : Int) := by rw [w64_in (by omega) (by omega)]; omega
  have k1 : ∀ x, (S1.set i x).length = M.length := fun x => by rw [List.length_set]; exact lS1
  have k2 : ∀ x, (R1.set i x).length = M.length := fun x => by rw [List.length_set]; exact lR1
  have k3 : ∀ x, (M1.set i x).length = M.length := fun x => by rw [List.length_set]; exact lM1
  have nx : ∀ x y z : Int, ∀ j : Nat, i + 1 ≤ j → j < M.length → rd (S1.set i x) (j : Int) = rd S (j : Int) ∧ rd (R1.set i y) (j : Int) = rd R (j : Int) ∧ rd (M1.set i z) (j : Int) = rd Md (j : Int) := fun x y z j a b => by
   have hji : ¬ (j = i ∧ i < S1.length) := by omega
   have hji2 : ¬ (j = i ∧ i < R1.length) := by omega
   have hji3 : ¬ (j = i ∧ i < M1.length) := by omega
   rw [rd_set, rd_set, rd_set, if_neg hji, if_neg hji2, if_neg hji3]; exact same j (Nat.le_of_succ_le a) b
  obtain ⟨ea, eb, ec⟩ := same i (Nat.le_refl i) hj
  have ba := mk_amount (hM i hj)
  obtain ⟨v1, v2⟩ := val_eq ba hn (bR i hj) (bS i hj)
  obtain ⟨v3, _⟩ := val_eq ba hn (bR i hj) (bM i hj)
  have fc2 : Fact M n S R Md (S1.set i (mn (wrap64 (rd S (i : Int) + wrap64 (Int.tdiv (eig (rd R (i : Int)) n (rd_T41 M (i : Int)).f1) 8))) 1000000)) (R1.set i (Int.tmod (eig (rd R (i : Int)) n (rd_T41 M (i : Int)).f1) 8)) (M1.set i (mn (wrap64 (rd Md (i : Int) + wrap64 (Int.tdiv (eig (rd R (i : Int)) n (rd_T41 M (i : Int)).f1) 8))) 1000000)) (i + 1) := by
   intro j hji
   by_cases e : j = i
   ·subst e
    rw [rd_set, rd_set, rd_set, if_pos ⟨rfl, j1⟩, if_pos ⟨rfl, j2⟩, if_pos ⟨rfl, j3⟩]
    exact ⟨v1, v2, v3⟩
   ·rw [rd_set, rd_set, rd_set, if_neg (fun h => e h.1), if_neg (fun h => e h.1), if_neg (fun h => e h.1)]
    exact fc j (Nat.lt_of_le_of_ne (Nat.le_of_lt_succ hji) e)
  obtain ⟨S2, R2, M2, p, q, e1⟩ := ih (i + 1) _ _ _ hd (k1 _) (k2 _) (k3 _) fc2 (nx _ _ _)
  refine ⟨S2, R2, M2, p, q, Ev.step (fun _ => rfl) ?_⟩
  simp only [plant_Bring.l1, hi0, i0, i1, i2, i4, if_true, wi, Int.toNat_natCast, ea, eb, ec]; exact e1
theorem all_of_rd {l : List Int} {p : Int → Bool} (h : ∀ j : Nat, j < l.length → p (rd l (j : Int)) = true) : l.all p = true := by
 rw [List.all_eq_true]
 intro x hx
 obtain ⟨j, hj, rfl⟩ := List.getElem_of_mem hx
 have := h j hj
 unfold rd at this
 rw [List.getD_eq_getElem?_getD, List.getElem?_eq_getElem (by simpa using hj)] at this
 simpa using this
theorem rd_ext {l m : List Int} (h : l.length = m.length) (e : ∀ j : Nat, j < l.length → rd l (j : Int) = rd m (j : Int)) : l = m := by
 apply List.ext_getElem h
 intro j h1 h2
 have := e j h1
 unfold rd at this
 rw [List.getD_eq_getElem?_getD, List.getD_eq_getElem?_getD, List.getElem?_eq_getElem (by simpa using h1), List.getElem?_eq_getElem (by simpa using h2)] at this
 simpa using this
theorem got_in {g n : Int} (hg : 0 ≤ g ∧ g ≤ 1000000) (hn : 0 ≤ n ∧ n ≤ 1000000) : mn (wrap64 (g + n)) 1000000 = mn (g + n) 1000000 ∧ 0 ≤ mn (g + n) 1000000 ∧ mn (g + n) 1000000 ≤ 1000000 := by
 rw [w64_in (by omega) (by omega)]
 refine ⟨rfl, ?_⟩
 unfold mn; split <;> omega
theorem prod_in {n a : Int} (ha : 1 ≤ a ∧ a ≤ 1000) (hn : 0 ≤ n ∧ n ≤ 1000000) : 0 ≤ n * a ∧ n * a ≤ 1000000000 :=
 ⟨Int.mul_nonneg hn.1 (by omega), Int.le_trans (Int.mul_le_mul hn.2 ha.2 (by omega) (by omega)) (by omega)⟩
/-- A works that takes the cargo. -/
theorem bring_takes (hv : Ev (fun k => plant_ValidateKinds.f k K) 0) (g : Pla.Good K kind) (p : Pl (rd_T39 K kind).f2.length tile level S R Md Mv got idle) {c n : Int} (hn : 0 ≤ n ∧ n ≤ 1000000) (hc : 0 ≤ c ∧ c ≤ 15) (ho : op = true) (ht : (rd_T39 K kind).f1.any (fun x => decide (x = c)) = true) : ∃ S2 R2 M2, Pl (rd_T39 K kind).f2.length tile level S2 R2 M2 Mv (mn (got + n) 1000000) idle ∧ Fact (rd_T39 K kind).f2 n S R Md S2 R2 M2 (rd_T39 K kind).f2.length ∧ Ev (fun k => plant_Bring.f k K kind tile level S R Md Mv got idle op c n) (kind, tile, level, S2, R2, M2, Mv, mn (got + n) 1000000, idle, op, n, (0 : Int)) := by
 obtain ⟨n3, n4, hok⟩ := kb_parts g.kb
 have ps := p.s; have pr := p.r; have pm := p.m; have pv := p.v
 have g0 := g.k0
 have g1 := g.k1
 have bS : ∀ j : Nat, j < (rd_T39 K kind).f2.length → 0 ≤ rd S (j : Int) ∧ rd S (j : Int) ≤ 1000000 := fun j h => inB_true.1 (all_rd p.sa (by omega))
 have bR : ∀ j : Nat, j < (rd_T39 K kind).f2.length → 0 ≤ rd R (j : Int) ∧ rd R (j : Int) ≤ 7 := fun j h => inB_true.1 (all_rd p.ra (by omega))
 have bM : ∀ j : Nat, j < (rd_T39 K kind).f2.length → 0 ≤ rd Md (j : Int) ∧ rd Md (j : Int) ≤ 1000000 := fun j h => inB_true.1 (all_rd p.ma (by omega))
 obtain ⟨S2, R2, M2, ⟨q1, q2, q3⟩, fc, e1⟩ := bring2_loop (kind := kind) (tile := tile) (level := level) (Mv := Mv) (got := got) (idle := idle) (op := op) n4 hok hn bS bR bM (rd_T39 K kind).f2.length 0 S R Md (by omega) ps pr pm (fun j h => by omega) (fun _ _ _ => ⟨rfl, rfl, rfl⟩)
 have gi := got_in p.got hn
 rw [gi.1] at e1
 have ext : ∀ x r a : Int, 0 ≤ x ∧ x ≤ 1000000 → 0 ≤ r ∧ r ≤ 7 → 1 ≤ a ∧ a ≤ 1000 → 0 ≤ mn (x + (r + n * a) / 8) 1000000 ∧ mn (x + (r + n * a) / 8) 1000000 ≤ 1000000 := fun x r a hx hr ha => by
  have := prod_in ha hn
  generalize n * a = z at *
  unfold mn; split <;> omega
 refine ⟨S2, R2, M2, ⟨p.tile, p.level, q1, q2, q3, pv, ?_, ?_, ?_, p.va, gi.2, p.idle⟩, fc, ?_⟩
 ·refine all_of_rd (fun j h => inB_true.2 ?_)
  have hj : j < (rd_T39 K kind).f2.length := by omega
  rw [(fc j hj).1]; exact ext _ _ _ (bS j hj) (bR j hj) (mk_amount (hok j hj))
 ·refine all_of_rd (fun j h => inB_true.2 ?_)
  have hj : j < (rd_T39 K kind).f2.length := by omega
  rw [(fc j hj).2.1]
  have := Int.emod_nonneg (rd R (j : Int) + n * (rd_T41 (rd_T39 K kind).f2 (j : Int)).f1) (show (8 : Int) ≠ 0 by omega)
  have := Int.emod_lt_of_pos (rd R (j : Int) + n * (rd_T41 (rd_T39 K kind).f2 (j : Int)).f1) (show (0 : Int) < 8 by omega)
  omega
 ·refine all_of_rd (fun j h => inB_true.2 ?_)
  have hj : j < (rd_T39 K kind).f2.length := by omega
  rw [(fc j hj).2.2]; exact ext _ _ _ (bM j hj) (bR j hj) (mk_amount (hok j hj))
 ·have z : ar 0 c n = 0 := by unfold ar; rw [if_pos rfl, if_pos (by simp only [Bool.and_eq_true, inB_true]; omega)]
  have tk := takes_loop (kind := kind) (tile := tile) (level := level) (S := S) (R := R) (Md := Md) (Mv := Mv) (got := got) (idle := idle) (op := op) c n n3 (S1 := S) (R1 := R) (M1 := Md) (V1 := Mv) (A := (rd_T39 K kind).f0) (U := (rd_T39 K kind).f1) (V := (rd_T39 K kind).f2) (rd_T39 K kind).f1.length 0 false (by omega) (r := (kind, tile, level, S2, R2, M2, Mv, mn (got + n) 1000000, idle, op, n, (0 : Int)))
  simp only [List.drop_zero, Bool.false_or, ht, ho, if_true] at tk
  unfold plant_Bring.f
  refine Ev.bind (argued_ok (by omega) (by omega) (by omega) (by omega) hv c n) ?_
  rw [p.vr rfl g]
  simp only [z, if_true, clone_ok (show S.length ≤ 300 by omega) (show R.length ≤ 300 by omega) (show Md.length ≤ 300 by omega) (show Mv.length ≤ 300 by omega), Option.bind_some, g0, g1, ho]
  refine tk ?_
  simp only [Bool.not_true]
  refine Ev.step (fun _ => rfl) ?_
  rw [ho] at e1
  simp only [plant_Bring.j1, Bool.false_eq_true, if_false]; exact e1
/-- A plant that doesn't. -/
theorem bring_quiet (hv : Ev (fun k => plant_ValidateKinds.f k K) 0) (g : Pla.Good K kind) (p : Pl (rd_T39 K kind).f2.length tile level S R Md Mv got idle) {c n : Int} (hn : 0 ≤ n ∧ n ≤ 1000000) (hc : 0 ≤ c ∧ c ≤ 15) (h : (if op = true then !((rd_T39 K kind).f1.any (fun x => decide (x = c))) else true) = true) : Ev (fun k => plant_Bring.f k K kind tile level S R Md Mv got idle op c n) (kind, tile, level, S, R, Md, Mv, got, idle, op, (0 : Int), (0 : Int)) := by
 obtain ⟨n3, n4, hok⟩ := kb_parts g.kb
 have ps := p.s; have pr := p.r; have pm := p.m; have pv := p.v
 have g0 := g.k0
 have g1 := g.k1
 have z : ar 0 c n = 0 := by unfold ar; rw [if_pos rfl, if_pos (by simp only [Bool.and_eq_true, inB_true]; omega)]
 have tk := takes_loop (kind := kind) (tile := tile) (level := level) (S := S) (R := R) (Md := Md) (Mv := Mv) (got := got) (idle := idle) (op := op) c n n3 (S1 := S) (R1 := R) (M1 := Md) (V1 := Mv) (A := (rd_T39 K kind).f0) (U := (rd_T39 K kind).f1) (V := (rd_T39 K kind).f2) (rd_T39 K kind).f1.length 0 false (by omega) (r := (kind, tile, level, S, R, Md, Mv, got, idle, op, (0 : Int), (0 : Int)))
 simp only [List.drop_zero, Bool.false_or, h] at tk
 unfold plant_Bring.f
 refine Ev.bind (argued_ok (by omega) (by omega) (by omega) (by omega) hv c n) ?_
 rw [p.vr rfl g]
 simp only [z, if_true, clone_ok (show S.length ≤ 300 by omega) (show R.length ≤ 300 by omega) (show Md.length ≤ 300 by omega) (show Mv.length ≤ 300 by omega), Option.bind_some, g0, g1]
 refine tk ?_
 refine Ev.step (fun _ => rfl) ?_
 simp only [plant_Bring.j1, if_true]; exact Ev.now _
theorem check_loop {M : List S41} (h4 : M.length ≤ 4) (hM : ∀ i : Nat, i < M.length → mOK M i = true) {n : Int} (hn : 0 ≤ n ∧ n ≤ 1000000) {S2 R2 M2 : List Int} (bS : ∀ j : Nat, j < M.length → 0 ≤ rd S (j : Int) ∧ rd S (j : Int) ≤ 1000000) (bR : ∀ j : Nat, j < M.length → 0 ≤ rd R (j : Int) ∧ rd R (j : Int) ≤ 7) (fc : Fact M n S R Md S2 R2 M2 M.length) (l1 : S.length = M.length) (l2 : R.length = M.length) (l3 : S2.length = M.length) (l4 : R2.length = M.length) (g2 : Int) : ∀ (d i : Nat), i + d = M.length → Ev (fun k => hinterlandlaw10_PlantBringsParts.l0 k n M (M.length : Int) (i : Int) kind tile level S R Md Mv got idle op kind tile level S2 R2 M2 Mv g2 idle op) true := by
 intro d; induction d with
 | zero =>
  intro i hi
  refine Ev.step (fun _ => rfl) ?_
  simp only [hinterlandlaw10_PlantBringsParts.l0, show ¬ (i : Int) < (M.length : Int) by omega, if_false]
  exact Ev.bind known_ev (Ev.now _)
 | succ d ih =>
  intro i hi
  have hj : i < M.length := by omega
  have hi0 : (i : Int) < (M.length : Int) := by omega
  have i0 : (0 : Int) ≤ (i : Int) := by omega
  have i1 : (i : Int) < (S.length : Int) := by omega
  have i2 : (i : Int) < (R.length : Int) := by omega
  have i3 : (i : Int) < (S2.length : Int) := by omega
  have i4 : (i : Int) < (R2.length : Int) := by omega
  have wi : wrap64 ((i : Int) + 1) = ((i + 1 : Nat) : Int) := by rw [w64_in (by omega) (by omega)]; omega
  have go : Ev (fun k => hinterlandlaw10_PlantBringsParts.j4 k n M (M.length : Int) (i : Int) false kind tile level S R Md Mv got idle op kind tile level S2 R2 M2 Mv g2 idle op) true := by
   refine Ev.step (fun _ => rfl) ?_
   simp only [hinterlandlaw10_PlantBringsParts.j4, Bool.false_eq_true, if_false, wi]
   exact ih (i + 1) (by omega)
  refine Ev.step (fun _ => rfl) ?_
  by_cases hm : rd S2 (i : Int) < 1000000
  ·have ne : (wrap64 (wrap64 (wrap64 (8 * wrap64 (rd S2 (i : Int) - rd S (i : Int))) + rd R2 (i : Int)) - rd R (i : Int)) != wrap64 (n * (rd_T41 M (i : Int)).f1)) = false := by
    obtain ⟨f1, f2, _⟩ := fc i hj
    have s1 := bS i hj
    have r1 := bR i hj
    have pz := prod_in (mk_amount (hM i hj)) hn
    rw [f1] at hm
    rw [f1, f2]
    generalize n * (rd_T41 M (i : Int)).f1 = z at *
    generalize rd S (i : Int) = s at *
    generalize rd R (i : Int) = r at *
    have e : mn (s + (r + z) / 8) 1000000 = s + (r + z) / 8 := by unfold mn at *; split <;> omega
    rw [e, w64_in (x := s + (r + z) / 8 - s) (by omega) (by omega), w64_in (x := 8 * (s + (r + z) / 8 - s)) (by omega) (by omega), w64_in (x := 8 * (s + (r + z) / 8 - s) + (r + z) % 8) (by omega) (by omega), w64_in (x := 8 * (s + (r + z) / 8 - s) + (r + z) % 8 - r) (by omega) (by omega), w64_in (x := z) (by omega) (by omega)]
    rw [show 8 * (s + (r + z) / 8 - s) + (r + z) % 8 - r = z by omega]
    simp
   simp only [hinterlandlaw10_PlantBringsParts.l0, hi0, i0, i1, i2, i3, i4, hm, if_true, ne]
   exact go
  ·simp only [hinterlandlaw10_PlantBringsParts.l0, hi0, i0, i3, hm, if_true, if_false]
   exact go
theorem twice {x r y z : Int} (hx : 0 ≤ x ∧ x ≤ 1000000) (hr : 0 ≤ r ∧ r ≤ 7) (hy : 0 ≤ y) (hz : 0 ≤ z) : mn (mn (x + (r + y) / 8) 1000000 + ((r + y) % 8 + z) / 8) 1000000 = mn (x + (r + (y + z)) / 8) 1000000 ∧ ((r + y) % 8 + z) % 8 = (r + (y + z)) % 8 := by
 refine ⟨?_, by omega⟩
 have e : (r + (y + z)) / 8 = (r + y) / 8 + ((r + y) % 8 + z) / 8 := by omega
 rw [e]
 have p1 : 0 ≤ (r + y) / 8 := by omega
 have p2 : 0 ≤ ((r + y) % 8 + z) / 8 := by omega
 generalize (r + y) / 8 = A at *
 generalize ((r + y) % 8 + z) / 8 = B at *
 unfold mn; split <;> split <;> split <;> omega
end
theorem PlantBringsParts : hinterlandlaw10_PlantBringsParts.Pure := by
 intro K kind tile level S R Md Mv got idle op c n m hK _ _ _ _ _ _ _ _ _ _ _ _ _
 refine Ev.rounds ?_
 unfold hinterlandlaw10_PlantBringsParts.f
 have out : Ev (fun k => hinterlandlaw10_PlantBringsParts.j0 k K c n m true kind tile level S R Md Mv got idle op) true := by
  refine Ev.step (fun _ => rfl) ?_
  simp only [hinterlandlaw10_PlantBringsParts.j0, if_true]
  exact Ev.bind known_ev (Ev.now _)
 obtain ⟨g, e1, e2⟩ := large_ok hK S R Md Mv kind tile level got idle op
 refine Ev.bind e1 ?_
 cases g with
 | true => simp only [if_true]; exact out
 | false =>
  simp only [Bool.false_eq_true, if_false]
  obtain ⟨s, hS, hR, hM, hV⟩ := e2 rfl
  by_cases n0 : n < 0
  ·simp only [n0, if_true]; exact out
  by_cases m0 : m < 0
  ·simp only [n0, m0, if_true, if_false]; exact out
  by_cases n1 : n > 1000000
  ·simp only [n0, m0, n1, if_true, if_false]; exact out
  have wn : wrap64 (1000000 - n) = 1000000 - n := w64_in (by omega) (by omega)
  by_cases m1 : m > 1000000 - n
  ·simp only [n0, m0, n1, wn, m1, decide_true, if_false]; exact out
  simp only [n0, m0, n1, wn, m1, decide_false, if_false]
  have hn : 0 ≤ n ∧ n ≤ 1000000 := by omega
  have hm : 0 ≤ m ∧ m ≤ 1000000 := by omega
  have hnm : 0 ≤ n + m ∧ n + m ≤ 1000000 := by omega
  have wnm : wrap64 (n + m) = n + m := w64_in (by omega) (by omega)
  refine Ev.step (fun _ => rfl) ?_
  simp only [hinterlandlaw10_PlantBringsParts.j0, Bool.false_eq_true, if_false, wnm]
  obtain ⟨v, v1, v2, v3⟩ := vk_both s
  by_cases h : ar (vr v K kind tile level S R Md Mv got idle) c n = 0
  ·obtain ⟨h0, _, hc⟩ := ar_zero h
   obtain ⟨hv, g, p⟩ := vr_zero v3 h0
   subst hv
   obtain ⟨n3, n4, hok⟩ := kb_parts g.kb
   have ps := p.s; have pr := p.r; have pm := p.m; have pv := p.v
   by_cases ho : op = true ∧ (rd_T39 K kind).f1.any (fun x => decide (x = c)) = true
   ·obtain ⟨ho, ht⟩ := ho
    obtain ⟨S1, R1, M1, p1, f1, b1⟩ := bring_takes v1 g p hn hc ho ht
    obtain ⟨S2, R2, M2, p2, f2, b2⟩ := bring_takes v1 g p1 hm hc ho ht
    obtain ⟨S3, R3, M3, p3, f3, b3⟩ := bring_takes v1 g p hnm hc ho ht
    have bS : ∀ j : Nat, j < (rd_T39 K kind).f2.length → 0 ≤ rd S (j : Int) ∧ rd S (j : Int) ≤ 1000000 := fun j h => inB_true.1 (all_rd p.sa (by omega))
    have bR : ∀ j : Nat, j < (rd_T39 K kind).f2.length → 0 ≤ rd R (j : Int) ∧ rd R (j : Int) ≤ 7 := fun j h => inB_true.1 (all_rd p.ra (by omega))
    have bM : ∀ j : Nat, j < (rd_T39 K kind).f2.length → 0 ≤ rd Md (j : Int) ∧ rd Md (j : Int) ≤ 1000000 := fun j h => inB_true.1 (all_rd p.ma (by omega))
    have l1 := p1.s; have l2 := p1.r; have l3 := p1.m
    have k1 := p2.s; have k2 := p2.r; have k3 := p2.m
    have i1 := p3.s; have i2 := p3.r; have i3 := p3.m
    have eS : S2 = S3 := rd_ext (by omega) (fun j hj => by
     have hj' : j < (rd_T39 K kind).f2.length := by omega
     have a := mk_amount (hok j hj')
     rw [(f2 j hj').1, (f3 j hj').1, (f1 j hj').1, (f1 j hj').2.1, Int.add_mul]
     exact (twice (bS j hj') (bR j hj') (prod_in a hn).1 (prod_in a hm).1).1)
    have eR : R2 = R3 := rd_ext (by omega) (fun j hj => by
     have hj' : j < (rd_T39 K kind).f2.length := by omega
     have a := mk_amount (hok j hj')
     rw [(f2 j hj').2.1, (f3 j hj').2.1, (f1 j hj').2.1, Int.add_mul]
     exact (twice (bS j hj') (bR j hj') (prod_in a hn).1 (prod_in a hm).1).2)
    have eM : M2 = M3 := rd_ext (by omega) (fun j hj => by
     have hj' : j < (rd_T39 K kind).f2.length := by omega
     have a := mk_amount (hok j hj')
     rw [(f2 j hj').2.2, (f3 j hj').2.2, (f1 j hj').2.2, (f1 j hj').2.1, Int.add_mul]
     exact (twice (bM j hj') (bR j hj') (prod_in a hn).1 (prod_in a hm).1).1)
    have eG : mn (mn (got + n) 1000000 + m) 1000000 = mn (got + (n + m)) 1000000 := by
     have := p.got
     unfold mn; split <;> split <;> split <;> omega
    subst eS; subst eR; subst eM
    rw [eG] at b2
    refine Ev.bind b1 ?_
    simp only [if_true]
    refine Ev.bind b2 (Ev.bind b3 ?_)
    simp only [if_true]
    refine Ev.bind (plant_self _ _ _ _ _ _ (by omega) (by omega) (by omega) (by omega)) ?_
    have nn : (wrap64 (n + m) != n + m) = false := by rw [wnm]; simp
    simp only [if_true, nn]
    refine Ev.step (fun _ => rfl) ?_
    simp only [hinterlandlaw10_PlantBringsParts.j1, Bool.false_eq_true, if_false]
    by_cases z : n + m = 0
    ·have sS : S2 = S := rd_ext (by omega) (fun j hj => by
      have hj' : j < (rd_T39 K kind).f2.length := by omega
      have a := bS j hj'; have b := bR j hj'
      rw [(f3 j hj').1, z, Int.zero_mul]
      unfold mn; split <;> omega)
     have sR : R2 = R := rd_ext (by omega) (fun j hj => by
      have hj' : j < (rd_T39 K kind).f2.length := by omega
      have b := bR j hj'
      rw [(f3 j hj').2.1, z, Int.zero_mul]; omega)
     have sM : M2 = Md := rd_ext (by omega) (fun j hj => by
      have hj' : j < (rd_T39 K kind).f2.length := by omega
      have a := bM j hj'; have b := bR j hj'
      rw [(f3 j hj').2.2, z, Int.zero_mul]
      unfold mn; split <;> omega)
     have sG : mn (got + (n + m)) 1000000 = got := by
      have := p.got
      rw [z]; unfold mn; split <;> omega
     rw [sS, sR, sM, sG]
     simp only [z, if_true]
     refine Ev.bind (plant_self _ _ _ _ _ _ (by omega) (by omega) (by omega) (by omega)) ?_
     simp only [if_true]
     exact Ev.bind known_ev (Ev.now _)
    ·have q1 : (S2.length : Int) = (S.length : Int) := by omega
     have q2 : ((R2.length : Int) != (R.length : Int)) = false := by rw [show (R2.length : Int) = (R.length : Int) by omega]; simp
     have g0 := g.k0
     have g1 := g.k1
     simp only [z, if_false, q1, if_true, q2]
     refine Ev.step (fun _ => rfl) ?_
     simp only [hinterlandlaw10_PlantBringsParts.j2, Bool.false_eq_true, if_false, g0, g1, if_true]
     exact check_loop n4 hok hnm bS bR f3 ps pr i1 i2 _ (rd_T39 K kind).f2.length 0 (by omega)
   ·have hq : (if op = true then !((rd_T39 K kind).f1.any (fun x => decide (x = c))) else true) = true := by
     cases op with
     | false => rfl
     | true =>
      cases ht : (rd_T39 K kind).f1.any (fun x => decide (x = c)) with
      | false => rfl
      | true => exact absurd ⟨rfl, ht⟩ ho
    refine Ev.bind (bring_quiet v1 g p hn hc hq) ?_
    simp only [if_true]
    refine Ev.bind (bring_quiet v1 g p hm hc hq) (Ev.bind (bring_quiet v1 g p hnm hc hq) ?_)
    simp only [if_true]
    refine Ev.bind (plant_self _ _ _ _ _ _ (by omega) (by omega) (by omega) (by omega)) ?_
    have nn : (wrap64 (0 + 0) != (0 : Int)) = false := by rw [w64_in (by omega) (by omega)]; rfl
    simp only [if_true, nn]
    refine Ev.step (fun _ => rfl) ?_
    simp only [hinterlandlaw10_PlantBringsParts.j1, Bool.false_eq_true, if_false, if_true]
    refine Ev.bind (plant_self _ _ _ _ _ _ (by omega) (by omega) (by omega) (by omega)) ?_
    simp only [if_true]
    exact Ev.bind known_ev (Ev.now _)
  ·have bad : Ev (fun k => plant_Bring.f k K kind tile level S R Md Mv got idle op c n) (badb (ar (vr v K kind tile level S R Md Mv got idle) c n)) := by
    unfold plant_Bring.f
    refine Ev.bind (argued_ok hS hR hM hV v1 c n) ?_
    simp only [h, if_false]; exact Ev.now _
   refine Ev.bind bad ?_
   simp only [badb, h, if_false, if_true]
   exact Ev.bind known_ev (Ev.now _)
end Go.Proofs.Ytnkgelnkoljgdaa.Pure

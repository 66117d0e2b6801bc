/- What is proved: law FleetRenews of this seat, all in one text (laid by prune.py). -/
import Derived.Test.YtgnahbjpockdmabOpen
import Derived.OpenShut
import Derived.Test.YtgnahbjpockdmabQ1
import Derived.Test.YtgnahbjpockdmabQ6
import Derived.Test.YtgnahbjpockdmabQ7
import Derived.Test.YtgnahbjpockdmabQ9
import Derived.Test.YtgnahbjpockdmabQ11
import Derived.Test.YtgnahbjpockdmabQ14
import Derived.Test.YtgnahbjpockdmabQ19
import Derived.Test.YtgnahbjpockdmabQ20
import Derived.Test.YtgnahbjpockdmabQ23
import Derived.Test.YtgnahbjpockdmabQ26
import Derived.Test.YtgnahbjpockdmabQ27
import Derived.Test.YtgnahbjpockdmabQ28
import Derived.Test.YtgnahbjpockdmabQ31
import Derived.Test.YtgnahbjpockdmabQ32
import Derived.Test.YtgnahbjpockdmabQ35
import Derived.Test.YtgnahbjpockdmabQ38
namespace Go.Proofs.YtgnahbjpockdmabOwn
open Go.RowKit Go.Proofs.YtgnahbjpockdmabW.PrintWords
theorem w64_in {x : Int} (h0 : -9223372036854775808 ≤ x) (h1 : x ≤ 9223372036854775807) : wrap64 x = x := by unfold wrap64; omega
end Go.Proofs.YtgnahbjpockdmabOwn
namespace Go.Proofs.Ytgnahbjpockdmab.Mod
open Go.RowKit Go.Proofs.YtgnahbjpockdmabOwn Go.Proofs.Ytgnahbjpockdmab.Q Go.Proofs.YtgnahbjpockdmabW.PrintWords Go.Proofs.YtgnahbjpockdmabW.PrintLast Go.Proofs.YtgnahbjpockdmabW.PrintMore
/-- A number lies between two bounds. -/
def inB (lo hi a : Int) : Bool := decide (lo ≤ a ∧ a ≤ hi)
def letB (s : ByteArray) (j : Nat) : Bool := inB 97 122 (bt s (j : Int))
/-- A text is a name. -/
def nmB (s : ByteArray) : Bool := decide (1 ≤ s.size) && decide (s.size ≤ 12) && (List.range s.size).all (letB s)
theorem inB_true {lo hi a : Int} : inB lo hi a = true ↔ lo ≤ a ∧ a ≤ hi := by unfold inB; simp
theorem loop_len (s : ByteArray) : ∀ (d i : Nat) (r : List UInt8), i + d = s.size → (ByteArray.toList.loop s i r).length = d + r.length := by
  intro d; induction d with
  | zero => intro i r h; rw [ByteArray.toList.loop, if_neg (by omega)]; simp
  | succ d ih => intro i r h; rw [ByteArray.toList.loop, if_pos (by omega), ih (i + 1) _ (by omega), List.length_cons]; omega
theorem empty_iff (s : ByteArray) : s.toList = ([] : List UInt8) ↔ s.size = 0 := by
  have h := loop_len s s.size 0 [] (by omega)
  have e : (s.toList).length = s.size := by unfold ByteArray.toList; simpa using h
  constructor
  · intro h'; rw [h'] at e; simpa using e.symm
  · intro h'; exact List.eq_nil_of_length_eq_zero (by omega)
/-- all over the places from i on -/
def allFrom (s : ByteArray) (i d : Nat) : Bool := (List.range' i d).all (letB s)
theorem allFrom_succ (s : ByteArray) (i d : Nat) : allFrom s i (d + 1) = (letB s i && allFrom s (i + 1) d) := by simp [allFrom, List.range'_succ]
theorem allFrom_all (s : ByteArray) : allFrom s 0 s.size = (List.range s.size).all (letB s) := by simp [allFrom, List.range_eq_range']
theorem named_loop {s : ByteArray} (hs : s.size ≤ 1000000) : ∀ (d : Nat) (i : Nat), i + d = s.size → Ev (fun k => fleet_named.l0 k s (s.size : Int) (i : Int)) (allFrom s i d && (decide (1 ≤ s.size) && decide (s.size ≤ 12))) := by
  intro d; induction d with
  | zero =>
    intro i hi
    refine Ev.step (fun _ => rfl) ?_
    simp only [fleet_named.l0, show ¬ (i : Int) < (s.size : Int) by omega, if_false]
    by_cases h : s.toList = ([] : List UInt8)
    · have := (empty_iff s).1 h
      simp only [h, if_true, allFrom, this]; exact Ev.now _
    · have h1 : 1 ≤ s.size := by
        by_cases h2 : s.size = 0
        · exact absurd ((empty_iff s).2 h2) h
        · omega
      have e : decide ((s.size : Int) ≤ 12) = decide (s.size ≤ 12) := by rw [decide_eq_decide]; omega
      simp only [h, if_false, allFrom, List.range'_zero, List.all_nil, Bool.true_and, h1, decide_true, e]; exact Ev.now _
  | succ d ih =>
    intro i hi
    have hb : (if bt s (i : Int) < 97 then true else decide (bt s (i : Int) > 122)) = !letB s i := by
      unfold letB inB
      by_cases h : bt s (i : Int) < 97
      · rw [if_pos h]; simp; omega
      · rw [if_neg h]; by_cases h2 : bt s (i : Int) > 122 <;> simp [h2] <;> omega
    have hi0 : (i : Int) < (s.size : Int) := by omega
    have i0 : (0 : Int) ≤ (i : Int) := by omega
    have wi : wrap64 ((i : Int) + 1) = ((i + 1 : Nat) : Int) := by rw [w64_in (by omega) (by omega)]; omega
    have tail : Ev (fun k => fleet_named.j1 k s (s.size : Int) (i : Int) (!letB s i)) (allFrom s i (d + 1) && (decide (1 ≤ s.size) && decide (s.size ≤ 12))) := by
      rw [allFrom_succ]
      refine Ev.step (fun _ => rfl) ?_
      cases hl : letB s i with
      | true =>
        simp only [fleet_named.j1, Bool.not_true, Bool.false_eq_true, if_false, wi, Bool.true_and]
        exact ih (i + 1) (by omega)
      | false =>
        simp only [fleet_named.j1, Bool.not_false, if_true, Bool.false_and]; exact Ev.now _
    refine Ev.step (fun _ => rfl) ?_
    rw [← hb] at tail
    simp only [fleet_named.l0, hi0, i0, if_true]
    by_cases h : bt s (i : Int) < 97
    · simp only [h, if_true] at tail ⊢; exact tail
    · simp only [h, if_false] at tail ⊢; exact tail
theorem named_ok {s : ByteArray} (hs : s.size ≤ 1000000) : Ev (fun k => fleet_named.f k s) (nmB s) := by
  have h := named_loop hs s.size 0 (by omega)
  rw [allFrom_all, Bool.and_comm] at h
  exact h
theorem Named_loop {s : ByteArray} (hs : s.size ≤ 1000000) : ∀ (d : Nat) (i : Nat), i + d = s.size → Ev (fun k => hinterlandref10_Named.l0 k s (i : Int)) (allFrom s i d) := by
  intro d; induction d with
  | zero =>
    intro i hi
    refine Ev.step (fun _ => rfl) ?_
    simp only [hinterlandref10_Named.l0, show ¬ (i : Int) < (s.size : Int) by omega, if_false, allFrom]; exact Ev.now _
  | succ d ih =>
    intro i hi
    have hb : (if bt s (i : Int) < 97 then true else decide (bt s (i : Int) > 122)) = !letB s i := by
      unfold letB inB
      by_cases h : bt s (i : Int) < 97
      · rw [if_pos h]; simp; omega
      · rw [if_neg h]; by_cases h2 : bt s (i : Int) > 122 <;> simp [h2] <;> omega
    have hi0 : (i : Int) < (s.size : Int) := by omega
    have i0 : (0 : Int) ≤ (i : Int) := by omega
    have wi : wrap64 ((i : Int) + 1) = ((i + 1 : Nat) : Int) := by rw [w64_in (by omega) (by omega)]; omega
    have tail : Ev (fun k => hinterlandref10_Named.j2 k s (i : Int) (!letB s i)) (allFrom s i (d + 1)) := by
      rw [allFrom_succ]
      refine Ev.step (fun _ => rfl) ?_
      cases hl : letB s i with
      | true =>
        simp only [hinterlandref10_Named.j2, Bool.not_true, Bool.false_eq_true, if_false, wi, Bool.true_and]
        exact ih (i + 1) (by omega)
      | false =>
        simp only [hinterlandref10_Named.j2, Bool.not_false, if_true, Bool.false_and]; exact Ev.now _
    refine Ev.step (fun _ => rfl) ?_
    rw [← hb] at tail
    simp only [hinterlandref10_Named.l0, hi0, i0, if_true]
    by_cases h : bt s (i : Int) < 97
    · simp only [h, if_true] at tail ⊢; exact tail
    · simp only [h, if_false] at tail ⊢; exact tail
theorem Named_ok {s : ByteArray} (hs : s.size ≤ 1000000) : Ev (fun k => hinterlandref10_Named.f k s) (nmB s) := by
  unfold hinterlandref10_Named.f nmB
  have h := Named_loop hs s.size 0 (by omega)
  rw [allFrom_all] at h
  by_cases h1 : (s.size : Int) < 1
  · simp only [h1, if_true, show ¬ 1 ≤ s.size by omega, decide_false, Bool.false_and]
    refine Ev.step (fun _ => rfl) ?_
    simp only [hinterlandref10_Named.j0, if_true]; exact Ev.now _
  · simp only [h1, if_false, show 1 ≤ s.size by omega, decide_true, Bool.true_and]
    refine Ev.step (fun _ => rfl) ?_
    by_cases h2 : s.size ≤ 12
    · simp only [hinterlandref10_Named.j0, show ¬ (s.size : Int) > 12 by omega, decide_false, Bool.false_eq_true, if_false, h2, decide_true, Bool.true_and]
      exact h
    · simp only [hinterlandref10_Named.j0, show (s.size : Int) > 12 by omega, decide_true, if_true, h2, decide_false, Bool.false_and]; exact Ev.now _
theorem within_loop (lo hi : Int) {l : List Int} (hl : l.length ≤ 1000000) : ∀ (d i : Nat), i + d = l.length → Ev (fun k => fleet_within.l0 k lo hi l (l.length : Int) (i : Int)) ((l.drop i).all (inB lo hi)) := by
  intro d; induction d with
  | zero =>
    intro i hi'
    refine Ev.step (fun _ => rfl) ?_
    simp only [fleet_within.l0, show ¬ (i : Int) < (l.length : Int) by omega, if_false, List.drop_of_length_le (show l.length ≤ i by omega), List.all_nil]; exact Ev.now _
  | succ d ih =>
    intro i hi'
    have hi0 : (i : Int) < (l.length : Int) := by omega
    have i0 : (0 : Int) ≤ (i : Int) := by omega
    have hr : l.drop i = rd l (i : Int) :: l.drop (i + 1) := by
      unfold rd
      rw [List.drop_eq_getElem_cons (by omega), List.getD_eq_getElem?_getD, List.getElem?_eq_getElem (by simp; omega)]; simp
    have hb : (if rd l (i : Int) < lo then true else decide (rd l (i : Int) > hi)) = !inB lo hi (rd l (i : Int)) := by
      unfold inB
      by_cases h : rd l (i : Int) < lo
      · rw [if_pos h]; simp; omega
      · rw [if_neg h]; by_cases h2 : rd l (i : Int) > hi <;> simp [h2] <;> omega
    have wi : wrap64 ((i : Int) + 1) = ((i + 1 : Nat) : Int) := by rw [w64_in (by omega) (by omega)]; omega
    have tail : Ev (fun k => fleet_within.j1 k lo hi l (l.length : Int) (i : Int) (!inB lo hi (rd l (i : Int)))) ((l.drop i).all (inB lo hi)) := by
      rw [hr, List.all_cons]
      refine Ev.step (fun _ => rfl) ?_
      cases hl : inB lo hi (rd l (i : Int)) with
      | true =>
        simp only [fleet_within.j1, Bool.not_true, Bool.false_eq_true, if_false, wi, Bool.true_and]
        exact ih (i + 1) (by omega)
      | false =>
        simp only [fleet_within.j1, Bool.not_false, if_true, Bool.false_and]; exact Ev.now _
    refine Ev.step (fun _ => rfl) ?_
    rw [← hb] at tail
    simp only [fleet_within.l0, hi0, i0, if_true]
    by_cases h : rd l (i : Int) < lo
    · simp only [h, if_true] at tail ⊢; exact tail
    · simp only [h, if_false] at tail ⊢; exact tail
theorem within_ok (lo hi : Int) {l : List Int} (hl : l.length ≤ 1000000) : Ev (fun k => fleet_within.f k lo hi l) (l.all (inB lo hi)) := within_loop lo hi hl l.length 0 (by omega)
theorem within1 (lo hi a : Int) : Ev (fun k => fleet_within.f k lo hi ([a] : List Int)) (inB lo hi a) := by
  have h := within_ok lo hi (l := [a]) (by simp)
  simpa using h
theorem within2 (lo hi a b : Int) : Ev (fun k => fleet_within.f k lo hi ([a, b] : List Int)) (inB lo hi a && inB lo hi b) := by
  have h := within_ok lo hi (l := [a, b]) (by simp)
  simpa using h
theorem rwithin (a lo hi : Int) : hinterlandref14_within.f a lo hi = some (inB lo hi a) := by
  unfold hinterlandref14_within.f inB
  by_cases h : a ≥ lo
  · rw [if_pos h]; congr 1; rw [decide_eq_decide]; omega
  · rw [if_neg h]; congr 1; symm; rw [decide_eq_false_iff_not]; omega
/-- A model's fields are right. -/
def okB (m : S52) : Bool := nmB m.f0 && inB 0 3 m.f1 && inB 0 600 m.f2 && inB 0 20000 m.f3 && inB 1 1000 m.f4 && inB 0 2000 m.f5 && inB (-1) 15 m.f6 && inB 0 1000 m.f7 && inB 1 16 m.f8 && inB 0 10000000 m.f9 && inB 0 10000000 m.f10 && inB 1 100 m.f11 && inB 0 1000 m.f12
theorem if_and {g : Nat → Option Bool} {f : Nat → Bool → Option Bool} {a b : Bool} (h : Ev g a) (ht : a = true → Ev (fun k => f k true) b) (hf : Ev (fun k => f k false) false) : Ev (fun k => (g k).bind (f k)) (a && b) := by
  cases ha : a with
  | true => subst ha; rw [Bool.true_and]; exact Ev.bind h (ht rfl)
  | false => subst ha; rw [Bool.false_and]; exact Ev.bind h hf
theorem j0_ok (b : Bool) : Ev (fun k => fleet_sound.j0 k b) b := Ev.step (f := fun _ => some b) (fun _ => rfl) (Ev.now _)
theorem sound_ok {m : S52} (hs : m.f0.size ≤ 1000000) : Ev (fun k => fleet_sound.f k m.f0 m.f1 m.f2 m.f3 m.f4 m.f5 m.f6 m.f7 m.f8 m.f9 m.f10 m.f11 m.f12 m.f13) (okB m) := by
  unfold fleet_sound.f okB
  simp only [Bool.and_assoc]
  refine if_and (named_ok hs) (fun _ => ?_) (by simpa using j0_ok false)
  simp only [if_true]
  refine if_and (within1 0 3 m.f1) (fun _ => ?_) (by simpa using j0_ok false)
  simp only [if_true]
  refine if_and (within1 0 600 m.f2) (fun _ => ?_) (by simpa using j0_ok false)
  simp only [if_true]
  refine if_and (within1 0 20000 m.f3) (fun _ => ?_) (by simpa using j0_ok false)
  simp only [if_true]
  refine if_and (within1 1 1000 m.f4) (fun _ => ?_) (by simpa using j0_ok false)
  simp only [if_true]
  refine if_and (within1 0 2000 m.f5) (fun _ => ?_) (by simpa using j0_ok false)
  simp only [if_true]
  refine if_and (within1 (-1) 15 m.f6) (fun _ => ?_) (by simpa using j0_ok false)
  simp only [if_true]
  refine if_and (within1 0 1000 m.f7) (fun _ => ?_) (by simpa using j0_ok false)
  simp only [if_true]
  refine if_and (within1 1 16 m.f8) (fun _ => ?_) (by simpa using j0_ok false)
  simp only [if_true]
  rw [← Bool.and_assoc]
  refine if_and (within2 0 10000000 m.f9 m.f10) (fun _ => ?_) (by simpa using j0_ok false)
  simp only [if_true]
  refine if_and (within1 1 100 m.f11) (fun _ => ?_) (by simpa using j0_ok false)
  simp only [if_true]
  refine Ev.bind (within1 0 1000 m.f12) (j0_ok _)
theorem right_ok {m : S52} (hs : m.f0.size ≤ 1000000) : Ev (fun k => hinterlandref14_right.f k m.f0 m.f1 m.f2 m.f3 m.f4 m.f5 m.f6 m.f7 m.f8 m.f9 m.f10 m.f11 m.f12 m.f13) (okB m) := by
  unfold hinterlandref14_right.f okB
  simp only [Bool.and_assoc, rwithin, Option.bind_some]
  refine if_and (Named_ok hs) (fun _ => ?_) (by simp; exact Ev.now _)
  simp only [if_true]
  by_cases h1 : inB 0 3 m.f1 = true
  case neg => simp only [h1, Bool.false_and]; simp; exact Ev.now _
  simp only [h1, if_true, Bool.true_and]
  by_cases h2 : inB 0 600 m.f2 = true
  case neg => simp only [h2, Bool.false_and]; simp; exact Ev.now _
  simp only [h2, if_true, Bool.true_and]
  by_cases h3 : inB 0 20000 m.f3 = true
  case neg => simp only [h3, Bool.false_and]; simp; exact Ev.now _
  simp only [h3, if_true, Bool.true_and]
  by_cases h4 : inB 1 1000 m.f4 = true
  case neg => simp only [h4, Bool.false_and]; simp; exact Ev.now _
  simp only [h4, if_true, Bool.true_and]
  by_cases h5 : inB 0 2000 m.f5 = true
  case neg => simp only [h5, Bool.false_and]; simp; exact Ev.now _
  simp only [h5, if_true, Bool.true_and]
  by_cases h6 : inB (-1) 15 m.f6 = true
  case neg => simp only [h6, Bool.false_and]; simp; exact Ev.now _
  simp only [h6, if_true, Bool.true_and]
  by_cases h7 : inB 0 1000 m.f7 = true
  case neg => simp only [h7, Bool.false_and]; simp; exact Ev.now _
  simp only [h7, if_true, Bool.true_and]
  by_cases h8 : inB 1 16 m.f8 = true
  case neg => simp only [h8, Bool.false_and]; simp; exact Ev.now _
  simp only [h8, if_true, Bool.true_and]
  by_cases h9 : inB 0 10000000 m.f9 = true
  case neg => simp only [h9, Bool.false_and]; simp; exact Ev.now _
  simp only [h9, if_true, Bool.true_and]
  by_cases h10 : inB 0 10000000 m.f10 = true
  case neg => simp only [h10, Bool.false_and]; simp; exact Ev.now _
  simp only [h10, if_true, Bool.true_and]
  by_cases h11 : inB 1 100 m.f11 = true
  case neg => simp only [h11, Bool.false_and]; simp; exact Ev.now _
  simp only [h11, if_true, Bool.true_and]
  exact Ev.now _
end Go.Proofs.Ytgnahbjpockdmab.Mod
namespace Go.Proofs.Ytgnahbjpockdmab.Vm
open Go.RowKit Go.Proofs.YtgnahbjpockdmabOwn Go.Proofs.Ytgnahbjpockdmab.Q Go.Proofs.Ytgnahbjpockdmab.Mod Go.Proofs.YtgnahbjpockdmabW.PrintWords Go.Proofs.YtgnahbjpockdmabW.PrintLast Go.Proofs.YtgnahbjpockdmabW.PrintMore
set_option linter.unusedVariables false
set_option linter.unusedSimpArgs false
structure GoodM (M : List S52) : Prop where
  len : M.length ≤ 40
  ok : ∀ i : Int, 0 ≤ i → i < (M.length : Int) → okB (rd_T52 M i) = true
structure Small (M : List S52) : Prop where
  len : M.length ≤ 500
  nm : ∀ i : Int, 0 ≤ i → i < (M.length : Int) → (rd_T52 M i).f0.size ≤ 500
theorem dup_both {M : List S52} (hl : M.length ≤ 500) {i : Int} {y : List S52} (hy : y.length ≤ 500) (m : S52) {r : Int} (h1 : Ev (fun k => fleet_ValidateModels.l1 k M M (M.length : Int) (wrap64 (i + 1))) r) (h2 : Ev (fun k => hinterlandref14_ValidateModels.l1 k M M (M.length : Int) (wrap64 (i + 1))) r) : ∀ (d : Nat) (j : Int), 0 ≤ j → j + d = (y.length : Int) →
    ∃ r', Ev (fun k => fleet_ValidateModels.l2 k M M (M.length : Int) i y (y.length : Int) j (m).f0 (m).f1 (m).f2 (m).f3 (m).f4 (m).f5 (m).f6 (m).f7 (m).f8 (m).f9 (m).f10 (m).f11 (m).f12 (m).f13) r' ∧ Ev (fun k => hinterlandref14_ValidateModels.l2 k M M (M.length : Int) i y (y.length : Int) j (m).f0 (m).f1 (m).f2 (m).f3 (m).f4 (m).f5 (m).f6 (m).f7 (m).f8 (m).f9 (m).f10 (m).f11 (m).f12 (m).f13) r' := by
  intro d; induction d with
  | zero =>
    intro j j0 hd
    refine ⟨r, Ev.step (fun _ => rfl) ?_, Ev.step (fun _ => rfl) ?_⟩
    · simp only [fleet_ValidateModels.l2, show ¬ j < (y.length : Int) by omega, if_false]; exact h1
    · simp only [hinterlandref14_ValidateModels.l2, show ¬ j < (y.length : Int) by omega, if_false]; exact h2
  | succ d ih =>
    intro j j0 hd
    have hj : j < (y.length : Int) := by omega
    by_cases h : ((rd_T52 y j).f0).toList = (m.f0).toList
    · refine ⟨3, Ev.step (fun _ => rfl) ?_, Ev.step (fun _ => rfl) ?_⟩
      · simp only [fleet_ValidateModels.l2, hj, j0, if_true, h]; exact Ev.now _
      · simp only [hinterlandref14_ValidateModels.l2, hj, j0, if_true, h]; exact Ev.now _
    · obtain ⟨r', e1, e2⟩ := ih (j + 1) (by omega) (by omega)
      have wj : wrap64 (j + 1) = j + 1 := w64_in (by omega) (by omega)
      refine ⟨r', Ev.step (fun _ => rfl) ?_, Ev.step (fun _ => rfl) ?_⟩
      · simp only [fleet_ValidateModels.l2, hj, j0, if_true, h, if_false, wj]; exact e1
      · simp only [hinterlandref14_ValidateModels.l2, hj, j0, if_true, h, if_false, wj]; exact e2
theorem dups_both {M : List S52} (hl : M.length ≤ 500) : ∀ (d : Nat) (i : Int), 0 ≤ i → i + d = (M.length : Int) → ∃ r, Ev (fun k => fleet_ValidateModels.l1 k M M (M.length : Int) i) r ∧ Ev (fun k => hinterlandref14_ValidateModels.l1 k M M (M.length : Int) i) r := by
  intro d; induction d with
  | zero =>
    intro i i0 hd
    refine ⟨0, Ev.step (fun _ => rfl) ?_, Ev.step (fun _ => rfl) ?_⟩
    · simp only [fleet_ValidateModels.l1, show ¬ i < (M.length : Int) by omega, if_false]; exact Ev.now _
    · simp only [hinterlandref14_ValidateModels.l1, show ¬ i < (M.length : Int) by omega, if_false]; exact Ev.now _
  | succ d ih =>
    intro i i0 hd
    have hi : i < (M.length : Int) := by omega
    have hi2 : i ≤ (M.length : Int) := by omega
    have wi : wrap64 (i + 1) = i + 1 := w64_in (by omega) (by omega)
    obtain ⟨r, e1, e2⟩ := ih (i + 1) (by omega) (by omega)
    have hy : (M.take i.toNat).length ≤ 500 := Nat.le_trans (List.length_take_le _ _) (by omega)
    obtain ⟨r', g1, g2⟩ := dup_both hl (i := i) hy (rd_T52 M i) (by rw [wi]; exact e1) (by rw [wi]; exact e2) (M.take i.toNat).length 0 (by omega) (by omega)
    refine ⟨r', Ev.step (fun _ => rfl) ?_, Ev.step (fun _ => rfl) ?_⟩
    · simp only [fleet_ValidateModels.l1, hi, i0, hi2, if_true, Option.bind_some]; exact g1
    · simp only [hinterlandref14_ValidateModels.l1, hi, i0, hi2, if_true, Option.bind_some]; exact g2
theorem oks_both {M : List S52} (s : Small M) : ∀ (d : Nat) (i : Int), 0 ≤ i → i + d = (M.length : Int) → ∃ r, Ev (fun k => fleet_ValidateModels.l0 k M M (M.length : Int) i) r ∧ Ev (fun k => hinterlandref14_ValidateModels.l0 k M M (M.length : Int) i) r ∧ (r = 0 → ∀ j, i ≤ j → j < (M.length : Int) → okB (rd_T52 M j) = true) := by
  have hl := s.len
  intro d; induction d with
  | zero =>
    intro i i0 hd
    obtain ⟨r, e1, e2⟩ := dups_both hl M.length 0 (by omega) (by omega)
    refine ⟨r, Ev.step (fun _ => rfl) ?_, Ev.step (fun _ => rfl) ?_, fun _ j a b => by omega⟩
    · simp only [fleet_ValidateModels.l0, show ¬ i < (M.length : Int) by omega, if_false]; exact e1
    · simp only [hinterlandref14_ValidateModels.l0, show ¬ i < (M.length : Int) by omega, if_false]; exact e2
  | succ d ih =>
    intro i i0 hd
    have hi : i < (M.length : Int) := by omega
    have wi : wrap64 (i + 1) = i + 1 := w64_in (by omega) (by omega)
    have hn : (rd_T52 M i).f0.size ≤ 1000000 := by have := s.nm i i0 hi; omega
    cases hb : okB (rd_T52 M i) with
    | true =>
      obtain ⟨r, e1, e2, e3⟩ := ih (i + 1) (by omega) (by omega)
      refine ⟨r, Ev.step (fun _ => rfl) ?_, Ev.step (fun _ => rfl) ?_, fun h j a b => ?_⟩
      · simp only [fleet_ValidateModels.l0, hi, i0, if_true, wi]
        refine Ev.bind (sound_ok hn) ?_
        simp only [hb, if_true]; exact e1
      · simp only [hinterlandref14_ValidateModels.l0, hi, i0, if_true, wi]
        refine Ev.bind (right_ok hn) ?_
        simp only [hb, if_true]; exact e2
      · by_cases e : j = i
        · rw [e]; exact hb
        · exact e3 h j (by omega) b
    | false =>
      refine ⟨1, Ev.step (fun _ => rfl) ?_, Ev.step (fun _ => rfl) ?_, fun h => by omega⟩
      · simp only [fleet_ValidateModels.l0, hi, i0, if_true, wi]
        refine Ev.bind (sound_ok hn) ?_
        simp only [hb, Bool.false_eq_true, if_false]; exact Ev.now _
      · simp only [hinterlandref14_ValidateModels.l0, hi, i0, if_true, wi]
        refine Ev.bind (right_ok hn) ?_
        simp only [hb, Bool.false_eq_true, if_false]; exact Ev.now _
theorem vm_both {M : List S52} (s : Small M) : ∃ r, Ev (fun k => fleet_ValidateModels.f k M) r ∧ Ev (fun k => hinterlandref14_ValidateModels.f k M) r ∧ (r = 0 → GoodM M) := by
  unfold fleet_ValidateModels.f hinterlandref14_ValidateModels.f
  by_cases h : (M.length : Int) > 40
  · refine ⟨4, ?_, ?_, fun h => by omega⟩
    · simp only [h, if_true]; exact Ev.now _
    · simp only [h, if_true]; exact Ev.now _
  · obtain ⟨r, e1, e2, e3⟩ := oks_both s M.length 0 (by omega) (by omega)
    refine ⟨r, ?_, ?_, fun hr => ⟨by omega, fun i a b => e3 hr i a b⟩⟩
    · simp only [h, if_false]; exact e1
    · simp only [h, if_false]; exact e2
theorem large_loop {M : List S52} (hM : M.length ≤ maxLen) {A B : List Int} {P : List S49} (b c d' e : Int) : ∀ (d : Nat) (i : Int), 0 ≤ i → i + d = (M.length : Int) → ∃ r, Ev (fun k => hinterlandlaw14_large.l0 k M M (M.length : Int) i A B b c d' e P) r ∧ (r = false → (∀ j, i ≤ j → j < (M.length : Int) → (rd_T52 M j).f0.size ≤ 500) ∧ M.length ≤ 500 ∧ A.length ≤ 500 ∧ B.length ≤ 500 ∧ P.length ≤ 500) := by
  unfold maxLen at hM
  intro d; induction d with
  | zero =>
    intro i i0 hd
    have hi : ¬ i < (M.length : Int) := by omega
    by_cases h1 : (M.length : Int) > 500
    · exact ⟨true, Ev.step (fun _ => rfl) (by simp only [hinterlandlaw14_large.l0, hi, h1, if_false, if_true]; exact Ev.now _), fun h => by cases h⟩
    by_cases h2 : (A.length : Int) > 500
    · exact ⟨true, Ev.step (fun _ => rfl) (by simp only [hinterlandlaw14_large.l0, hi, h1, h2, if_false, if_true]; exact Ev.now _), fun h => by cases h⟩
    by_cases h3 : (B.length : Int) > 500
    · exact ⟨true, Ev.step (fun _ => rfl) (by simp only [hinterlandlaw14_large.l0, hi, h1, h2, h3, if_false, if_true]; exact Ev.now _), fun h => by cases h⟩
    · refine ⟨decide ((P.length : Int) > 500), Ev.step (fun _ => rfl) (by simp only [hinterlandlaw14_large.l0, hi, h1, h2, h3, if_false]; exact Ev.now _), fun h => ⟨fun j a b => by omega, by omega, by omega, by omega, ?_⟩⟩
      have := of_decide_eq_false h; omega
  | succ d ih =>
    intro i i0 hd
    have hi : i < (M.length : Int) := by omega
    have wi : wrap64 (i + 1) = i + 1 := w64_in (by omega) (by omega)
    by_cases h1 : (((rd_T52 M i).f0).size : Int) > 500
    · exact ⟨true, Ev.step (fun _ => rfl) (by simp only [hinterlandlaw14_large.l0, hi, i0, h1, if_true]; exact Ev.now _), fun h => by cases h⟩
    · obtain ⟨r, e1, e2⟩ := ih (i + 1) (by omega) (by omega)
      refine ⟨r, Ev.step (fun _ => rfl) (by simp only [hinterlandlaw14_large.l0, hi, i0, h1, if_true, if_false, wi]; exact e1), fun h => ⟨fun j a b => ?_, (e2 h).2⟩⟩
      by_cases e : j = i
      · rw [e]; omega
      · exact (e2 h).1 j (by omega) b
theorem large_ok {M : List S52} (hM : wRow wT52 M) (A B : List Int) (b c d e : Int) (P : List S49) : ∃ r, Ev (fun k => hinterlandlaw14_large.f k M A B b c d e P) r ∧ (r = false → Small M ∧ A.length ≤ 500 ∧ B.length ≤ 500 ∧ P.length ≤ 500) := by
  obtain ⟨r, e1, e2⟩ := large_loop hM.1 (A := A) (B := B) (P := P) b c d e M.length 0 (by omega) (by omega)
  exact ⟨r, e1, fun h => ⟨⟨(e2 h).2.1, fun i a b => (e2 h).1 i a b⟩, (e2 h).2.2⟩⟩
end Go.Proofs.Ytgnahbjpockdmab.Vm
namespace Go.Proofs.Ytgnahbjpockdmab.Fac
open Go.RowKit Go.Proofs.YtgnahbjpockdmabOwn Go.Proofs.Ytgnahbjpockdmab.Q Go.Proofs.Ytgnahbjpockdmab.Mod Go.Proofs.Ytgnahbjpockdmab.Vm Go.Proofs.YtgnahbjpockdmabW.PrintWords Go.Proofs.YtgnahbjpockdmabW.PrintLast Go.Proofs.YtgnahbjpockdmabW.PrintMore
set_option linter.unusedVariables false
set_option linter.unusedSimpArgs false
def inR (M : List S52) (i : Int) : Bool := decide (0 ≤ i ∧ i < (M.length : Int))
def kindOf (M : List S52) (i : Int) : Int := (rd_T52 M i).f1
def sameK (M : List S52) (z i : Int) : Bool := decide (kindOf M i = z)
/-- What the fitting of a consist says, all its models being there. -/
def bad (M : List S52) (C : List Int) : Bool := decide ((kindOf M (rd C 0) = 0 ∧ (rd_T52 M (rd C 0)).f3 = 0) ∨ (kindOf M (rd C 0) ≠ 0 ∧ 1 < C.length))
def fitr (M : List S52) (C : List Int) : Int := if C.all (sameK M (kindOf M (rd C 0))) then (if bad M C then 8 else 0) else 8
/-- The first error of a consist, behind v, that of the models. -/
def jr (v : Int) (M : List S52) (C : List Int) : Int := if v ≠ 0 then v else if C.length = 0 ∨ 10 < C.length then 1 else if C.all (inR M) then fitr M C else 2
theorem drop_at {l : List Int} {i d : Nat} (h : i + (d + 1) = l.length) : l.drop i = rd l (i : Int) :: l.drop (i + 1) := by
  unfold rd
  rw [List.drop_eq_getElem_cons (by omega), List.getD_eq_getElem?_getD, List.getElem?_eq_getElem (by simp; omega)]; simp
theorem all_rd {l : List Int} {p : Int → Bool} (h : l.all p = true) {i : Nat} (hi : i < l.length) : p (rd l (i : Int)) = true := by
  rw [List.all_eq_true] at h
  apply h
  unfold rd
  rw [List.getD_eq_getElem?_getD, List.getElem?_eq_getElem (by simpa using hi)]
  simp
theorem j1_ok (b : Bool) : Ev (fun k => fleet_fits.j1 k b) (if b then 8 else 0) := by
  refine Ev.step (fun _ => rfl) ?_
  cases b with
  | true => simp only [fleet_fits.j1, if_true]; exact Ev.now _
  | false => simp only [fleet_fits.j1, Bool.false_eq_true, if_false]; exact Ev.now _
theorem j4_ok (b : Bool) : Ev (fun k => hinterlandref14_coupled.j4 k b) (if b then 8 else 0) := by
  refine Ev.step (fun _ => rfl) ?_
  cases b with
  | true => simp only [hinterlandref14_coupled.j4, if_true]; exact Ev.now _
  | false => simp only [hinterlandref14_coupled.j4, Bool.false_eq_true, if_false]; exact Ev.now _
theorem fits_loop {M : List S52} {C : List Int} (hC : C.length ≤ 500) (h0 : 0 < C.length) (hr : C.all (inR M) = true) (m : S52) (hm : m = rd_T52 M (rd C 0)) : ∀ (d i : Nat), i + d = C.length →
    Ev (fun k => fleet_fits.l0 k M C C (C.length : Int) (i : Int) m.f0 m.f1 m.f2 m.f3 m.f4 m.f5 m.f6 m.f7 m.f8 m.f9 m.f10 m.f11 m.f12 m.f13) (if (C.drop i).all (sameK M (kindOf M (rd C 0))) then (if bad M C then 8 else 0) else 8) := by
  intro d; induction d with
  | zero =>
    intro i hi
    refine Ev.step (fun _ => rfl) ?_
    rw [List.drop_of_length_le (show C.length ≤ i by omega), List.all_nil]
    have hb : bad M C = if m.f1 = 0 then (if m.f3 = 0 then true else false) else decide ((C.length : Int) > 1) := by
      unfold bad kindOf; rw [← hm]
      by_cases h1 : m.f1 = 0
      · by_cases h3 : m.f3 = 0 <;> simp [h1, h3]
      · simp [h1]; omega
    simp only [fleet_fits.l0, show ¬ (i : Int) < (C.length : Int) by omega, if_false, if_true]
    rw [hb]
    by_cases h1 : m.f1 = 0
    · by_cases h3 : m.f3 = 0
      · simp only [h1, h3, if_true]; exact j1_ok true
      · simp only [h1, h3, if_true, if_false]; exact j1_ok false
    · simp only [h1, if_false]; exact j1_ok _
  | succ d ih =>
    intro i hi
    have hi0 : (i : Int) < (C.length : Int) := by omega
    have i0 : (0 : Int) ≤ (i : Int) := by omega
    have wi : wrap64 ((i : Int) + 1) = ((i + 1 : Nat) : Int) := by rw [w64_in (by omega) (by omega)]; omega
    have hx := all_rd hr (show i < C.length by omega)
    unfold inR at hx; have hx := of_decide_eq_true hx
    rw [drop_at hi, List.all_cons]
    refine Ev.step (fun _ => rfl) ?_
    have hk : (kindOf M (rd C 0)) = m.f1 := by unfold kindOf; rw [← hm]
    by_cases he : (rd_T52 M (rd C (i : Int))).f1 = m.f1
    · have hs : sameK M (kindOf M (rd C 0)) (rd C (i : Int)) = true := by unfold sameK; rw [hk]; exact decide_eq_true he
      simp only [fleet_fits.l0, hi0, i0, hx.1, hx.2, he, if_true, wi, hs, Bool.true_and]
      exact ih (i + 1) (by omega)
    · have hs : sameK M (kindOf M (rd C 0)) (rd C (i : Int)) = false := by unfold sameK; rw [hk]; exact decide_eq_false he
      simp only [fleet_fits.l0, hi0, i0, hx.1, hx.2, he, if_true, if_false, hs, Bool.false_and, Bool.false_eq_true]; exact Ev.now _
theorem fits_ok {M : List S52} {C : List Int} (hC : C.length ≤ 500) (h0 : 0 < C.length) (hr : C.all (inR M) = true) : Ev (fun k => fleet_fits.f k M C) (fitr M C) := by
  unfold fleet_fits.f
  have hx := all_rd hr h0
  unfold inR at hx; have hx := of_decide_eq_true hx
  have h00 : 0 < (C.length : Int) := by omega
  have hx1 : 0 ≤ rd C 0 := hx.1
  have hx2 : rd C 0 < (M.length : Int) := hx.2
  simp only [h00, hx1, hx2, if_true]
  have := fits_loop hC h0 hr (rd_T52 M (rd C 0)) rfl C.length 0 (by omega)
  rw [List.drop_zero] at this
  unfold fitr; exact this
theorem coup_loop {M : List S52} {C : List Int} (hC : C.length ≤ 500) (h0 : 0 < C.length) (hr : C.all (inR M) = true) : ∀ (d i : Nat), i + d = C.length →
    Ev (fun k => hinterlandref14_coupled.l1 k M C (kindOf M (rd C 0)) C (C.length : Int) (i : Int)) (if (C.drop i).all (sameK M (kindOf M (rd C 0))) then (if bad M C then 8 else 0) else 8) := by
  have hx0 := all_rd hr h0
  unfold inR at hx0; have hx0 := of_decide_eq_true hx0
  have hx1 : 0 ≤ rd C 0 := hx0.1
  have hx2 : rd C 0 < (M.length : Int) := hx0.2
  have h00 : 0 < (C.length : Int) := by omega
  intro d; induction d with
  | zero =>
    intro i hi
    refine Ev.step (fun _ => rfl) ?_
    rw [List.drop_of_length_le (show C.length ≤ i by omega), List.all_nil]
    have hb : bad M C = if kindOf M (rd C 0) = 0 then (if (rd_T52 M (rd C 0)).f3 = 0 then true else false) else decide ((C.length : Int) > 1) := by
      unfold bad
      by_cases h1 : kindOf M (rd C 0) = 0
      · by_cases h3 : (rd_T52 M (rd C 0)).f3 = 0 <;> simp [h1, h3]
      · simp [h1]; omega
    simp only [hinterlandref14_coupled.l1, show ¬ (i : Int) < (C.length : Int) by omega, if_false, if_true, h00, hx1, hx2]
    rw [hb]
    by_cases h1 : kindOf M (rd C 0) = 0
    · by_cases h3 : (rd_T52 M (rd C 0)).f3 = 0
      · simp only [h1, h3, if_true]; exact j4_ok true
      · simp only [h1, h3, if_true, if_false]; exact j4_ok false
    · simp only [h1, if_false]; exact j4_ok _
  | succ d ih =>
    intro i hi
    have hi0 : (i : Int) < (C.length : Int) := by omega
    have i0 : (0 : Int) ≤ (i : Int) := by omega
    have wi : wrap64 ((i : Int) + 1) = ((i + 1 : Nat) : Int) := by rw [w64_in (by omega) (by omega)]; omega
    have hx := all_rd hr (show i < C.length by omega)
    unfold inR at hx; have hx := of_decide_eq_true hx
    rw [drop_at hi, List.all_cons]
    refine Ev.step (fun _ => rfl) ?_
    by_cases he : (rd_T52 M (rd C (i : Int))).f1 = kindOf M (rd C 0)
    · have hs : sameK M (kindOf M (rd C 0)) (rd C (i : Int)) = true := by unfold sameK; exact decide_eq_true he
      simp only [hinterlandref14_coupled.l1, hi0, i0, hx.1, hx.2, he, if_true, wi, hs, Bool.true_and]
      exact ih (i + 1) (by omega)
    · have hs : sameK M (kindOf M (rd C 0)) (rd C (i : Int)) = false := by unfold sameK; exact decide_eq_false he
      simp only [hinterlandref14_coupled.l1, hi0, i0, hx.1, hx.2, he, if_true, if_false, hs, Bool.false_and, Bool.false_eq_true]; exact Ev.now _
theorem inR_if {M : List S52} {x : Int} : (if x < 0 then true else decide (x ≥ (M.length : Int))) = !inR M x := by
  unfold inR
  by_cases h : x < 0
  · rw [if_pos h]; simp; omega
  · rw [if_neg h]; by_cases h2 : x ≥ (M.length : Int) <;> simp [h2] <;> omega
theorem jl_loop {M : List S52} {C : List Int} (hC : C.length ≤ 500) (h0 : 0 < C.length) : ∀ (d i : Nat), i + d = C.length → (C.take i).all (inR M) = true →
    Ev (fun k => fleet_joined.l0 k M C C (C.length : Int) (i : Int)) (if (C.drop i).all (inR M) then fitr M C else 2) := by
  intro d; induction d with
  | zero =>
    intro i hi hp
    have hr : C.all (inR M) = true := by rw [List.take_of_length_le (by omega)] at hp; exact hp
    rw [List.drop_of_length_le (show C.length ≤ i by omega), List.all_nil, if_pos rfl]
    refine Ev.step (fun _ => rfl) ?_
    simp only [fleet_joined.l0, show ¬ (i : Int) < (C.length : Int) by omega, if_false]
    exact Ev.bind (fits_ok hC h0 hr) (Ev.now _)
  | succ d ih =>
    intro i hi hp
    have hi0 : (i : Int) < (C.length : Int) := by omega
    have i0 : (0 : Int) ≤ (i : Int) := by omega
    have wi : wrap64 ((i : Int) + 1) = ((i + 1 : Nat) : Int) := by rw [w64_in (by omega) (by omega)]; omega
    rw [drop_at hi, List.all_cons]
    have ht : C.take (i + 1) = C.take i ++ [rd C (i : Int)] := by
      rw [List.take_add_one]
      congr 1
      unfold rd
      rw [List.getD_eq_getElem?_getD, List.getElem?_eq_getElem (show i < C.length by omega), List.getElem?_eq_getElem (by simp; omega)]; simp
    have tail : Ev (fun k => fleet_joined.j2 k M C C (C.length : Int) (i : Int) (!inR M (rd C (i : Int)))) (if (inR M (rd C (i : Int)) && (C.drop (i + 1)).all (inR M)) = true then fitr M C else 2) := by
      refine Ev.step (fun _ => rfl) ?_
      cases hx : inR M (rd C (i : Int)) with
      | true =>
        simp only [fleet_joined.j2, Bool.not_true, Bool.false_eq_true, if_false, wi, Bool.true_and]
        exact ih (i + 1) (by omega) (by rw [ht, List.all_append, hp, List.all_cons, hx]; rfl)
      | false =>
        simp only [fleet_joined.j2, Bool.not_false, if_true, Bool.false_and, Bool.false_eq_true, if_false]; exact Ev.now _
    refine Ev.step (fun _ => rfl) ?_
    rw [← inR_if] at tail
    simp only [fleet_joined.l0, hi0, i0, if_true]
    by_cases h : rd C (i : Int) < 0
    · simp only [h, if_true] at tail ⊢; exact tail
    · simp only [h, if_false] at tail ⊢; exact tail
theorem jl_ok {M : List S52} {C : List Int} (hC : C.length ≤ 500) {v : Int} (hv : Ev (fun k => fleet_ValidateModels.f k M) v) : Ev (fun k => fleet_joined.f k M C) (jr v M C) := by
  unfold fleet_joined.f jr
  refine Ev.bind hv ?_
  by_cases h : v = 0
  · simp only [h, if_true, ne_eq, not_true_eq_false, if_false]
    by_cases h1 : C.length = 0
    · have hc := show (C.length : Int) = 0 by omega
      simp only [hc, if_true, h1, true_or]
      refine Ev.step (fun _ => rfl) ?_
      simp only [fleet_joined.j0, if_true]; exact Ev.now _
    · have hc := show ¬ (C.length : Int) = 0 by omega
      simp only [hc, if_false, h1, false_or]
      refine Ev.step (fun _ => rfl) ?_
      by_cases h2 : 10 < C.length
      · simp only [fleet_joined.j0, show (C.length : Int) > 10 by omega, decide_true, if_true, h2]; exact Ev.now _
      · simp only [fleet_joined.j0, show ¬ (C.length : Int) > 10 by omega, decide_false, Bool.false_eq_true, if_false, h2]
        have := jl_loop (M := M) hC (by omega) C.length 0 (by omega) (by simp)
        rw [List.drop_zero] at this
        exact this
  · simp only [h, if_false, ne_eq, not_false_eq_true, if_true]; exact Ev.now _
theorem cl_loop {M : List S52} {C : List Int} (hC : C.length ≤ 500) (h0 : 0 < C.length) : ∀ (d i : Nat), i + d = C.length → (C.take i).all (inR M) = true →
    Ev (fun k => hinterlandref14_coupled.l0 k M C C (C.length : Int) (i : Int)) (if (C.drop i).all (inR M) then fitr M C else 2) := by
  intro d; induction d with
  | zero =>
    intro i hi hp
    have hr : C.all (inR M) = true := by rw [List.take_of_length_le (by omega)] at hp; exact hp
    rw [List.drop_of_length_le (show C.length ≤ i by omega), List.all_nil, if_pos rfl]
    refine Ev.step (fun _ => rfl) ?_
    have hx0 := all_rd hr h0
    unfold inR at hx0; have hx0 := of_decide_eq_true hx0
    have hx1 : 0 ≤ rd C 0 := hx0.1
    have hx2 : rd C 0 < (M.length : Int) := hx0.2
    have h00 : 0 < (C.length : Int) := by omega
    simp only [hinterlandref14_coupled.l0, show ¬ (i : Int) < (C.length : Int) by omega, if_false, h00, hx1, hx2, if_true]
    have := coup_loop hC h0 hr C.length 0 (by omega)
    rw [List.drop_zero] at this
    unfold fitr; exact this
  | succ d ih =>
    intro i hi hp
    have hi0 : (i : Int) < (C.length : Int) := by omega
    have i0 : (0 : Int) ≤ (i : Int) := by omega
    have wi : wrap64 ((i : Int) + 1) = ((i + 1 : Nat) : Int) := by rw [w64_in (by omega) (by omega)]; omega
    rw [drop_at hi, List.all_cons]
    have ht : C.take (i + 1) = C.take i ++ [rd C (i : Int)] := by
      rw [List.take_add_one]
      congr 1
      unfold rd
      rw [List.getD_eq_getElem?_getD, List.getElem?_eq_getElem (show i < C.length by omega), List.getElem?_eq_getElem (by simp; omega)]; simp
    have tail : Ev (fun k => hinterlandref14_coupled.j2 k M C C (C.length : Int) (i : Int) (!inR M (rd C (i : Int)))) (if (inR M (rd C (i : Int)) && (C.drop (i + 1)).all (inR M)) = true then fitr M C else 2) := by
      refine Ev.step (fun _ => rfl) ?_
      cases hx : inR M (rd C (i : Int)) with
      | true =>
        simp only [hinterlandref14_coupled.j2, Bool.not_true, Bool.false_eq_true, if_false, wi, Bool.true_and]
        exact ih (i + 1) (by omega) (by rw [ht, List.all_append, hp, List.all_cons, hx]; rfl)
      | false =>
        simp only [hinterlandref14_coupled.j2, Bool.not_false, if_true, Bool.false_and, Bool.false_eq_true, if_false]; exact Ev.now _
    refine Ev.step (fun _ => rfl) ?_
    rw [← inR_if] at tail
    simp only [hinterlandref14_coupled.l0, hi0, i0, if_true]
    by_cases h : rd C (i : Int) < 0
    · simp only [h, if_true] at tail ⊢; exact tail
    · simp only [h, if_false] at tail ⊢; exact tail
theorem cl_ok {M : List S52} {C : List Int} (hC : C.length ≤ 500) {v : Int} (hv : Ev (fun k => hinterlandref14_ValidateModels.f k M) v) : Ev (fun k => hinterlandref14_coupled.f k M C) (jr v M C) := by
  unfold hinterlandref14_coupled.f jr
  refine Ev.bind hv ?_
  by_cases h : v = 0
  · simp only [h, if_true, ne_eq, not_true_eq_false, if_false]
    by_cases h1 : C.length = 0
    · have hc := show (C.length : Int) < 1 by omega
      simp only [hc, if_true, h1, true_or]
      refine Ev.step (fun _ => rfl) ?_
      simp only [hinterlandref14_coupled.j0, if_true]; exact Ev.now _
    · have hc := show ¬ (C.length : Int) < 1 by omega
      simp only [hc, if_false, h1, false_or]
      refine Ev.step (fun _ => rfl) ?_
      by_cases h2 : 10 < C.length
      · simp only [hinterlandref14_coupled.j0, show (C.length : Int) > 10 by omega, decide_true, if_true, h2]; exact Ev.now _
      · simp only [hinterlandref14_coupled.j0, show ¬ (C.length : Int) > 10 by omega, decide_false, Bool.false_eq_true, if_false, h2]
        have := cl_loop (M := M) hC (by omega) C.length 0 (by omega) (by simp)
        rw [List.drop_zero] at this
        exact this
  · simp only [h, if_false, ne_eq, not_false_eq_true, if_true]; exact Ev.now _
structure FitC (M : List S52) (C : List Int) : Prop where
  good : GoodM M
  pos : 0 < C.length
  ten : C.length ≤ 10
  inr : C.all (inR M) = true
  same : C.all (sameK M (kindOf M (rd C 0))) = true
  nb : bad M C = false
theorem jr_zero {v : Int} {M : List S52} {C : List Int} (hg : v = 0 → GoodM M) (h : jr v M C = 0) : v = 0 ∧ FitC M C := by
  unfold jr at h
  by_cases hv : v = 0
  · rw [if_neg (by simpa using hv)] at h
    by_cases h1 : C.length = 0 ∨ 10 < C.length
    · rw [if_pos h1] at h; omega
    · rw [if_neg h1] at h
      by_cases h2 : C.all (inR M) = true
      · rw [if_pos h2] at h
        unfold fitr at h
        by_cases h3 : C.all (sameK M (kindOf M (rd C 0))) = true
        · rw [if_pos h3] at h
          cases h4 : bad M C with
          | true => rw [h4] at h; simp at h
          | false => exact ⟨hv, hg hv, by omega, by omega, h2, h3, h4⟩
        · rw [if_neg h3] at h; omega
      · rw [if_neg h2] at h; omega
  · rw [if_pos hv] at h; exact absurd h hv
/-- A model of a consist that fits. -/
theorem FitC.model {M : List S52} {C : List Int} (f : FitC M C) {i : Nat} (hi : i < C.length) : 0 ≤ rd C (i : Int) ∧ rd C (i : Int) < (M.length : Int) ∧ okB (rd_T52 M (rd C (i : Int))) = true := by
  have hx := all_rd f.inr hi
  unfold inR at hx; have hx := of_decide_eq_true hx
  exact ⟨hx.1, hx.2, f.good.ok _ hx.1 hx.2⟩
abbrev St := Int × Int × Int × Int × Int × Int × Int × Bool
def step (s : St) (m : S52) : St := (fleet_engine_add.sp m.f2 s.1, wrap64 (s.2.1 + m.f3), wrap64 (s.2.2.1 + m.f4), wrap64 (s.2.2.2.1 + m.f5), wrap64 (s.2.2.2.2.1 + m.f8), wrap64 (s.2.2.2.2.2.1 + m.f9), wrap64 (s.2.2.2.2.2.2.1 + m.f10), (s.2.2.2.2.2.2.2 || m.f13))
def zero : St := (0, 0, 0, 0, 0, 0, 0, false)
abbrev FR := Int × Int × Int × Int × Int × Int × Int × Bool × Int
def fin (s : St) : FR := (if s.1 = 0 then 600 else s.1, s.2.1, s.2.2.1, s.2.2.2.1, s.2.2.2.2.1, s.2.2.2.2.2.1, s.2.2.2.2.2.2.1, s.2.2.2.2.2.2.2, 0)
theorem jr_all {v : Int} {M : List S52} {C : List Int} (h : jr v M C = 0) : C.all (inR M) = true := by
  unfold jr at h
  by_cases hv : v ≠ 0
  · rw [if_pos hv] at h; exact absurd h hv
  · rw [if_neg hv] at h
    by_cases h1 : C.length = 0 ∨ 10 < C.length
    · rw [if_pos h1] at h; omega
    · rw [if_neg h1] at h
      by_cases h2 : C.all (inR M) = true
      · exact h2
      · rw [if_neg h2] at h; omega
end Go.Proofs.Ytgnahbjpockdmab.Fac
namespace Go.Proofs.Ytgnahbjpockdmab.Loa
open Go.RowKit Go.Proofs.YtgnahbjpockdmabOwn Go.Proofs.Ytgnahbjpockdmab.Q Go.Proofs.Ytgnahbjpockdmab.Mod Go.Proofs.YtgnahbjpockdmabW.PrintWords Go.Proofs.YtgnahbjpockdmabW.PrintLast Go.Proofs.YtgnahbjpockdmabW.PrintMore
set_option linter.unusedVariables false
set_option linter.unusedSimpArgs false
def pOK (p : S49) : Bool := inB 1 1000000 p.f4 && (inB 0 255 p.f3 && (inB 0 1000000000000 p.f5 && (inB 0 1000000 p.f0 && (inB 0 1000000 p.f1 && inB 0 1000000 p.f2))))
def lessB (a b : S49) : Bool := if a.f0 = b.f0 then (if a.f1 = b.f1 then (if a.f2 = b.f2 then decide (a.f3 < b.f3) else decide (a.f2 < b.f2)) else decide (a.f1 < b.f1)) else decide (a.f0 < b.f0)
def sg (a b : Int) : Int := if a < b then -1 else if a > b then 1 else 0
theorem cmp_ok (a b : Int) : cmp_Compare_int.f a b = some (sg a b) := by
  unfold cmp_Compare_int.f cmp_isNaN_int.f sg
  simp only [bne_self_eq_false, Option.bind_some, Bool.false_eq_true, if_false]
  split
  · rfl
  · split <;> rfl
def orr (x y z t : Int) : Int := if x = 0 then (if y = 0 then (if z = 0 then (if t = 0 then 0 else t) else z) else y) else x
theorem or_ok (x y z t : Int) : Ev (fun k => cmp_Or_int.f k ([x, y, z, t] : List Int)) (orr x y z t) := by
  unfold cmp_Or_int.f orr
  have l4 : (([x, y, z, t] : List Int).length : Int) = 4 := rfl
  have r0 : rd [x, y, z, t] 0 = x := rfl
  have r1 : rd [x, y, z, t] 1 = y := rfl
  have r2 : rd [x, y, z, t] 2 = z := rfl
  have r3 : rd [x, y, z, t] 3 = t := rfl
  have w0 : wrap64 (0 + 1) = 1 := by unfold wrap64; omega
  have w1 : wrap64 (1 + 1) = 2 := by unfold wrap64; omega
  have w2 : wrap64 (2 + 1) = 3 := by unfold wrap64; omega
  have w3 : wrap64 (3 + 1) = 4 := by unfold wrap64; omega
  rw [l4]
  refine Ev.step (fun _ => rfl) ?_
  simp only [cmp_Or_int.l0, l4, r0, show (0 : Int) < 4 by omega, show (0 : Int) ≤ 0 by omega, if_true, w0]
  by_cases hx : x = 0
  case neg => simp only [hx, if_false]; exact Ev.now _
  simp only [hx, if_true]
  refine Ev.step (fun _ => rfl) ?_
  rw [hx] at l4 r0 r1 r2 r3
  simp only [cmp_Or_int.l0, l4, r1, show (1 : Int) < 4 by omega, show (0 : Int) ≤ 1 by omega, if_true, w1]
  by_cases hy : y = 0
  case neg => simp only [hy, if_false]; exact Ev.now _
  simp only [hy, if_true]
  refine Ev.step (fun _ => rfl) ?_
  rw [hy] at l4 r0 r1 r2 r3
  simp only [cmp_Or_int.l0, l4, r2, show (2 : Int) < 4 by omega, show (0 : Int) ≤ 2 by omega, if_true, w2]
  by_cases hz : z = 0
  case neg => simp only [hz, if_false]; exact Ev.now _
  simp only [hz, if_true]
  refine Ev.step (fun _ => rfl) ?_
  rw [hz] at l4 r0 r1 r2 r3
  simp only [cmp_Or_int.l0, l4, r3, show (3 : Int) < 4 by omega, show (0 : Int) ≤ 3 by omega, if_true, w3]
  by_cases ht : t = 0
  case neg => simp only [ht, if_false]; exact Ev.now _
  simp only [ht, if_true]
  refine Ev.step (fun _ => rfl) ?_
  simp only [cmp_Or_int.l0, show ¬ (4 : Int) < 4 by omega, if_false]; exact Ev.now _
theorem compare_ok (a b : S49) : ∃ c, Ev (fun k => cargo_compare.f k a.f0 a.f1 a.f2 a.f3 a.f4 a.f5 b.f0 b.f1 b.f2 b.f3 b.f4 b.f5) c ∧ decide (c ≥ 0) = !lessB a b := by
  refine ⟨orr (sg a.f0 b.f0) (sg a.f1 b.f1) (sg a.f2 b.f2) (sg a.f3 b.f3), ?_, ?_⟩
  · unfold cargo_compare.f
    simp only [cmp_ok, Option.bind_some]
    exact Ev.bind (or_ok ..) (Ev.now _)
  · unfold orr sg lessB
    by_cases h0 : a.f0 = b.f0
    · by_cases h1 : a.f1 = b.f1
      · by_cases h2 : a.f2 = b.f2
        · by_cases h3 : a.f3 < b.f3
          · simp [h0, h1, h2, h3]
          · by_cases h4 : a.f3 > b.f3
            · simp [h0, h1, h2, h3, h4]
            · simp [h0, h1, h2, h3, h4]
        · by_cases h3 : a.f2 < b.f2
          · simp [h0, h1, h2, h3]
          · simp [h0, h1, h2, h3, show a.f2 > b.f2 by omega]
      · by_cases h3 : a.f1 < b.f1
        · simp [h0, h1, h3]
        · simp [h0, h1, h3, show a.f1 > b.f1 by omega]
    · by_cases h3 : a.f0 < b.f0
      · simp [h0, h3]
      · simp [h0, h3, show a.f0 > b.f0 by omega]
theorem cwithin (a m : Int) : cargo_within.f a m = some (inB 0 m a) := by
  unfold cargo_within.f inB
  by_cases h : a ≥ 0
  · rw [if_pos h]; congr 1; rw [decide_eq_decide]; omega
  · rw [if_neg h]; congr 1; symm; rw [decide_eq_false_iff_not]; omega
theorem csound (p : S49) : cargo_sound.f p.f0 p.f1 p.f2 p.f3 p.f4 p.f5 = some (pOK p) := by
  unfold cargo_sound.f pOK
  simp only [cwithin, Option.bind_some]
  have e : inB 1 1000000 p.f4 = (decide (p.f4 ≥ 1) && decide (p.f4 ≤ 1000000)) := by unfold inB; rw [← Bool.decide_and]
  rw [e]
  by_cases h1 : p.f4 ≥ 1
  case neg => simp [h1]
  by_cases h2 : p.f4 ≤ 1000000
  case neg => simp [h1, h2]
  simp only [h1, h2, if_true, decide_true, Bool.and_self, Bool.true_and]
  cases inB 0 255 p.f3 <;> simp
  cases inB 0 1000000000000 p.f5 <;> simp
  cases inB 0 1000000 p.f0 <;> simp
  cases inB 0 1000000 p.f1 <;> simp
theorem rless (a b : S49) : hinterlandref09_less.f a.f0 a.f1 a.f2 a.f3 a.f4 a.f5 b.f0 b.f1 b.f2 b.f3 b.f4 b.f5 = some (lessB a b) := by
  unfold hinterlandref09_less.f lessB
  split
  · split
    · split <;> rfl
    · rfl
  · rfl
theorem rout (a m : Int) : hinterlandref09_Out.f a m = some (!inB 0 m a) := by
  unfold hinterlandref09_Out.f inB
  by_cases h : a < 0
  · rw [if_pos h]; congr 1; simp; omega
  · rw [if_neg h]; congr 1; by_cases h2 : a > m <;> simp [h2] <;> omega
def pAt (P : List S49) (i : Nat) : S49 := rd_T49 P (i : Int)
def goodAt (P : List S49) (i : Nat) : Bool := pOK (pAt P i) && (decide (i = 0) || lessB (rd_T49 P ((i : Int) - 1)) (pAt P i))
def lall (P : List S49) (i d : Nat) : Bool := (List.range' i d).all (goodAt P)
theorem lall_succ (P : List S49) (i d : Nat) : lall P i (d + 1) = (goodAt P i && lall P (i + 1) d) := by simp [lall, List.range'_succ]
theorem cload_loop {P : List S49} (hP : P.length ≤ 500) : ∀ (d i : Nat), i + d = P.length → Ev (fun k => cargo_Validate.l0 k P P (P.length : Int) (i : Int)) (if lall P i d then 0 else 1) := by
  intro d; induction d with
  | zero =>
    intro i hi
    refine Ev.step (fun _ => rfl) ?_
    simp only [cargo_Validate.l0, show ¬ (i : Int) < (P.length : Int) by omega, if_false, lall, List.range'_zero, List.all_nil, if_true]; exact Ev.now _
  | succ d ih =>
    intro i hi
    have hi0 : (i : Int) < (P.length : Int) := by omega
    have i0 : (0 : Int) ≤ (i : Int) := by omega
    have wi : wrap64 ((i : Int) + 1) = ((i + 1 : Nat) : Int) := by rw [w64_in (by omega) (by omega)]; omega
    have w1 : wrap64 ((i : Int) - 1) = (i : Int) - 1 := w64_in (by omega) (by omega)
    rw [lall_succ]
    have tail : ∀ b, b = !goodAt P i → Ev (fun k => cargo_Validate.j1 k P P (P.length : Int) (i : Int) b) (if (goodAt P i && lall P (i + 1) d) = true then 0 else 1) := by
      rintro b rfl
      refine Ev.step (fun _ => rfl) ?_
      cases hg : goodAt P i with
      | true =>
        simp only [cargo_Validate.j1, Bool.not_true, Bool.false_eq_true, if_false, wi, Bool.true_and]
        exact ih (i + 1) (by omega)
      | false => simp only [cargo_Validate.j1, Bool.not_false, if_true, Bool.false_and, Bool.false_eq_true, if_false]; exact Ev.now _
    refine Ev.step (fun _ => rfl) ?_
    simp only [cargo_Validate.l0, hi0, i0, if_true, csound, Option.bind_some]
    cases hp : pOK (rd_T49 P (i : Int)) with
    | false =>
      simp only [Bool.false_eq_true, if_false]
      exact tail true (by unfold goodAt pAt; rw [hp]; rfl)
    | true =>
      simp only [if_true]
      by_cases hz : i = 0
      · simp only [show ¬ (i : Int) > 0 by omega, if_false]
        exact tail false (by unfold goodAt pAt; rw [hp]; simp [hz])
      · obtain ⟨c, c1, c2⟩ := compare_ok (rd_T49 P ((i : Int) - 1)) (rd_T49 P (i : Int))
        simp only [show (i : Int) > 0 by omega, if_true, w1, show 0 ≤ (i : Int) - 1 by omega, show (i : Int) - 1 < (P.length : Int) by omega]
        refine Ev.bind c1 ?_
        exact tail _ (by unfold goodAt pAt; rw [hp, c2]; simp [hz])
theorem rload_loop {P : List S49} (hP : P.length ≤ 500) : ∀ (d i : Nat), i + d = P.length → Ev (fun k => hinterlandref09_Validate.l0 k P (i : Int)) (if lall P i d then 0 else 1) := by
  intro d; induction d with
  | zero =>
    intro i hi
    refine Ev.step (fun _ => rfl) ?_
    simp only [hinterlandref09_Validate.l0, show ¬ (i : Int) < (P.length : Int) by omega, if_false, lall, List.range'_zero, List.all_nil, if_true]; exact Ev.now _
  | succ d ih =>
    intro i hi
    have hi0 : (i : Int) < (P.length : Int) := by omega
    have i0 : (0 : Int) ≤ (i : Int) := by omega
    have wi : wrap64 ((i : Int) + 1) = ((i + 1 : Nat) : Int) := by rw [w64_in (by omega) (by omega)]; omega
    have w1 : wrap64 ((i : Int) - 1) = (i : Int) - 1 := w64_in (by omega) (by omega)
    rw [lall_succ]
    have tail : ∀ b, b = !goodAt P i → Ev (fun k => hinterlandref09_Validate.j1 k P (i : Int) b) (if (goodAt P i && lall P (i + 1) d) = true then 0 else 1) := by
      rintro b rfl
      refine Ev.step (fun _ => rfl) ?_
      cases hg : goodAt P i with
      | true =>
        simp only [hinterlandref09_Validate.j1, Bool.not_true, Bool.false_eq_true, if_false, wi, Bool.true_and]
        exact ih (i + 1) (by omega)
      | false => simp only [hinterlandref09_Validate.j1, Bool.not_false, if_true, Bool.false_and, Bool.false_eq_true, if_false]; exact Ev.now _
    have rest : (decide (i = 0) || lessB (rd_T49 P ((i : Int) - 1)) (rd_T49 P (i : Int))) = true → Ev (fun k => if (rd_T49 P (i : Int)).f4 < 1 then hinterlandref09_Validate.j1 k P (i : Int) true else if (rd_T49 P (i : Int)).f4 > 1000000 then hinterlandref09_Validate.j1 k P (i : Int) true else (hinterlandref09_Out.f (rd_T49 P (i : Int)).f3 255).bind fun t379 => (if t379 = true then (hinterlandref09_Validate.j1 k P (i : Int) true) else ((hinterlandref09_Out.f ((rd_T49 P (i : Int)).f5) 1000000000000).bind fun t380 => (if t380 = true then (hinterlandref09_Validate.j1 k P (i : Int) true) else ((hinterlandref09_Out.f ((rd_T49 P (i : Int)).f0) 1000000).bind fun t381 => (if t381 = true then (hinterlandref09_Validate.j1 k P (i : Int) true) else ((hinterlandref09_Out.f ((rd_T49 P (i : Int)).f1) 1000000).bind fun t382 => (if t382 = true then (hinterlandref09_Validate.j1 k P (i : Int) true) else ((hinterlandref09_Out.f ((rd_T49 P (i : Int)).f2) 1000000).bind fun t383 => (hinterlandref09_Validate.j1 k P (i : Int) t383)))))))))) (if (goodAt P i && lall P (i + 1) d) = true then 0 else 1) := by
      intro hq
      have e : inB 1 1000000 (rd_T49 P (i : Int)).f4 = (decide ((rd_T49 P (i : Int)).f4 ≥ 1) && decide ((rd_T49 P (i : Int)).f4 ≤ 1000000)) := by unfold inB; rw [← Bool.decide_and]
      simp only [rout, Option.bind_some]
      by_cases h1 : (rd_T49 P (i : Int)).f4 < 1
      · simp only [h1, if_true]
        exact tail true (by unfold goodAt pAt pOK; rw [e]; simp [show ¬ 1 ≤ (rd_T49 P (i : Int)).f4 by omega])
      simp only [h1, if_false]
      by_cases h2 : (rd_T49 P (i : Int)).f4 > 1000000
      · simp only [h2, if_true]
        exact tail true (by unfold goodAt pAt pOK; rw [e]; simp [show ¬ (rd_T49 P (i : Int)).f4 ≤ 1000000 by omega])
      simp only [h2, if_false]
      have hg : goodAt P i = (inB 0 255 (rd_T49 P (i : Int)).f3 && (inB 0 1000000000000 (rd_T49 P (i : Int)).f5 && (inB 0 1000000 (rd_T49 P (i : Int)).f0 && (inB 0 1000000 (rd_T49 P (i : Int)).f1 && inB 0 1000000 (rd_T49 P (i : Int)).f2)))) := by
        unfold goodAt pAt pOK
        rw [hq, e, Bool.and_true]
        simp [show 1 ≤ (rd_T49 P (i : Int)).f4 by omega, show (rd_T49 P (i : Int)).f4 ≤ 1000000 by omega]
      cases a1 : inB 0 255 (rd_T49 P (i : Int)).f3 with
      | false => simp only [Bool.not_false, if_true]; exact tail true (by rw [hg, a1]; rfl)
      | true =>
        simp only [Bool.not_true, Bool.false_eq_true, if_false]
        cases a2 : inB 0 1000000000000 (rd_T49 P (i : Int)).f5 with
        | false => simp only [Bool.not_false, if_true]; exact tail true (by rw [hg, a1, a2]; rfl)
        | true =>
          simp only [Bool.not_true, Bool.false_eq_true, if_false]
          cases a3 : inB 0 1000000 (rd_T49 P (i : Int)).f0 with
          | false => simp only [Bool.not_false, if_true]; exact tail true (by rw [hg, a1, a2, a3]; rfl)
          | true =>
            simp only [Bool.not_true, Bool.false_eq_true, if_false]
            cases a4 : inB 0 1000000 (rd_T49 P (i : Int)).f1 with
            | false => simp only [Bool.not_false, if_true]; exact tail true (by rw [hg, a1, a2, a3, a4]; rfl)
            | true =>
              simp only [Bool.not_true, Bool.false_eq_true, if_false]
              exact tail _ (by rw [hg, a1, a2, a3, a4]; rfl)
    refine Ev.step (fun _ => rfl) ?_
    simp only [hinterlandref09_Validate.l0, hi0, i0, if_true]
    by_cases hz : i = 0
    · simp only [show ¬ (i : Int) > 0 by omega, if_false]
      exact rest (by simp [hz])
    · simp only [show (i : Int) > 0 by omega, if_true, w1, show 0 ≤ (i : Int) - 1 by omega, show (i : Int) - 1 < (P.length : Int) by omega, rless, Option.bind_some]
      cases hl : lessB (rd_T49 P ((i : Int) - 1)) (rd_T49 P (i : Int)) with
      | true => simp only [if_true]; exact rest (by rw [hl]; simp)
      | false =>
        simp only [Bool.false_eq_true, if_false]
        exact tail true (by unfold goodAt pAt; rw [hl]; simp [hz])
/-- The first error of a load. -/
def lr (P : List S49) : Int := if 200 < P.length then 4 else if lall P 0 P.length then 0 else 1
theorem cload {P : List S49} (hP : P.length ≤ 500) : Ev (fun k => cargo_Validate.f k P) (lr P) := by
  unfold cargo_Validate.f lr
  by_cases h : 200 < P.length
  · simp only [show (P.length : Int) > 200 by omega, h, if_true]; exact Ev.now _
  · simp only [show ¬ (P.length : Int) > 200 by omega, h, if_false]; exact cload_loop hP P.length 0 (by omega)
theorem rload {P : List S49} (hP : P.length ≤ 500) : Ev (fun k => hinterlandref09_Validate.f k P) (lr P) := by
  unfold hinterlandref09_Validate.f lr
  by_cases h : 200 < P.length
  · simp only [show (P.length : Int) > 200 by omega, h, if_true]; exact Ev.now _
  · simp only [show ¬ (P.length : Int) > 200 by omega, h, if_false]; exact rload_loop hP P.length 0 (by omega)
end Go.Proofs.Ytgnahbjpockdmab.Loa
namespace Go.Proofs.Ytgnahbjpockdmab.Val
open Go.RowKit Go.Proofs.YtgnahbjpockdmabOwn Go.Proofs.Ytgnahbjpockdmab.Q Go.Proofs.Ytgnahbjpockdmab.Mod Go.Proofs.Ytgnahbjpockdmab.Vm Go.Proofs.Ytgnahbjpockdmab.Fac Go.Proofs.Ytgnahbjpockdmab.Loa Go.Proofs.YtgnahbjpockdmabW.PrintWords Go.Proofs.YtgnahbjpockdmabW.PrintLast Go.Proofs.YtgnahbjpockdmabW.PrintMore
set_option linter.unusedVariables false
set_option linter.unusedSimpArgs false
def rm (M : List S52) (C : List Int) (j : Nat) : Int := (rd_T52 M (rd C (j : Int))).f7
def fitB (M : List S52) (C F : List Int) (j : Nat) : Bool := !(decide (rm M C j = 0) && (rd F (j : Int) != -1))
def rngB (age since trust broken : Int) : Bool := (inB 0 100000 age && inB 0 100000 since) && (inB 0 1000 trust && inB 0 1000000 broken)
def endB (age since trust broken : Int) (P : List S49) : Bool := rngB age since trust broken && decide (lr P = 0)
/-- The first error of a vehicle, behind that of its models. -/
def vr (v : Int) (M : List S52) (C F : List Int) (age since trust broken : Int) (P : List S49) : Int :=
  if jr v M C ≠ 0 then jr v M C else if F.length = C.length then (if (F.all (inB (-1) 15) && ((List.range' 0 C.length).all (fitB M C F) && endB age since trust broken P)) = true then 0 else 1) else 1
theorem all_range (p : Int → Bool) (l : List Int) : ∀ (d i : Nat), i + d = l.length → (l.drop i).all p = (List.range' i d).all (fun j => p (rd l (j : Int))) := by
  intro d; induction d with
  | zero => intro i hi; rw [List.drop_of_length_le (by omega)]; simp
  | succ d ih => intro i hi; rw [drop_at hi, List.all_cons, List.range'_succ, List.all_cons, ih (i + 1) (by omega)]
theorem all_and (p q : Nat → Bool) (l : List Nat) : l.all (fun j => p j && q j) = (l.all p && l.all q) := by
  induction l with
  | nil => rfl
  | cons x l ih => simp only [List.all_cons, ih]; cases p x <;> cases q x <;> simp
theorem j3_ok (b : Bool) : Ev (fun k => fleet_Validate.j3 k (!b)) (if b = true then 0 else 1) := by
  refine Ev.step (fun _ => rfl) ?_
  cases b with
  | true => simp only [fleet_Validate.j3, Bool.not_true, Bool.false_eq_true, if_false, if_true]; exact Ev.now _
  | false => simp only [fleet_Validate.j3, Bool.not_false, Bool.false_eq_true, if_false, if_true]; exact Ev.now _
theorem rj2_ok (b : Bool) : Ev (fun k => hinterlandref14_Validate.j2 k (!b)) (if b = true then 0 else 1) := by
  refine Ev.step (fun _ => rfl) ?_
  cases b with
  | true => simp only [hinterlandref14_Validate.j2, Bool.not_true, Bool.false_eq_true, if_false, if_true]; exact Ev.now _
  | false => simp only [hinterlandref14_Validate.j2, Bool.not_false, Bool.false_eq_true, if_false, if_true]; exact Ev.now _
theorem ne_dec (x : Int) : (x != 0) = !decide (x = 0) := by by_cases h : x = 0 <;> simp [h]
section
variable {M : List S52} {C F : List Int} {age since trust broken : Int} {P : List S49}
theorem vend (hP : P.length ≤ 500) : Ev (fun k => (fleet_within.f k 0 100000 (([age, since] : List Int))).bind fun t402 => (if t402 = true then ((fleet_within.f k 0 1000 (([trust] : List Int))).bind fun t406 => (if t406 = true then ((fleet_within.f k 0 1000000 (([broken] : List Int))).bind fun t410 => (if t410 = true then ((cargo_Validate.f k P).bind fun t411 => (fleet_Validate.j3 k (t411 != 0))) else (fleet_Validate.j3 k true))) else (fleet_Validate.j3 k true))) else (fleet_Validate.j3 k true))) (if endB age since trust broken P = true then 0 else 1) := by
  have bad : Ev (fun k => fleet_Validate.j3 k true) (1 : Int) := j3_ok false
  unfold endB rngB
  refine Ev.bind (within2 ..) ?_
  cases (inB 0 100000 age && inB 0 100000 since) with
  | false => simp only [Bool.false_eq_true, if_false, Bool.false_and]; exact bad
  | true =>
    simp only [if_true, Bool.true_and]
    refine Ev.bind (within1 ..) ?_
    cases inB 0 1000 trust with
    | false => simp only [Bool.false_eq_true, if_false, Bool.false_and]; exact bad
    | true =>
      simp only [if_true, Bool.true_and]
      refine Ev.bind (within1 ..) ?_
      cases inB 0 1000000 broken with
      | false => simp only [Bool.false_eq_true, if_false, Bool.false_and]; exact bad
      | true =>
        simp only [if_true, Bool.true_and]
        refine Ev.bind (cload hP) ?_
        rw [ne_dec]; exact j3_ok _
theorem rvend (hP : P.length ≤ 500) : Ev (fun k => (hinterlandref14_within.f age 0 100000).bind fun t418 => (if t418 = true then ((hinterlandref14_within.f since 0 100000).bind fun t419 => (if t419 = true then ((hinterlandref14_within.f trust 0 1000).bind fun t420 => (if t420 = true then ((hinterlandref14_within.f broken 0 1000000).bind fun t421 => (if t421 = true then ((hinterlandref09_Validate.f k P).bind fun t422 => (hinterlandref14_Validate.j2 k (t422 != 0))) else (hinterlandref14_Validate.j2 k true))) else (hinterlandref14_Validate.j2 k true))) else (hinterlandref14_Validate.j2 k true))) else (hinterlandref14_Validate.j2 k true))) (if endB age since trust broken P = true then 0 else 1) := by
  have bad : Ev (fun k => hinterlandref14_Validate.j2 k true) (1 : Int) := rj2_ok false
  unfold endB rngB
  simp only [rwithin, Option.bind_some]
  cases inB 0 100000 age with
  | false => simp only [Bool.false_eq_true, if_false, Bool.false_and]; exact bad
  | true =>
    simp only [if_true, Bool.true_and]
    cases inB 0 100000 since with
    | false => simp only [Bool.false_eq_true, if_false, Bool.false_and]; exact bad
    | true =>
      simp only [if_true, Bool.true_and]
      cases inB 0 1000 trust with
      | false => simp only [Bool.false_eq_true, if_false, Bool.false_and]; exact bad
      | true =>
        simp only [if_true, Bool.true_and]
        cases inB 0 1000000 broken with
        | false => simp only [Bool.false_eq_true, if_false, Bool.false_and]; exact bad
        | true =>
          simp only [if_true, Bool.true_and]
          refine Ev.bind (rload hP) ?_
          rw [ne_dec]; exact rj2_ok _
theorem vloop (hC : C.length ≤ 500) (hP : P.length ≤ 500) (hr : C.all (inR M) = true) (hF : F.length = C.length) : ∀ (d i : Nat), i + d = C.length → Ev (fun k => fleet_Validate.l0 k M C (C.length : Int) (i : Int) C F age since trust broken P) (if ((List.range' i d).all (fitB M C F) && endB age since trust broken P) = true then 0 else 1) := by
  intro d; induction d with
  | zero =>
    intro i hi
    refine Ev.step (fun _ => rfl) ?_
    simp only [fleet_Validate.l0, show ¬ (i : Int) < (C.length : Int) by omega, if_false, List.range'_zero, List.all_nil, Bool.true_and]
    exact vend hP
  | succ d ih =>
    intro i hi
    have hi0 : (i : Int) < (C.length : Int) := by omega
    have i0 : (0 : Int) ≤ (i : Int) := by omega
    have hiF : (i : Int) < (F.length : Int) := by omega
    have wi : wrap64 ((i : Int) + 1) = ((i + 1 : Nat) : Int) := by rw [w64_in (by omega) (by omega)]; omega
    have hx := all_rd hr (show i < C.length by omega)
    unfold inR at hx; have hx := of_decide_eq_true hx
    rw [List.range'_succ, List.all_cons]
    have tail : Ev (fun k => fleet_Validate.j2 k M C (C.length : Int) (i : Int) (!fitB M C F i) C F age since trust broken P) (if ((fitB M C F i && (List.range' (i + 1) d).all (fitB M C F)) && endB age since trust broken P) = true then 0 else 1) := by
      refine Ev.step (fun _ => rfl) ?_
      cases hb : fitB M C F i with
      | true =>
        simp only [fleet_Validate.j2, Bool.not_true, Bool.false_eq_true, if_false, wi, Bool.true_and]
        exact ih (i + 1) (by omega)
      | false => simp only [fleet_Validate.j2, Bool.not_false, if_true, Bool.false_and, Bool.false_eq_true, if_false]; exact Ev.now _
    refine Ev.step (fun _ => rfl) ?_
    simp only [fleet_Validate.l0, hi0, i0, hx.1, hx.2, if_true]
    by_cases h : (rd_T52 M (rd C (i : Int))).f7 = 0
    · have e : (!fitB M C F i) = (rd F (i : Int) != -1) := by unfold fitB rm; rw [h]; simp
      rw [e] at tail
      simp only [h, if_true, hiF]; exact tail
    · have e : (!fitB M C F i) = false := by unfold fitB rm; simp [h]
      rw [e] at tail
      simp only [h, if_false]; exact tail
theorem rvloop (hC : C.length ≤ 500) (hP : P.length ≤ 500) (hr : C.all (inR M) = true) (hF : F.length = C.length) : ∀ (d i : Nat), i + d = F.length → Ev (fun k => hinterlandref14_Validate.l0 k M F (F.length : Int) (i : Int) C F age since trust broken P) (if ((List.range' i d).all (fun j => inB (-1) 15 (rd F (j : Int)) && fitB M C F j) && endB age since trust broken P) = true then 0 else 1) := by
  intro d; induction d with
  | zero =>
    intro i hi
    refine Ev.step (fun _ => rfl) ?_
    simp only [hinterlandref14_Validate.l0, show ¬ (i : Int) < (F.length : Int) by omega, if_false, List.range'_zero, List.all_nil, Bool.true_and]
    exact rvend hP
  | succ d ih =>
    intro i hi
    have hi0 : (i : Int) < (F.length : Int) := by omega
    have i0 : (0 : Int) ≤ (i : Int) := by omega
    have hiC : (i : Int) < (C.length : Int) := by omega
    have wi : wrap64 ((i : Int) + 1) = ((i + 1 : Nat) : Int) := by rw [w64_in (by omega) (by omega)]; omega
    have hx := all_rd hr (show i < C.length by omega)
    unfold inR at hx; have hx := of_decide_eq_true hx
    rw [List.range'_succ, List.all_cons]
    have tail : ∀ b, b = !(inB (-1) 15 (rd F (i : Int)) && fitB M C F i) → Ev (fun k => hinterlandref14_Validate.j1 k M F (F.length : Int) (i : Int) b C F age since trust broken P) (if (((inB (-1) 15 (rd F (i : Int)) && fitB M C F i) && (List.range' (i + 1) d).all (fun j => inB (-1) 15 (rd F (j : Int)) && fitB M C F j)) && endB age since trust broken P) = true then 0 else 1) := by
      rintro b rfl
      refine Ev.step (fun _ => rfl) ?_
      cases hb : (inB (-1) 15 (rd F (i : Int)) && fitB M C F i) with
      | true =>
        simp only [hinterlandref14_Validate.j1, Bool.not_true, Bool.false_eq_true, if_false, wi, Bool.true_and]
        exact ih (i + 1) (by omega)
      | false => simp only [hinterlandref14_Validate.j1, Bool.not_false, if_true, Bool.false_and, Bool.false_eq_true, if_false]; exact Ev.now _
    refine Ev.step (fun _ => rfl) ?_
    simp only [hinterlandref14_Validate.l0, hi0, i0, if_true, rwithin, Option.bind_some]
    cases hw : inB (-1) 15 (rd F (i : Int)) with
    | false => simp only [Bool.false_eq_true, if_false]; have := tail true (by rw [hw]; rfl); rw [hw] at this; exact this
    | true =>
      simp only [if_true]
      by_cases h : rd F (i : Int) = -1
      · simp only [h, if_true]
        have := tail false (by rw [hw]; unfold fitB; rw [h]; simp)
        rw [hw] at this; exact this
      · simp only [h, if_false, hiC, hx.1, hx.2, if_true]
        have := tail ((rd_T52 M (rd C (i : Int))).f7 == 0) (by
          rw [hw]; unfold fitB rm
          have : (rd F (i : Int) != -1) = true := bne_iff_ne.2 h
          rw [this]
          by_cases h7 : (rd_T52 M (rd C (i : Int))).f7 = 0 <;> simp [h7])
        rw [hw] at this; exact this
theorem valid_ok {v : Int} (hC : C.length ≤ 500) (hF5 : F.length ≤ 500) (hP : P.length ≤ 500) (hv : Ev (fun k => fleet_ValidateModels.f k M) v) : Ev (fun k => fleet_Validate.f k M C F age since trust broken P) (vr v M C F age since trust broken P) := by
  unfold fleet_Validate.f vr
  have bad : Ev (fun k => fleet_Validate.j0 k M true C F age since trust broken P) (1 : Int) := by
    refine Ev.step (fun _ => rfl) ?_
    simp only [fleet_Validate.j0, if_true]; exact Ev.now _
  refine Ev.bind (jl_ok hC hv) ?_
  by_cases h : jr v M C = 0
  · simp only [h, if_true, ne_eq, not_true_eq_false, if_false]
    by_cases hF : F.length = C.length
    · simp only [show ((F.length : Int) = (C.length : Int)) by omega, if_true, hF]
      refine Ev.bind (within_ok _ _ (by omega)) ?_
      cases hw : F.all (inB (-1) 15) with
      | false => simp only [Bool.not_false, Bool.false_and, Bool.false_eq_true, if_false]; exact bad
      | true =>
        simp only [Bool.not_true, Bool.true_and]
        refine Ev.step (fun _ => rfl) ?_
        simp only [fleet_Validate.j0, Bool.false_eq_true, if_false]
        exact vloop hC hP (jr_all h) hF C.length 0 (by omega)
    · simp only [show ¬ ((F.length : Int) = (C.length : Int)) by omega, if_false, hF]; exact bad
  · simp only [h, if_false, ne_eq, not_false_eq_true, if_true]; exact Ev.now _
theorem rvalid_ok {v : Int} (hC : C.length ≤ 500) (hF5 : F.length ≤ 500) (hP : P.length ≤ 500) (hv : Ev (fun k => hinterlandref14_ValidateModels.f k M) v) : Ev (fun k => hinterlandref14_Validate.f k M C F age since trust broken P) (vr v M C F age since trust broken P) := by
  unfold hinterlandref14_Validate.f vr
  refine Ev.bind (cl_ok hC hv) ?_
  by_cases h : jr v M C = 0
  · simp only [h, if_true, ne_eq, not_true_eq_false, if_false]
    by_cases hF : F.length = C.length
    · simp only [show ((F.length : Int) = (C.length : Int)) by omega, if_true]
      have := rvloop (age := age) (since := since) (trust := trust) (broken := broken) hC hP (jr_all h) hF F.length 0 (by omega)
      rw [all_and, ← all_range (inB (-1) 15) F F.length 0 (by omega), List.drop_zero, Bool.and_assoc, hF] at this
      rw [if_pos hF, ← hF]; rw [← hF] at this; exact this
    · simp only [show ¬ ((F.length : Int) = (C.length : Int)) by omega, if_false, hF]; exact Ev.now _
  · simp only [h, if_false, ne_eq, not_false_eq_true, if_true]; exact Ev.now _
structure Car (M : List S52) (C F : List Int) (age since trust broken : Int) (P : List S49) : Prop where
  fit : FitC M C
  len : F.length = C.length
  fin : F.all (inB (-1) 15) = true
  fits : (List.range' 0 C.length).all (fitB M C F) = true
  age : 0 ≤ age ∧ age ≤ 100000
  since : 0 ≤ since ∧ since ≤ 100000
  trust : 0 ≤ trust ∧ trust ≤ 1000
  broken : 0 ≤ broken ∧ broken ≤ 1000000
  load : lr P = 0
theorem vr_zero {v : Int} (hg : v = 0 → GoodM M) (h : vr v M C F age since trust broken P = 0) : v = 0 ∧ jr v M C = 0 ∧ Car M C F age since trust broken P := by
  unfold vr at h
  by_cases hj : jr v M C = 0
  · rw [if_neg (by simpa using hj)] at h
    by_cases hF : F.length = C.length
    · rw [if_pos hF] at h
      cases hb : (F.all (inB (-1) 15) && ((List.range' 0 C.length).all (fitB M C F) && endB age since trust broken P)) with
      | false => rw [hb] at h; simp at h
      | true =>
        unfold endB rngB at hb
        simp only [Bool.and_eq_true, inB_true, decide_eq_true_eq] at hb
        obtain ⟨a, b, ⟨⟨c, d⟩, e, f⟩, g⟩ := hb
        obtain ⟨hv, ft⟩ := jr_zero hg hj
        exact ⟨hv, hj, ft, hF, a, b, c, d, e, f, g⟩
    · rw [if_neg hF] at h; omega
  · rw [if_pos hj] at h; exact absurd h hj
theorem Car.vr {v : Int} (c : Car M C F age since trust broken P) (hj : jr v M C = 0) : vr v M C F age since trust broken P = 0 := by
  unfold Val.vr
  rw [if_neg (by simpa using hj), if_pos c.len]
  have : endB age since trust broken P = true := by
    unfold endB rngB
    simp only [Bool.and_eq_true, inB_true, decide_eq_true_eq]
    exact ⟨⟨⟨c.age, c.since⟩, c.trust, c.broken⟩, c.load⟩
  rw [c.fin, c.fits, this]; rfl
end
end Go.Proofs.Ytgnahbjpockdmab.Val
namespace Go.Proofs.Ytgnahbjpockdmab.Rcl
open Go.RowKit Go.Proofs.YtgnahbjpockdmabOwn Go.Proofs.Ytgnahbjpockdmab.Q Go.Proofs.Ytgnahbjpockdmab.Mod Go.Proofs.Ytgnahbjpockdmab.Vm Go.Proofs.Ytgnahbjpockdmab.Fac Go.Proofs.Ytgnahbjpockdmab.Loa Go.Proofs.Ytgnahbjpockdmab.Val Go.Proofs.YtgnahbjpockdmabW.PrintWords Go.Proofs.YtgnahbjpockdmabW.PrintLast Go.Proofs.YtgnahbjpockdmabW.PrintMore
set_option linter.unusedVariables false
set_option linter.unusedSimpArgs false
theorem okB_bounds {m : S52} (h : okB m = true) : (-1 ≤ m.f6 ∧ m.f6 ≤ 15) ∧ (0 ≤ m.f7 ∧ m.f7 ≤ 1000) ∧ (0 ≤ m.f9 ∧ m.f9 ≤ 10000000) ∧ (1 ≤ m.f11 ∧ m.f11 ≤ 100) ∧ (0 ≤ m.f12 ∧ m.f12 ≤ 1000) := by
  unfold okB at h
  simp only [Bool.and_eq_true, inB_true] at h
  obtain ⟨⟨⟨⟨⟨⟨⟨⟨⟨⟨⟨⟨h0, h1⟩, h2⟩, h3⟩, h4⟩, h5⟩, h6⟩, h7⟩, h8⟩, h9⟩, h10⟩, h11⟩, h12⟩ := h
  exact ⟨h6, h7, h9, h11, h12⟩
theorem list_self {l : List Int} (hl : l.length < 1000000000) : ∀ (d : Nat) (i : Int), 0 ≤ i → i + d = l.length → Ev (fun k => hinterlandsame_List_int.l0 k l l i) true := by
  intro d; induction d with
  | zero =>
    intro i i0 hd
    refine Ev.step (fun _ => rfl) ?_
    simp only [hinterlandsame_List_int.l0, show ¬ i < (l.length : Int) by omega, if_false]; exact Ev.now _
  | succ d ih =>
    intro i i0 hd
    refine Ev.step (fun _ => rfl) ?_
    simp only [hinterlandsame_List_int.l0, show i < (l.length : Int) by omega, i0, if_true, show wrap64 (i + 1) = i + 1 from w64_in (by omega) (by omega)]
    exact ih (i + 1) (by omega) (by omega)
theorem ints_self {l : List Int} (hl : l.length < 1000000000) : Ev (fun k => hinterlandsame_List_int.f k l l) true := by
  unfold hinterlandsame_List_int.f
  simp only [if_true]
  exact list_self hl l.length 0 (by omega) (by omega)
theorem parcels_loop {l : List S49} (hl : l.length < 1000000000) : ∀ (d : Nat) (i : Int), 0 ≤ i → i + d = l.length → Ev (fun k => api_Parcel.l0 k l l i) true := by
  intro d; induction d with
  | zero =>
    intro i i0 hd
    refine Ev.step (fun _ => rfl) ?_
    simp only [api_Parcel.l0, show ¬ i < (l.length : Int) by omega, if_false]; exact Ev.now _
  | succ d ih =>
    intro i i0 hd
    refine Ev.step (fun _ => rfl) ?_
    simp only [api_Parcel.l0, show i < (l.length : Int) by omega, i0, if_true, show wrap64 (i + 1) = i + 1 from w64_in (by omega) (by omega), beq_self_eq_true, Bool.not_true, Bool.or_self, Bool.false_eq_true, if_false]
    exact ih (i + 1) (by omega) (by omega)
theorem parcels_self {l : List S49} (hl : l.length < 1000000000) : Ev (fun k => api_Parcel.f k l l) true := by
  unfold api_Parcel.f
  simp only [if_true]
  exact parcels_loop hl l.length 0 (by omega) (by omega)
theorem car_self {A B : List Int} (a b c d : Int) {P : List S49} (hA : A.length < 1000000000) (hB : B.length < 1000000000) (hP : P.length < 1000000000) : Ev (fun k => hinterlandsame_Car.f k A B a b c d P A B a b c d P) true := by
  unfold hinterlandsame_Car.f
  refine Ev.bind (ints_self hA) ?_
  simp only [if_true]
  refine Ev.bind (ints_self hB) ?_
  simp only [if_true]
  exact Ev.bind (parcels_self hP) (Ev.now _)
section
variable {C F : List Int} {age since trust broken : Int} {P : List S49}
theorem clone_ok (hC : C.length ≤ 500) (hF : F.length ≤ 500) (hP : P.length ≤ 500) : fleet_clone.f C F age since trust broken P = some (C, F, age, since, trust, broken, P) := by
  unfold fleet_clone.f
  simp only [List.nil_append]
  rw [if_pos (by simp; omega), if_pos (by simp; omega), if_pos (by simp; omega)]
theorem again_ok (hC : C.length ≤ 500) (hF : F.length ≤ 500) (hP : P.length ≤ 500) : hinterlandref14_again.f C F age since trust broken P = some (C, F, age, since, trust, broken, P) := by
  unfold hinterlandref14_again.f
  simp only [List.nil_append]
  rw [if_pos (by simp; omega), if_pos (by simp; omega), if_pos (by simp; omega)]
end
end Go.Proofs.Ytgnahbjpockdmab.Rcl
namespace Go.Proofs.Ytgnahbjpockdmab.Known
open Go.RowKit Go.Proofs.YtgnahbjpockdmabOwn Go.Proofs.Ytgnahbjpockdmab.Q Go.Proofs.YtgnahbjpockdmabW.PrintWords Go.Proofs.YtgnahbjpockdmabW.PrintLast Go.Proofs.YtgnahbjpockdmabW.PrintMore
set_option linter.unusedVariables false
set_option linter.unusedSimpArgs false
theorem known_ev : Ev (fun k => hinterlandlaw14_known.f k) true := Ev.of hinterlandlaw14_known.mono (k := 200) (by decide +kernel)
end Go.Proofs.Ytgnahbjpockdmab.Known
namespace Go.Proofs.Ytgnahbjpockdmab.Pure
open Go.RowKit Go.Proofs.YtgnahbjpockdmabOwn Go.Proofs.Ytgnahbjpockdmab.Q Go.Proofs.Ytgnahbjpockdmab.Mod Go.Proofs.Ytgnahbjpockdmab.Vm Go.Proofs.Ytgnahbjpockdmab.Fac Go.Proofs.Ytgnahbjpockdmab.Loa Go.Proofs.Ytgnahbjpockdmab.Val Go.Proofs.Ytgnahbjpockdmab.Rcl Go.Proofs.Ytgnahbjpockdmab.Known Go.Proofs.YtgnahbjpockdmabW.PrintWords Go.Proofs.YtgnahbjpockdmabW.PrintLast Go.Proofs.YtgnahbjpockdmabW.PrintMore
set_option linter.unusedVariables false
set_option linter.unusedSimpArgs false
def ca (m : S52) : Int := if m.f7 = 0 then -1 else m.f6
theorem fit_ca (m : S52) : fleet_fit.f m.f0 m.f1 m.f2 m.f3 m.f4 m.f5 m.f6 m.f7 m.f8 m.f9 m.f10 m.f11 m.f12 m.f13 = some (ca m) := by unfold fleet_fit.f ca; split <;> rfl
theorem carries_ca (m : S52) : hinterlandref14_carries.f m.f0 m.f1 m.f2 m.f3 m.f4 m.f5 m.f6 m.f7 m.f8 m.f9 m.f10 m.f11 m.f12 m.f13 = some (ca m) := by unfold hinterlandref14_carries.f ca; split <;> rfl
def wv (age : Int) (m : S52) : Int := wrap64 (Int.tdiv (wrap64 (m.f9 * mx (wrap64 (wrap64 (730 * m.f11) - age)) 0)) (wrap64 (730 * m.f11)))
theorem worth_wv {m : S52} (h : okB m = true) (age : Int) : fleet_worth.f m.f0 m.f1 m.f2 m.f3 m.f4 m.f5 m.f6 m.f7 m.f8 m.f9 m.f10 m.f11 m.f12 m.f13 age = some (wv age m) := by
  have hl := (okB_bounds h).2.2.2.1
  have hz : ¬ wrap64 (730 * m.f11) = 0 := by rw [w64_in (by omega) (by omega)]; omega
  unfold fleet_worth.f wv; rw [if_neg hz]
theorem value_wv {m : S52} (h : okB m = true) (age : Int) : hinterlandref14_value.f m.f0 m.f1 m.f2 m.f3 m.f4 m.f5 m.f6 m.f7 m.f8 m.f9 m.f10 m.f11 m.f12 m.f13 age = some (wv age m) := by
  have hl := (okB_bounds h).2.2.2.1
  have hz : ¬ wrap64 (730 * m.f11) = 0 := by rw [w64_in (by omega) (by omega)]; omega
  unfold hinterlandref14_value.f wv; rw [if_neg hz]
theorem rd_set (l : List Int) (v : Int) (i j : Nat) : rd (l.set i v) (j : Int) = if j = i ∧ i < l.length then v else rd l (j : Int) := by
  unfold rd
  simp only [Int.toNat_natCast, List.getD_eq_getElem?_getD, List.getElem?_set]
  by_cases h : i = j
  · subst h
    by_cases h2 : i < l.length
    · simp [h2]
    · simp [h2]
  · rw [if_neg h, if_neg (by omega)]
theorem all_of {l : List Int} {p : Int → Bool} (h : ∀ j : Nat, j < l.length → p (rd l (j : Int)) = true) : l.all p = true := by
  rw [List.all_eq_true]; intro x hx
  obtain ⟨j, hj, rfl⟩ := List.getElem_of_mem hx
  have := h j hj
  unfold rd at this
  rw [List.getD_eq_getElem?_getD, List.getElem?_eq_getElem (by simpa using hj)] at this
  simpa using this
abbrev RT := List Int × List Int × Int × Int × Int × Int × List S49 × Int × Int
section
variable {M : List S52} {C F X Y : List Int} {age since trust broken v a b n : Int} {P : List S49} {h : Bool}
/-- A car's rows while models are put in: each lies right. -/
structure J (M : List S52) (C : List Int) (b : Int) (X Y : List Int) : Prop where
  x : X.length = C.length
  y : Y.length = C.length
  r : ∀ j : Nat, j < C.length → 0 ≤ rd X (j : Int) ∧ rd X (j : Int) < (M.length : Int)
  k : kindOf M b = kindOf M (rd C 0) → ∀ j : Nat, j < C.length → kindOf M (rd X (j : Int)) = kindOf M (rd C 0)
  f : ∀ j : Nat, j < C.length → (-1 ≤ rd Y (j : Int) ∧ rd Y (j : Int) ≤ 15) ∧ ¬ ((rd_T52 M (rd X (j : Int))).f7 = 0 ∧ rd Y (j : Int) ≠ -1)
theorem J.set (g : GoodM M) (hb : 0 ≤ b ∧ b < (M.length : Int)) (s : J M C b X Y) (i : Nat) : J M C b (X.set i b) (Y.set i (ca (rd_T52 M b))) := by
  have hm := okB_bounds (g.ok b hb.1 hb.2)
  refine ⟨by rw [List.length_set]; exact s.x, by rw [List.length_set]; exact s.y, fun j hj => ?_, fun hk j hj => ?_, fun j hj => ?_⟩
  · rw [rd_set]; split
    · exact hb
    · exact s.r j hj
  · rw [rd_set]; split
    · exact hk
    · exact s.k hk j hj
  · rw [rd_set, rd_set]
    by_cases e : j = i
    · have l1 : i < X.length := by rw [s.x]; omega
      have l2 : i < Y.length := by rw [s.y]; omega
      rw [if_pos ⟨e, l2⟩, if_pos ⟨e, l1⟩]
      unfold ca
      by_cases h7 : (rd_T52 M b).f7 = 0
      · rw [if_pos h7]; exact ⟨by omega, fun h => h.2 rfl⟩
      · rw [if_neg h7]; exact ⟨hm.1, fun h => h7 h.1⟩
    · rw [if_neg (fun h => e h.1), if_neg (fun h => e h.1)]; exact s.f j hj
theorem J.start (c : Car M C F age since trust broken P) : J M C b C F := by
  refine ⟨rfl, c.len, fun j hj => ?_, fun _ j hj => ?_, fun j hj => ?_⟩
  · have := c.fit.model hj; exact ⟨this.1, this.2.1⟩
  · have := all_rd c.fit.same hj; unfold sameK at this; exact of_decide_eq_true this
  · have h1 := inB_true.1 (all_rd c.fin (i := j) (by rw [c.len]; exact hj))
    have h2 := List.all_eq_true.1 c.fits j (by simp [List.mem_range']; omega)
    unfold fitB rm at h2
    refine ⟨h1, fun h => ?_⟩
    simp [h.1] at h2
    exact h.2 h2
theorem car_of (c : Car M C F age since trust broken P) (s : J M C b X Y) (hk : kindOf M b = kindOf M (rd C 0)) (hb : bad M X = false) {t : Int} (ht : 0 ≤ t ∧ t ≤ 1000) : Car M X Y age since t broken P := by
  have r0 := s.k hk 0 c.fit.pos
  refine ⟨⟨c.fit.good, by rw [s.x]; exact c.fit.pos, by rw [s.x]; exact c.fit.ten, all_of fun j hj => ?_, all_of fun j hj => ?_, hb⟩, s.y.trans s.x.symm, all_of fun j hj => ?_, ?_, c.age, c.since, ht, c.broken, c.load⟩
  · exact decide_eq_true (s.r j (by rw [← s.x]; exact hj))
  · refine decide_eq_true ?_
    rw [s.k hk j (by rw [← s.x]; exact hj)]; exact r0.symm
  · exact inB_true.2 (s.f j (by rw [← s.y]; exact hj)).1
  · rw [List.all_eq_true]; intro j hj
    have hj' : j < C.length := by simp [List.mem_range'] at hj; rw [← s.x]; omega
    have := (s.f j hj').2
    unfold fitB rm
    by_cases e : (rd_T52 M (rd X (j : Int))).f7 = 0
    · have e2 : rd Y (j : Int) = -1 := Decidable.not_not.1 fun h => this ⟨e, h⟩
      simp [e, e2]
    · simp [e]
theorem jr_of (c : Car M X Y age since trust broken P) : jr 0 M X = 0 := by
  have h1 := c.fit.pos
  have h2 := c.fit.ten
  unfold jr fitr
  rw [if_neg (by simp), if_neg (by omega), if_pos c.fit.inr, if_pos c.fit.same, c.fit.nb]; rfl
/-- The result behind the loop. -/
def res (M : List S52) (C X Y : List Int) (age since trust broken : Int) (P : List S49) (a b n : Int) (h : Bool) : RT :=
  if h = true then (if kindOf M a = kindOf M b then (if bad M X = true then ([], [], 0, 0, 0, 0, [], 0, 8) else if (P.length : Int) > 0 then ([], [], 0, 0, 0, 0, [], 0, 13) else (X, Y, age, since, mn trust (rd_T52 M b).f12, broken, P, n, 0)) else ([], [], 0, 0, 0, 0, [], 0, 8)) else ([], [], 0, 0, 0, 0, [], 0, 2)
theorem bad_of (c : Car M C F age since trust broken P) (s : J M C b X Y) (hk : kindOf M b = kindOf M (rd C 0)) : bad M X = (if kindOf M b = 0 then ((rd_T52 M (rd X 0)).f3 == 0) else false) := by
  have r0 : kindOf M (rd X 0) = kindOf M (rd C 0) := s.k hk 0 c.fit.pos
  have hb := c.fit.nb
  unfold bad at hb ⊢
  have hb := of_decide_eq_false hb
  rw [r0, hk, s.x]
  by_cases hz : kindOf M (rd C 0) = 0
  · simp [hz]; rfl
  · simp only [hz, false_and, false_or, if_false, decide_eq_false_iff_not]
    exact fun h => hb (Or.inr ⟨hz, h.2⟩)
theorem tail_p (c : Car M C F age since trust broken P) (s : J M C b X Y) (ha : 0 ≤ a ∧ a < (M.length : Int)) (hb : 0 ≤ b ∧ b < (M.length : Int)) (hh : h = true → kindOf M a = kindOf M (rd C 0)) : Ev (fun k => fleet_Renew.l0 k M a b n h C (C.length : Int) (C.length : Int) C F age since trust broken P X Y age since trust broken P) (res M C X Y age since trust broken P a b n h) := by
  refine Ev.step (fun _ => rfl) ?_
  simp only [fleet_Renew.l0, Int.lt_irrefl, if_false, ha.1, ha.2, hb.1, hb.2, if_true]
  unfold res
  cases h with
  | false => simp only [Bool.false_eq_true, if_false]; exact Ev.now _
  | true =>
    simp only [if_true]
    have j1 : ∀ z : Bool, Ev (fun k => fleet_Renew.j1 k M b n z C F age since trust broken P X Y age since trust broken P) ((if z = true then ([], [], 0, 0, 0, 0, [], 0, 8) else if (P.length : Int) > 0 then ([], [], 0, 0, 0, 0, [], 0, 13) else (X, Y, age, since, mn trust (rd_T52 M b).f12, broken, P, n, 0)) : RT) := by
      intro z
      refine Ev.step (fun _ => rfl) ?_
      simp only [fleet_Renew.j1, hb.1, hb.2, if_true]
      cases z with
      | true => simp only [if_true]; exact Ev.now _
      | false =>
        simp only [Bool.false_eq_true, if_false]
        by_cases hp : (P.length : Int) > 0
        · simp only [hp, if_true]; exact Ev.now _
        · simp only [hp, if_false]; exact Ev.now _
    by_cases e : (rd_T52 M a).f1 = (rd_T52 M b).f1
    · have e' : kindOf M a = kindOf M b := e
      have hk : kindOf M b = kindOf M (rd C 0) := e'.symm.trans (hh rfl)
      have r0 := s.k hk 0 c.fit.pos
      simp only [e, e', if_true]
      have hx : X.all (inR M) = true := all_of fun j hj => decide_eq_true (s.r j (by rw [← s.x]; exact hj))
      have hs : X.all (sameK M (kindOf M (rd X 0))) = true := all_of fun j hj => decide_eq_true ((s.k hk j (by rw [← s.x]; exact hj)).trans r0.symm)
      have l1 := c.fit.ten
      have l2 := c.fit.pos
      refine Ev.bind (fits_ok (by rw [s.x]; omega) (by rw [s.x]; omega) hx) ?_
      have ef : (fitr M X != 0) = bad M X := by
        unfold fitr; rw [if_pos hs]; cases bad M X <;> rfl
      rw [ef]
      exact j1 _
    · have e' : ¬ kindOf M a = kindOf M b := e
      simp only [e, e', if_false]
      exact j1 true
theorem tail_r (c : Car M C F age since trust broken P) (s : J M C b X Y) (ha : 0 ≤ a ∧ a < (M.length : Int)) (hb : 0 ≤ b ∧ b < (M.length : Int)) (hh : h = true → kindOf M a = kindOf M (rd C 0)) : Ev (fun k => hinterlandref14_Renew.l0 k M a b n h C (C.length : Int) (C.length : Int) C F age since trust broken P X Y age since trust broken P) (res M C X Y age since trust broken P a b n h) := by
  refine Ev.step (fun _ => rfl) ?_
  simp only [hinterlandref14_Renew.l0, Int.lt_irrefl, if_false, ha.1, ha.2, hb.1, hb.2, if_true]
  unfold res
  cases h with
  | false => simp only [Bool.false_eq_true, if_false]; exact Ev.now _
  | true =>
    simp only [if_true]
    have j2 : ∀ z : Bool, Ev (fun k => hinterlandref14_Renew.j2 k M b n z C F age since trust broken P X Y age since trust broken P) ((if z = true then ([], [], 0, 0, 0, 0, [], 0, 8) else if (P.length : Int) > 0 then ([], [], 0, 0, 0, 0, [], 0, 13) else (X, Y, age, since, mn trust (rd_T52 M b).f12, broken, P, n, 0)) : RT) := by
      intro z
      refine Ev.step (fun _ => rfl) ?_
      simp only [hinterlandref14_Renew.j2, hb.1, hb.2, if_true]
      cases z with
      | true => simp only [if_true]; exact Ev.now _
      | false =>
        simp only [Bool.false_eq_true, if_false]
        by_cases hp : (P.length : Int) > 0
        · simp only [hp, if_true]; exact Ev.now _
        · simp only [hp, if_false]; exact Ev.now _
    by_cases e : (rd_T52 M a).f1 = (rd_T52 M b).f1
    · have e' : kindOf M a = kindOf M b := e
      have hk : kindOf M b = kindOf M (rd C 0) := e'.symm.trans (hh rfl)
      have r1 : 0 ≤ rd X 0 ∧ rd X 0 < (M.length : Int) := s.r 0 c.fit.pos
      have x0 : (0 : Int) < (X.length : Int) := by have := c.fit.pos; rw [s.x]; omega
      simp only [e, e', if_true, bad_of c s hk, r1.1, r1.2, x0]
      by_cases hz : (rd_T52 M b).f1 = 0
      · have hz' : kindOf M b = 0 := hz
        simp only [hz, hz', if_true]; exact j2 _
      · have hz' : ¬ kindOf M b = 0 := hz
        simp only [hz, hz', if_false]; exact j2 false
    · have e' : ¬ kindOf M a = kindOf M b := e
      simp only [e, e', if_false]
      exact j2 true
theorem loops (c : Car M C F age since trust broken P) (ha : 0 ≤ a ∧ a < (M.length : Int)) (hb : 0 ≤ b ∧ b < (M.length : Int)) : ∀ (d i : Nat) (n : Int) (h : Bool) (X Y : List Int), i + d = C.length → J M C b X Y → (h = true → kindOf M a = kindOf M (rd C 0)) → ∃ n' h' X' Y', J M C b X' Y' ∧ (h' = true → kindOf M a = kindOf M (rd C 0)) ∧ Ev (fun k => fleet_Renew.l0 k M a b n h C (C.length : Int) (i : Int) C F age since trust broken P X Y age since trust broken P) (res M C X' Y' age since trust broken P a b n' h') ∧ Ev (fun k => hinterlandref14_Renew.l0 k M a b n h C (C.length : Int) (i : Int) C F age since trust broken P X Y age since trust broken P) (res M C X' Y' age since trust broken P a b n' h') := by
  have g := c.fit.good
  have l1 := c.fit.ten
  intro d; induction d with
  | zero =>
    intro i n h X Y hi s hh
    obtain rfl : i = C.length := by omega
    exact ⟨n, h, X, Y, s, hh, tail_p c s ha hb hh, tail_r c s ha hb hh⟩
  | succ d ih =>
    intro i n h X Y hi s hh
    have hi0 : (i : Int) < (C.length : Int) := by omega
    have i0 : (0 : Int) ≤ (i : Int) := by omega
    have ix : (i : Int) < (X.length : Int) := by rw [s.x]; omega
    have iy : (i : Int) < (Y.length : Int) := by rw [s.y]; omega
    have wi : wrap64 ((i : Int) + 1) = ((i + 1 : Nat) : Int) := by rw [w64_in (by omega) (by omega)]; omega
    by_cases e : rd C (i : Int) = a
    · have hk : kindOf M a = kindOf M (rd C 0) := by
        have := all_rd c.fit.same (i := i) (by omega); unfold sameK at this; rw [← e]; exact of_decide_eq_true this
      obtain ⟨n', h', X', Y', s', hh', e1, e2⟩ := ih (i + 1) (wrap64 (n + wrap64 ((rd_T52 M b).f9 - wv age (rd_T52 M a)))) true (X.set i b) (Y.set i (ca (rd_T52 M b))) (by omega) (s.set g hb i) (fun _ => hk)
      refine ⟨n', h', X', Y', s', hh', Ev.step (fun _ => rfl) ?_, Ev.step (fun _ => rfl) ?_⟩
      · simp only [fleet_Renew.l0, hi0, i0, ix, iy, e, ha.1, ha.2, hb.1, hb.2, if_true, fit_ca, worth_wv (g.ok a ha.1 ha.2), Option.bind_some, wi, Int.toNat_natCast]; exact e1
      · simp only [hinterlandref14_Renew.l0, hi0, i0, ix, iy, e, ha.1, ha.2, hb.1, hb.2, if_true, carries_ca, value_wv (g.ok a ha.1 ha.2), Option.bind_some, wi, Int.toNat_natCast]; exact e2
    · obtain ⟨n', h', X', Y', s', hh', e1, e2⟩ := ih (i + 1) n h X Y (by omega) s hh
      refine ⟨n', h', X', Y', s', hh', Ev.step (fun _ => rfl) ?_, Ev.step (fun _ => rfl) ?_⟩
      · simp only [fleet_Renew.l0, hi0, i0, e, if_true, if_false, wi]; exact e1
      · simp only [hinterlandref14_Renew.l0, hi0, i0, e, if_true, if_false, wi]; exact e2
end
theorem FleetRenews : hinterlandlaw14_FleetRenews.Pure := by
  intro M C F age since trust broken P a b hM _ _ _ _ _ _ _ _ _
  refine Ev.rounds ?_
  unfold hinterlandlaw14_FleetRenews.f
  obtain ⟨g, e1, e2⟩ := large_ok hM C F age since trust broken P
  refine Ev.bind e1 ?_
  cases g with
  | true => simp only [if_true]; exact Ev.bind known_ev (Ev.now _)
  | false =>
    simp only [Bool.false_eq_true, if_false]
    obtain ⟨m, hC, hF, hP⟩ := e2 rfl
    obtain ⟨v, v1, v2, v3⟩ := vm_both m
    have fail : ∀ e : Int, ¬ e = 0 → Ev (fun k => fleet_Renew.f k M C F age since trust broken P a b) (([], [], 0, 0, 0, 0, [], 0, e) : RT) → Ev (fun k => hinterlandref14_Renew.f k M C F age since trust broken P a b) (([], [], 0, 0, 0, 0, [], 0, e) : RT) → Ev (fun k => (fleet_Renew.f k M C F age since trust broken P a b).bind fun bt423 => ((hinterlandref14_Renew.f k M C F age since trust broken P a b).bind fun bt439 => (if bt423.2.2.2.2.2.2.2.2 = bt439.2.2.2.2.2.2.2.2 then (if bt423.2.2.2.2.2.2.2.1 = bt439.2.2.2.2.2.2.2.1 then ((hinterlandsame_Car.f k bt423.1 bt423.2.1 bt423.2.2.1 bt423.2.2.2.1 bt423.2.2.2.2.1 bt423.2.2.2.2.2.1 bt423.2.2.2.2.2.2.1 bt439.1 bt439.2.1 bt439.2.2.1 bt439.2.2.2.1 bt439.2.2.2.2.1 bt439.2.2.2.2.2.1 bt439.2.2.2.2.2.2.1).bind fun t455 => (if t455 = true then (if bt423.2.2.2.2.2.2.2.2 = 0 then ((fleet_Validate.f k M bt423.1 bt423.2.1 bt423.2.2.1 bt423.2.2.2.1 bt423.2.2.2.2.1 bt423.2.2.2.2.2.1 bt423.2.2.2.2.2.2.1).bind fun t456 => (if t456 = 0 then ((hinterlandlaw14_known.f k).bind fun t457 => (some t457)) else (some false))) else ((hinterlandlaw14_known.f k).bind fun t458 => (some t458))) else (some false))) else (some false)) else (some false)))) true := by
      intro e he p r
      refine Ev.bind p (Ev.bind r ?_)
      simp only [if_true]
      refine Ev.bind (car_self _ _ _ _ (by simp) (by simp) (by simp)) ?_
      simp only [if_true, he, if_false]
      exact Ev.bind known_ev (Ev.now _)
    by_cases hz : vr v M C F age since trust broken P = 0
    · obtain ⟨hv, hj, c⟩ := vr_zero v3 hz
      subst hv
      by_cases hab : (0 ≤ a ∧ a < (M.length : Int)) ∧ (0 ≤ b ∧ b < (M.length : Int))
      · obtain ⟨ha, hb⟩ := hab
        have wm : wrap64 ((M.length : Int) - 1) = (M.length : Int) - 1 := by have := m.len; exact w64_in (by omega) (by omega)
        have hw : (inB 0 ((M.length : Int) - 1) a && inB 0 ((M.length : Int) - 1) b) = true := by
          simp only [Bool.and_eq_true, inB_true]; omega
        obtain ⟨n', h', X', Y', s', hh', p, r⟩ := loops c ha hb C.length 0 0 false C F (by omega) (J.start c) (by simp)
        have p' : Ev (fun k => fleet_Renew.f k M C F age since trust broken P a b) (res M C X' Y' age since trust broken P a b n' h') := by
          unfold fleet_Renew.f
          refine Ev.bind (valid_ok hC hF hP v1) ?_
          simp only [hz, if_true, wm]
          refine Ev.bind (within2 0 _ a b) ?_
          simp only [hw, if_true, clone_ok hC hF hP, Option.bind_some]; exact p
        have r' : Ev (fun k => hinterlandref14_Renew.f k M C F age since trust broken P a b) (res M C X' Y' age since trust broken P a b n' h') := by
          unfold hinterlandref14_Renew.f
          refine Ev.bind (rvalid_ok hC hF hP v2) ?_
          simp only [hz, if_true, show ¬ a < 0 by omega, show ¬ a ≥ (M.length : Int) by omega, show ¬ b < 0 by omega, show ¬ b ≥ (M.length : Int) by omega, if_false, decide_false]
          refine Ev.step (fun _ => rfl) ?_
          simp only [hinterlandref14_Renew.j0, Bool.false_eq_true, if_false, again_ok hC hF hP, Option.bind_some]; exact r
        cases h' with
        | false => exact fail 2 (by omega) p' r'
        | true =>
          unfold res at p' r'
          simp only [if_true] at p' r'
          by_cases hk : kindOf M a = kindOf M b
          · simp only [hk, if_true] at p' r'
            cases hbd : bad M X' with
            | true => simp only [hbd, if_true] at p' r'; exact fail 8 (by omega) p' r'
            | false =>
              simp only [hbd, Bool.false_eq_true, if_false] at p' r'
              by_cases hp : (P.length : Int) > 0
              · simp only [hp, if_true] at p' r'; exact fail 13 (by omega) p' r'
              · simp only [hp, if_false] at p' r'
                have hm := (okB_bounds (c.fit.good.ok b hb.1 hb.2)).2.2.2.2
                have ht : 0 ≤ mn trust (rd_T52 M b).f12 ∧ mn trust (rd_T52 M b).f12 ≤ 1000 := by have := c.trust; unfold mn; split <;> omega
                have c' := car_of c s' (hk.symm.trans (hh' rfl)) hbd ht
                have lX := s'.x
                have lY := s'.y
                refine Ev.bind p' (Ev.bind r' ?_)
                simp only [if_true]
                refine Ev.bind (car_self _ _ _ _ (by omega) (by omega) (by omega)) ?_
                simp only [if_true]
                refine Ev.bind (valid_ok (by omega) (by omega) hP v1) ?_
                simp only [c'.vr (jr_of c'), if_true]
                exact Ev.bind known_ev (Ev.now _)
          · simp only [hk, if_false] at p' r'; exact fail 8 (by omega) p' r'
      · have hw : (inB 0 (wrap64 ((M.length : Int) - 1)) a && inB 0 (wrap64 ((M.length : Int) - 1)) b) = false := by
          have wm : wrap64 ((M.length : Int) - 1) = (M.length : Int) - 1 := by have := m.len; exact w64_in (by omega) (by omega)
          rw [wm]
          cases hq : (inB 0 ((M.length : Int) - 1) a && inB 0 ((M.length : Int) - 1) b) with
          | false => rfl
          | true => simp only [Bool.and_eq_true, inB_true] at hq; exact absurd (by omega) hab
        refine fail 2 (by omega) ?_ ?_
        · unfold fleet_Renew.f
          refine Ev.bind (valid_ok hC hF hP v1) ?_
          simp only [hz, if_true]
          refine Ev.bind (within2 0 _ a b) ?_
          simp only [hw, Bool.false_eq_true, if_false]; exact Ev.now _
        · unfold hinterlandref14_Renew.f
          refine Ev.bind (rvalid_ok hC hF hP v2) ?_
          simp only [hz, if_true]
          have quit : Ev (fun k => hinterlandref14_Renew.j0 k M a b true C F age since trust broken P) (([], [], 0, 0, 0, 0, [], 0, 2) : RT) := by
            refine Ev.step (fun _ => rfl) ?_
            simp only [hinterlandref14_Renew.j0, if_true]; exact Ev.now _
          by_cases q1 : a < 0
          · simp only [q1, if_true]; exact quit
          · by_cases q2 : a ≥ (M.length : Int)
            · simp only [q1, q2, if_true, if_false]; exact quit
            · by_cases q3 : b < 0
              · simp only [q1, q2, q3, if_true, if_false]; exact quit
              · have q4 : b ≥ (M.length : Int) := by omega
                simp only [q1, q2, q3, q4, if_false, decide_true]; exact quit
    · refine fail _ hz ?_ ?_
      · unfold fleet_Renew.f
        refine Ev.bind (valid_ok hC hF hP v1) ?_
        simp only [hz, if_false]; exact Ev.now _
      · unfold hinterlandref14_Renew.f
        refine Ev.bind (rvalid_ok hC hF hP v2) ?_
        simp only [hz, if_false]; exact Ev.now _
end Go.Proofs.Ytgnahbjpockdmab.Pure

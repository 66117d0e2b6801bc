import Derived.Test.YtgnahbjpockdmaaPlain
import Derived.Test.YtgnahbjpockdmaaQ16
import Derived.Test.YtgnahbjpockdmaaQ6
namespace Go.Proofs.Ytgnahbjpockdmaa.Mod
open Go.RowKit Go.Proofs.YtgnahbjpockdmaaOwn Go.Proofs.Ytgnahbjpockdmaa.Q Go.Proofs.YtgnahbjpockdmaaW.PrintWords Go.Proofs.YtgnahbjpockdmaaW.PrintLast Go.Proofs.YtgnahbjpockdmaaW.PrintMore

/-- A number lies between two bounds. -/
def inB (lo hi a : Int) : Bool := decide (lo ≤ a ∧ a ≤ hi)
def letB (s : ByteArray) (j : Nat) : Bool := inB 97 122 (bt s (j : Int))
/-- A text is a name. -/
def nmB (s : ByteArray) : Bool := decide (1 ≤ s.size) && decide (s.size ≤ 12) && (List.range s.size).all (letB s)
theorem inB_true {lo hi a : Int} : inB lo hi a = true ↔ lo ≤ a ∧ a ≤ hi := by unfold inB; simp
theorem loop_len (s : ByteArray) : ∀ (d i : Nat) (r : List UInt8), i + d = s.size → (ByteArray.toList.loop s i r).length = d + r.length := by
  intro d; induction d with
  | zero => intro i r h; rw [ByteArray.toList.loop, if_neg (by omega)]; simp
  | succ d ih => intro i r h; rw [ByteArray.toList.loop, if_pos (by omega), ih (i + 1) _ (by omega), List.length_cons]; omega
theorem empty_iff (s : ByteArray) : s.toList = ([] : List UInt8) ↔ s.size = 0 := by
  have h := loop_len s s.size 0 [] (by omega)
  have e : (s.toList).length = s.size := by unfold ByteArray.toList; simpa using h
  constructor
  · intro h'; rw [h'] at e; simpa using e.symm
  · intro h'; exact List.eq_nil_of_length_eq_zero (by omega)
/-- all over the places from i on -/
def allFrom (s : ByteArray) (i d : Nat) : Bool := (List.range' i d).all (letB s)
theorem allFrom_succ (s : ByteArray) (i d : Nat) : allFrom s i (d + 1) = (letB s i && allFrom s (i + 1) d) := by simp [allFrom, List.range'_succ]
theorem allFrom_all (s : ByteArray) : allFrom s 0 s.size = (List.range s.size).all (letB s) := by simp [allFrom, List.range_eq_range']
theorem named_loop {s : ByteArray} (hs : s.size ≤ 1000000) : ∀ (d : Nat) (i : Nat), i + d = s.size → Ev (fun k => fleet_named.l0 k s (s.size : Int) (i : Int)) (allFrom s i d && (decide (1 ≤ s.size) && decide (s.size ≤ 12))) := by
  intro d; induction d with
  | zero =>
    intro i hi
    refine Ev.step (fun _ => rfl) ?_
    simp only [fleet_named.l0, show ¬ (i : Int) < (s.size : Int) by omega, if_false]
    by_cases h : s.toList = ([] : List UInt8)
    · have := (empty_iff s).1 h
      simp only [h, if_true, allFrom, this]; exact Ev.now _
    · have h1 : 1 ≤ s.size := by
        by_cases h2 : s.size = 0
        · exact absurd ((empty_iff s).2 h2) h
        · omega
      have e : decide ((s.size : Int) ≤ 12) = decide (s.size ≤ 12) := by rw [decide_eq_decide]; omega
      simp only [h, if_false, allFrom, List.range'_zero, List.all_nil, Bool.true_and, h1, decide_true, e]; exact Ev.now _
  | succ d ih =>
    intro i hi
    have hb : (if bt s (i : Int) < 97 then true else decide (bt s (i : Int) > 122)) = !letB s i := by
      unfold letB inB
      by_cases h : bt s (i : Int) < 97
      · rw [if_pos h]; simp; omega
      · rw [if_neg h]; by_cases h2 : bt s (i : Int) > 122 <;> simp [h2] <;> omega
    have hi0 : (i : Int) < (s.size : Int) := by omega
    have i0 : (0 : Int) ≤ (i : Int) := by omega
    have wi : wrap64 ((i : Int) + 1) = ((i + 1 : Nat) : Int) := by rw [w64_in (by omega) (by omega)]; omega
    have tail : Ev (fun k => fleet_named.j1 k s (s.size : Int) (i : Int) (!letB s i)) (allFrom s i (d + 1) && (decide (1 ≤ s.size) && decide (s.size ≤ 12))) := by
      rw [allFrom_succ]
      refine Ev.step (fun _ => rfl) ?_
      cases hl : letB s i with
      | true =>
        simp only [fleet_named.j1, Bool.not_true, Bool.false_eq_true, if_false, wi, Bool.true_and]
        exact ih (i + 1) (by omega)
      | false =>
        simp only [fleet_named.j1, Bool.not_false, if_true, Bool.false_and]; exact Ev.now _
    refine Ev.step (fun _ => rfl) ?_
    rw [← hb] at tail
    simp only [fleet_named.l0, hi0, i0, if_true]
    by_cases h : bt s (i : Int) < 97
    · simp only [h, if_true] at tail ⊢; exact tail
    · simp only [h, if_false] at tail ⊢; exact tail
theorem named_ok {s : ByteArray} (hs : s.size ≤ 1000000) : Ev (fun k => fleet_named.f k s) (nmB s) := by
  have h := named_loop hs s.size 0 (by omega)
  rw [allFrom_all, Bool.and_comm] at h
  exact h
theorem Named_loop {s : ByteArray} (hs : s.size ≤ 1000000) : ∀ (d : Nat) (i : Nat), i + d = s.size → Ev (fun k => hinterlandref10_Named.l0 k s (i : Int)) (allFrom s i d) := by
  intro d; induction d with
  | zero =>
    intro i hi
    refine Ev.step (fun _ => rfl) ?_
    simp only [hinterlandref10_Named.l0, show ¬ (i : Int) < (s.size : Int) by omega, if_false, allFrom]; exact Ev.now _
  | succ d ih =>
    intro i hi
    have hb : (if bt s (i : Int) < 97 then true else decide (bt s (i : Int) > 122)) = !letB s i := by
      unfold letB inB
      by_cases h : bt s (i : Int) < 97
      · rw [if_pos h]; simp; omega
      · rw [if_neg h]; by_cases h2 : bt s (i : Int) > 122 <;> simp [h2] <;> omega
    have hi0 : (i : Int) < (s.size : Int) := by omega
    have i0 : (0 : Int) ≤ (i : Int) := by omega
    have wi : wrap64 ((i : Int) + 1) = ((i + 1 : Nat) : Int) := by rw [w64_in (by omega) (by omega)]; omega
    have tail : Ev (fun k => hinterlandref10_Named.j2 k s (i : Int) (!letB s i)) (allFrom s i (d + 1)) := by
      rw [allFrom_succ]
      refine Ev.step (fun _ => rfl) ?_
      cases hl : letB s i with
      | true =>
        simp only [hinterlandref10_Named.j2, Bool.not_true, Bool.false_eq_true, if_false, wi, Bool.true_and]
        exact ih (i + 1) (by omega)
      | false =>
        simp only [hinterlandref10_Named.j2, Bool.not_false, if_true, Bool.false_and]; exact Ev.now _
    refine Ev.step (fun _ => rfl) ?_
    rw [← hb] at tail
    simp only [hinterlandref10_Named.l0, hi0, i0, if_true]
    by_cases h : bt s (i : Int) < 97
    · simp only [h, if_true] at tail ⊢; exact tail
    · simp only [h, if_false] at tail ⊢; exact tail
theorem Named_ok {s : ByteArray} (hs : s.size ≤ 1000000) : Ev (fun k => hinterlandref10_Named.f k s) (nmB s) := by
  unfold hinterlandref10_Named.f nmB
  have h := Named_loop hs s.size 0 (by omega)
  rw [allFrom_all] at h
  by_cases h1 : (s.size : Int) < 1
  · simp only [h1, if_true, show ¬ 1 ≤ s.size by omega, decide_false, Bool.false_and]
    refine Ev.step (fun _ => rfl) ?_
    simp only [hinterlandref10_Named.j0, if_true]; exact Ev.now _
  · simp only [h1, if_false, show 1 ≤ s.size by omega, decide_true, Bool.true_and]
    refine Ev.step (fun _ => rfl) ?_
    by_cases h2 : s.size ≤ 12
    · simp only [hinterlandref10_Named.j0, show ¬ (s.size : Int) > 12 by omega, decide_false, Bool.false_eq_true, if_false, h2, decide_true, Bool.true_and]
      exact h
    · simp only [hinterlandref10_Named.j0, show (s.size : Int) > 12 by omega, decide_true, if_true, h2, decide_false, Bool.false_and]; exact Ev.now _
theorem within_loop (lo hi : Int) {l : List Int} (hl : l.length ≤ 1000000) : ∀ (d i : Nat), i + d = l.length → Ev (fun k => fleet_within.l0 k lo hi l (l.length : Int) (i : Int)) ((l.drop i).all (inB lo hi)) := by
  intro d; induction d with
  | zero =>
    intro i hi'
    refine Ev.step (fun _ => rfl) ?_
    simp only [fleet_within.l0, show ¬ (i : Int) < (l.length : Int) by omega, if_false, List.drop_of_length_le (show l.length ≤ i by omega), List.all_nil]; exact Ev.now _
  | succ d ih =>
    intro i hi'
    have hi0 : (i : Int) < (l.length : Int) := by omega
    have i0 : (0 : Int) ≤ (i : Int) := by omega
    have hr : l.drop i = rd l (i : Int) :: l.drop (i + 1) := by
      unfold rd
      rw [List.drop_eq_getElem_cons (by omega), List.getD_eq_getElem?_getD, List.getElem?_eq_getElem (by simp; omega)]; simp
    have hb : (if rd l (i : Int) < lo then true else decide (rd l (i : Int) > hi)) = !inB lo hi (rd l (i : Int)) := by
      unfold inB
      by_cases h : rd l (i : Int) < lo
      · rw [if_pos h]; simp; omega
      · rw [if_neg h]; by_cases h2 : rd l (i : Int) > hi <;> simp [h2] <;> omega
    have wi : wrap64 ((i : Int) + 1) = ((i + 1 : Nat) : Int) := by rw [w64_in (by omega) (by omega)]; omega
    have tail : Ev (fun k => fleet_within.j1 k lo hi l (l.length : Int) (i : Int) (!inB lo hi (rd l (i : Int)))) ((l.drop i).all (inB lo hi)) := by
      rw [hr, List.all_cons]
      refine Ev.step (fun _ => rfl) ?_
      cases hl : inB lo hi (rd l (i : Int)) with
      | true =>
        simp only [fleet_within.j1, Bool.not_true, Bool.false_eq_true, if_false, wi, Bool.true_and]
        exact ih (i + 1) (by omega)
      | false =>
        simp only [fleet_within.j1, Bool.not_false, if_true, Bool.false_and]; exact Ev.now _
    refine Ev.step (fun _ => rfl) ?_
    rw [← hb] at tail
    simp only [fleet_within.l0, hi0, i0, if_true]
    by_cases h : rd l (i : Int) < lo
    · simp only [h, if_true] at tail ⊢; exact tail
    · simp only [h, if_false] at tail ⊢; exact tail
theorem within_ok (lo hi : Int) {l : List Int} (hl : l.length ≤ 1000000) : Ev (fun k => fleet_within.f k lo hi l) (l.all (inB lo hi)) := within_loop lo hi hl l.length 0 (by omega)
theorem within1 (lo hi a : Int) : Ev (fun k => fleet_within.f k lo hi ([a] : List Int)) (inB lo hi a) := by
  have h := within_ok lo hi (l := [a]) (by simp)
  simpa using h
theorem within2 (lo hi a b : Int) : Ev (fun k => fleet_within.f k lo hi ([a, b] : List Int)) (inB lo hi a && inB lo hi b) := by
  have h := within_ok lo hi (l := [a, b]) (by simp)
  simpa using h
theorem rwithin (a lo hi : Int) : hinterlandref14_within.f a lo hi = some (inB lo hi a) := by
  unfold hinterlandref14_within.f inB
  by_cases h : a ≥ lo
  · rw [if_pos h]; congr 1; rw [decide_eq_decide]; omega
  · rw [if_neg h]; congr 1; symm; rw [decide_eq_false_iff_not]; omega
/-- A model's fields are right. -/
def okB (m : S54) : Bool := nmB m.f0 && inB 0 3 m.f1 && inB 0 600 m.f2 && inB 0 20000 m.f3 && inB 1 1000 m.f4 && inB 0 2000 m.f5 && inB (-1) 15 m.f6 && inB 0 1000 m.f7 && inB 1 16 m.f8 && inB 0 10000000 m.f9 && inB 0 10000000 m.f10 && inB 1 100 m.f11 && inB 0 1000 m.f12
theorem if_and {g : Nat → Option Bool} {f : Nat → Bool → Option Bool} {a b : Bool} (h : Ev g a) (ht : a = true → Ev (fun k => f k true) b) (hf : Ev (fun k => f k false) false) : Ev (fun k => (g k).bind (f k)) (a && b) := by
  cases ha : a with
  | true => subst ha; rw [Bool.true_and]; exact Ev.bind h (ht rfl)
  | false => subst ha; rw [Bool.false_and]; exact Ev.bind h hf
theorem j0_ok (b : Bool) : Ev (fun k => fleet_sound.j0 k b) b := Ev.step (f := fun _ => some b) (fun _ => rfl) (Ev.now _)
theorem sound_ok {m : S54} (hs : m.f0.size ≤ 1000000) : Ev (fun k => fleet_sound.f k m.f0 m.f1 m.f2 m.f3 m.f4 m.f5 m.f6 m.f7 m.f8 m.f9 m.f10 m.f11 m.f12 m.f13) (okB m) := by
  unfold fleet_sound.f okB
  simp only [Bool.and_assoc]
  refine if_and (named_ok hs) (fun _ => ?_) (by simpa using j0_ok false)
  simp only [if_true]
  refine if_and (within1 0 3 m.f1) (fun _ => ?_) (by simpa using j0_ok false)
  simp only [if_true]
  refine if_and (within1 0 600 m.f2) (fun _ => ?_) (by simpa using j0_ok false)
  simp only [if_true]
  refine if_and (within1 0 20000 m.f3) (fun _ => ?_) (by simpa using j0_ok false)
  simp only [if_true]
  refine if_and (within1 1 1000 m.f4) (fun _ => ?_) (by simpa using j0_ok false)
  simp only [if_true]
  refine if_and (within1 0 2000 m.f5) (fun _ => ?_) (by simpa using j0_ok false)
  simp only [if_true]
  refine if_and (within1 (-1) 15 m.f6) (fun _ => ?_) (by simpa using j0_ok false)
  simp only [if_true]
  refine if_and (within1 0 1000 m.f7) (fun _ => ?_) (by simpa using j0_ok false)
  simp only [if_true]
  refine if_and (within1 1 16 m.f8) (fun _ => ?_) (by simpa using j0_ok false)
  simp only [if_true]
  rw [← Bool.and_assoc]
  refine if_and (within2 0 10000000 m.f9 m.f10) (fun _ => ?_) (by simpa using j0_ok false)
  simp only [if_true]
  refine if_and (within1 1 100 m.f11) (fun _ => ?_) (by simpa using j0_ok false)
  simp only [if_true]
  refine Ev.bind (within1 0 1000 m.f12) (j0_ok _)
theorem right_ok {m : S54} (hs : m.f0.size ≤ 1000000) : Ev (fun k => hinterlandref14_right.f k m.f0 m.f1 m.f2 m.f3 m.f4 m.f5 m.f6 m.f7 m.f8 m.f9 m.f10 m.f11 m.f12 m.f13) (okB m) := by
  unfold hinterlandref14_right.f okB
  simp only [Bool.and_assoc, rwithin, Option.bind_some]
  refine if_and (Named_ok hs) (fun _ => ?_) (by simp; exact Ev.now _)
  simp only [if_true]
  by_cases h1 : inB 0 3 m.f1 = true
  case neg => simp only [h1, Bool.false_and]; simp; exact Ev.now _
  simp only [h1, if_true, Bool.true_and]
  by_cases h2 : inB 0 600 m.f2 = true
  case neg => simp only [h2, Bool.false_and]; simp; exact Ev.now _
  simp only [h2, if_true, Bool.true_and]
  by_cases h3 : inB 0 20000 m.f3 = true
  case neg => simp only [h3, Bool.false_and]; simp; exact Ev.now _
  simp only [h3, if_true, Bool.true_and]
  by_cases h4 : inB 1 1000 m.f4 = true
  case neg => simp only [h4, Bool.false_and]; simp; exact Ev.now _
  simp only [h4, if_true, Bool.true_and]
  by_cases h5 : inB 0 2000 m.f5 = true
  case neg => simp only [h5, Bool.false_and]; simp; exact Ev.now _
  simp only [h5, if_true, Bool.true_and]
  by_cases h6 : inB (-1) 15 m.f6 = true
  case neg => simp only [h6, Bool.false_and]; simp; exact Ev.now _
  simp only [h6, if_true, Bool.true_and]
  by_cases h7 : inB 0 1000 m.f7 = true
  case neg => simp only [h7, Bool.false_and]; simp; exact Ev.now _
  simp only [h7, if_true, Bool.true_and]
  by_cases h8 : inB 1 16 m.f8 = true
  case neg => simp only [h8, Bool.false_and]; simp; exact Ev.now _
  simp only [h8, if_true, Bool.true_and]
  by_cases h9 : inB 0 10000000 m.f9 = true
  case neg => simp only [h9, Bool.false_and]; simp; exact Ev.now _
  simp only [h9, if_true, Bool.true_and]
  by_cases h10 : inB 0 10000000 m.f10 = true
  case neg => simp only [h10, Bool.false_and]; simp; exact Ev.now _
  simp only [h10, if_true, Bool.true_and]
  by_cases h11 : inB 1 100 m.f11 = true
  case neg => simp only [h11, Bool.false_and]; simp; exact Ev.now _
  simp only [h11, if_true, Bool.true_and]
  exact Ev.now _
end Go.Proofs.Ytgnahbjpockdmaa.Mod

import Derived.Test.YtgnahbjpockdmaaMod
import Derived.Test.YtgnahbjpockdmaaQ17
import Derived.Test.YtgnahbjpockdmaaQ3
import Derived.Test.YtgnahbjpockdmaaQ7
namespace Go.Proofs.Ytgnahbjpockdmaa.Vm
open Go.RowKit Go.Proofs.YtgnahbjpockdmaaOwn Go.Proofs.Ytgnahbjpockdmaa.Q Go.Proofs.Ytgnahbjpockdmaa.Mod Go.Proofs.YtgnahbjpockdmaaW.PrintWords Go.Proofs.YtgnahbjpockdmaaW.PrintLast Go.Proofs.YtgnahbjpockdmaaW.PrintMore
set_option linter.unusedVariables false
set_option linter.unusedSimpArgs false

structure GoodM (M : List S54) : Prop where
  len : M.length ≤ 40
  ok : ∀ i : Int, 0 ≤ i → i < (M.length : Int) → okB (rd_T54 M i) = true
structure Small (M : List S54) : Prop where
  len : M.length ≤ 500
  nm : ∀ i : Int, 0 ≤ i → i < (M.length : Int) → (rd_T54 M i).f0.size ≤ 500
theorem dup_both {M : List S54} (hl : M.length ≤ 500) {i : Int} {y : List S54} (hy : y.length ≤ 500) (m : S54) {r : Int} (h1 : Ev (fun k => fleet_ValidateModels.l1 k M M (M.length : Int) (wrap64 (i + 1))) r) (h2 : Ev (fun k => hinterlandref14_ValidateModels.l1 k M M (M.length : Int) (wrap64 (i + 1))) r) : ∀ (d : Nat) (j : Int), 0 ≤ j → j + d = (y.length : Int) →
    ∃ r', Ev (fun k => fleet_ValidateModels.l2 k M M (M.length : Int) i y (y.length : Int) j (m).f0 (m).f1 (m).f2 (m).f3 (m).f4 (m).f5 (m).f6 (m).f7 (m).f8 (m).f9 (m).f10 (m).f11 (m).f12 (m).f13) r' ∧ Ev (fun k => hinterlandref14_ValidateModels.l2 k M M (M.length : Int) i y (y.length : Int) j (m).f0 (m).f1 (m).f2 (m).f3 (m).f4 (m).f5 (m).f6 (m).f7 (m).f8 (m).f9 (m).f10 (m).f11 (m).f12 (m).f13) r' := by
  intro d; induction d with
  | zero =>
    intro j j0 hd
    refine ⟨r, Ev.step (fun _ => rfl) ?_, Ev.step (fun _ => rfl) ?_⟩
    · simp only [fleet_ValidateModels.l2, show ¬ j < (y.length : Int) by omega, if_false]; exact h1
    · simp only [hinterlandref14_ValidateModels.l2, show ¬ j < (y.length : Int) by omega, if_false]; exact h2
  | succ d ih =>
    intro j j0 hd
    have hj : j < (y.length : Int) := by omega
    by_cases h : ((rd_T54 y j).f0).toList = (m.f0).toList
    · refine ⟨3, Ev.step (fun _ => rfl) ?_, Ev.step (fun _ => rfl) ?_⟩
      · simp only [fleet_ValidateModels.l2, hj, j0, if_true, h]; exact Ev.now _
      · simp only [hinterlandref14_ValidateModels.l2, hj, j0, if_true, h]; exact Ev.now _
    · obtain ⟨r', e1, e2⟩ := ih (j + 1) (by omega) (by omega)
      have wj : wrap64 (j + 1) = j + 1 := w64_in (by omega) (by omega)
      refine ⟨r', Ev.step (fun _ => rfl) ?_, Ev.step (fun _ => rfl) ?_⟩
      · simp only [fleet_ValidateModels.l2, hj, j0, if_true, h, if_false, wj]; exact e1
      · simp only [hinterlandref14_ValidateModels.l2, hj, j0, if_true, h, if_false, wj]; exact e2
theorem dups_both {M : List S54} (hl : M.length ≤ 500) : ∀ (d : Nat) (i : Int), 0 ≤ i → i + d = (M.length : Int) → ∃ r, Ev (fun k => fleet_ValidateModels.l1 k M M (M.length : Int) i) r ∧ Ev (fun k => hinterlandref14_ValidateModels.l1 k M M (M.length : Int) i) r := by
  intro d; induction d with
  | zero =>
    intro i i0 hd
    refine ⟨0, Ev.step (fun _ => rfl) ?_, Ev.step (fun _ => rfl) ?_⟩
    · simp only [fleet_ValidateModels.l1, show ¬ i < (M.length : Int) by omega, if_false]; exact Ev.now _
    · simp only [hinterlandref14_ValidateModels.l1, show ¬ i < (M.length : Int) by omega, if_false]; exact Ev.now _
  | succ d ih =>
    intro i i0 hd
    have hi : i < (M.length : Int) := by omega
    have hi2 : i ≤ (M.length : Int) := by omega
    have wi : wrap64 (i + 1) = i + 1 := w64_in (by omega) (by omega)
    obtain ⟨r, e1, e2⟩ := ih (i + 1) (by omega) (by omega)
    have hy : (M.take i.toNat).length ≤ 500 := Nat.le_trans (List.length_take_le _ _) (by omega)
    obtain ⟨r', g1, g2⟩ := dup_both hl (i := i) hy (rd_T54 M i) (by rw [wi]; exact e1) (by rw [wi]; exact e2) (M.take i.toNat).length 0 (by omega) (by omega)
    refine ⟨r', Ev.step (fun _ => rfl) ?_, Ev.step (fun _ => rfl) ?_⟩
    · simp only [fleet_ValidateModels.l1, hi, i0, hi2, if_true, Option.bind_some]; exact g1
    · simp only [hinterlandref14_ValidateModels.l1, hi, i0, hi2, if_true, Option.bind_some]; exact g2
theorem oks_both {M : List S54} (s : Small M) : ∀ (d : Nat) (i : Int), 0 ≤ i → i + d = (M.length : Int) → ∃ r, Ev (fun k => fleet_ValidateModels.l0 k M M (M.length : Int) i) r ∧ Ev (fun k => hinterlandref14_ValidateModels.l0 k M M (M.length : Int) i) r ∧ (r = 0 → ∀ j, i ≤ j → j < (M.length : Int) → okB (rd_T54 M j) = true) := by
  have hl := s.len
  intro d; induction d with
  | zero =>
    intro i i0 hd
    obtain ⟨r, e1, e2⟩ := dups_both hl M.length 0 (by omega) (by omega)
    refine ⟨r, Ev.step (fun _ => rfl) ?_, Ev.step (fun _ => rfl) ?_, fun _ j a b => by omega⟩
    · simp only [fleet_ValidateModels.l0, show ¬ i < (M.length : Int) by omega, if_false]; exact e1
    · simp only [hinterlandref14_ValidateModels.l0, show ¬ i < (M.length : Int) by omega, if_false]; exact e2
  | succ d ih =>
    intro i i0 hd
    have hi : i < (M.length : Int) := by omega
    have wi : wrap64 (i + 1) = i + 1 := w64_in (by omega) (by omega)
    have hn : (rd_T54 M i).f0.size ≤ 1000000 := by have := s.nm i i0 hi; omega
    cases hb : okB (rd_T54 M i) with
    | true =>
      obtain ⟨r, e1, e2, e3⟩ := ih (i + 1) (by omega) (by omega)
      refine ⟨r, Ev.step (fun _ => rfl) ?_, Ev.step (fun _ => rfl) ?_, fun h j a b => ?_⟩
      · simp only [fleet_ValidateModels.l0, hi, i0, if_true, wi]
        refine Ev.bind (sound_ok hn) ?_
        simp only [hb, if_true]; exact e1
      · simp only [hinterlandref14_ValidateModels.l0, hi, i0, if_true, wi]
        refine Ev.bind (right_ok hn) ?_
        simp only [hb, if_true]; exact e2
      · by_cases e : j = i
        · rw [e]; exact hb
        · exact e3 h j (by omega) b
    | false =>
      refine ⟨1, Ev.step (fun _ => rfl) ?_, Ev.step (fun _ => rfl) ?_, fun h => by omega⟩
      · simp only [fleet_ValidateModels.l0, hi, i0, if_true, wi]
        refine Ev.bind (sound_ok hn) ?_
        simp only [hb, Bool.false_eq_true, if_false]; exact Ev.now _
      · simp only [hinterlandref14_ValidateModels.l0, hi, i0, if_true, wi]
        refine Ev.bind (right_ok hn) ?_
        simp only [hb, Bool.false_eq_true, if_false]; exact Ev.now _
theorem vm_both {M : List S54} (s : Small M) : ∃ r, Ev (fun k => fleet_ValidateModels.f k M) r ∧ Ev (fun k => hinterlandref14_ValidateModels.f k M) r ∧ (r = 0 → GoodM M) := by
  unfold fleet_ValidateModels.f hinterlandref14_ValidateModels.f
  by_cases h : (M.length : Int) > 40
  · refine ⟨4, ?_, ?_, fun h => by omega⟩
    · simp only [h, if_true]; exact Ev.now _
    · simp only [h, if_true]; exact Ev.now _
  · obtain ⟨r, e1, e2, e3⟩ := oks_both s M.length 0 (by omega) (by omega)
    refine ⟨r, ?_, ?_, fun hr => ⟨by omega, fun i a b => e3 hr i a b⟩⟩
    · simp only [h, if_false]; exact e1
    · simp only [h, if_false]; exact e2
theorem large_loop {M : List S54} (hM : M.length ≤ maxLen) {A B : List Int} {P : List S69} (b c d' e : Int) : ∀ (d : Nat) (i : Int), 0 ≤ i → i + d = (M.length : Int) → ∃ r, Ev (fun k => hinterlandlaw14_large.l0 k M M (M.length : Int) i A B b c d' e P) r ∧ (r = false → (∀ j, i ≤ j → j < (M.length : Int) → (rd_T54 M j).f0.size ≤ 500) ∧ M.length ≤ 500 ∧ A.length ≤ 500 ∧ B.length ≤ 500 ∧ P.length ≤ 500) := by
  unfold maxLen at hM
  intro d; induction d with
  | zero =>
    intro i i0 hd
    have hi : ¬ i < (M.length : Int) := by omega
    by_cases h1 : (M.length : Int) > 500
    · exact ⟨true, Ev.step (fun _ => rfl) (by simp only [hinterlandlaw14_large.l0, hi, h1, if_false, if_true]; exact Ev.now _), fun h => by cases h⟩
    by_cases h2 : (A.length : Int) > 500
    · exact ⟨true, Ev.step (fun _ => rfl) (by simp only [hinterlandlaw14_large.l0, hi, h1, h2, if_false, if_true]; exact Ev.now _), fun h => by cases h⟩
    by_cases h3 : (B.length : Int) > 500
    · exact ⟨true, Ev.step (fun _ => rfl) (by simp only [hinterlandlaw14_large.l0, hi, h1, h2, h3, if_false, if_true]; exact Ev.now _), fun h => by cases h⟩
    · refine ⟨decide ((P.length : Int) > 500), Ev.step (fun _ => rfl) (by simp only [hinterlandlaw14_large.l0, hi, h1, h2, h3, if_false]; exact Ev.now _), fun h => ⟨fun j a b => by omega, by omega, by omega, by omega, ?_⟩⟩
      have := of_decide_eq_false h; omega
  | succ d ih =>
    intro i i0 hd
    have hi : i < (M.length : Int) := by omega
    have wi : wrap64 (i + 1) = i + 1 := w64_in (by omega) (by omega)
    by_cases h1 : (((rd_T54 M i).f0).size : Int) > 500
    · exact ⟨true, Ev.step (fun _ => rfl) (by simp only [hinterlandlaw14_large.l0, hi, i0, h1, if_true]; exact Ev.now _), fun h => by cases h⟩
    · obtain ⟨r, e1, e2⟩ := ih (i + 1) (by omega) (by omega)
      refine ⟨r, Ev.step (fun _ => rfl) (by simp only [hinterlandlaw14_large.l0, hi, i0, h1, if_true, if_false, wi]; exact e1), fun h => ⟨fun j a b => ?_, (e2 h).2⟩⟩
      by_cases e : j = i
      · rw [e]; omega
      · exact (e2 h).1 j (by omega) b
theorem large_ok {M : List S54} (hM : wRow wT54 M) (A B : List Int) (b c d e : Int) (P : List S69) : ∃ r, Ev (fun k => hinterlandlaw14_large.f k M A B b c d e P) r ∧ (r = false → Small M ∧ A.length ≤ 500 ∧ B.length ≤ 500 ∧ P.length ≤ 500) := by
  obtain ⟨r, e1, e2⟩ := large_loop hM.1 (A := A) (B := B) (P := P) b c d e M.length 0 (by omega) (by omega)
  exact ⟨r, e1, fun h => ⟨⟨(e2 h).2.1, fun i a b => (e2 h).1 i a b⟩, (e2 h).2.2⟩⟩
end Go.Proofs.Ytgnahbjpockdmaa.Vm

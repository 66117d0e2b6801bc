import Derived.Test.YtchflcnegpnkkaaVal
import Derived.Test.YtchflcnegpnkkaaKnown
import Derived.Test.YtchflcnegpnkkaaTil
import Derived.Test.YtchflcnegpnkkaaShi
import Derived.Test.YtchflcnegpnkkaaQ20
namespace Go.Proofs.Ytchflcnegpnkkaa.Pure
open Go.RowKit Go.Proofs.YtchflcnegpnkkaaOwn Go.Proofs.Ytchflcnegpnkkaa.Q Go.Proofs.Ytchflcnegpnkkaa.Val Go.Proofs.Ytchflcnegpnkkaa.Known Go.Proofs.Ytchflcnegpnkkaa.Til Go.Proofs.Ytchflcnegpnkkaa.Shi Go.Proofs.YtchflcnegpnkkaaW.PrintWords Go.Proofs.YtchflcnegpnkkaaW.PrintLast
def Sum (W H x y : Int) (L : List Int) (up : Bool) (r : Shi.R) : Prop := r.2.2.2.2.2 ≠ 0 ∨ (Valid W H L ∧ 0 ≤ x ∧ x ≤ W ∧ 0 ≤ y ∧ y ≤ H ∧ ∃ (M : List Int) (C : List S36) (S : Int), r = (W, H, M, C, S, 0) ∧ M.length = L.length ∧ ∀ q : Int, 0 ≤ q → q < (L.length : Int) → rd M q = nv W x y (if up = true then rd L (y * (W + 1) + x) + 1 else rd L (y * (W + 1) + x) - 1) up L q)
theorem shift_both (W H : Int) (L : List Int) (x y : Int) (up : Bool) (h : List Int) (hl : (h.length : Int) ≤ 4000) : ∃ r : Shi.R, Ev (fun k => land_Shift.f k W H L x y up h) r ∧ Ev (fun k => hinterlandref02_Shift.f k W H L x y up h) r ∧ r.2.2.1.length ≤ 2000 ∧ r.2.2.2.1.length ≤ 2000 ∧ Sum W H x y L up r := by
  obtain ⟨e, v1, v2, v3⟩ := validate_ok W H L
  unfold land_Shift.f hinterlandref02_Shift.f
  by_cases he : e = 0
  · have v := v3.1 he
    rw [he] at v1 v2
    have s := v.1
    obtain ⟨n0, n1⟩ := len_le s
    obtain ⟨sa, sb, sc, se, sf⟩ := id s
    by_cases hc : x < 0 ∨ x > W ∨ y < 0 ∨ y > H
    · refine ⟨(0, 0, [], [], 0, 2), Ev.bind v1 ⟨1, fun k hk => ?_⟩, Ev.bind v2 ⟨1, fun k hk => ?_⟩, by simp, by simp, Or.inl (by decide)⟩ <;> obtain ⟨k, rfl⟩ : ∃ m, k = m + 1 := ⟨k - 1, by omega⟩
      · simp only [if_true, land_Shift.j0]
        by_cases c1 : x < 0
        · rw [if_pos c1]
        by_cases c2 : x > W
        · rw [if_neg c1, if_pos c2]
        by_cases c3 : y < 0
        · rw [if_neg c1, if_neg c2, if_pos c3]
        rw [if_neg c1, if_neg c2, if_neg c3, if_pos (decide_eq_true (by omega))]
      · simp only [if_true, hinterlandref02_Shift.j0]
        by_cases c1 : x < 0
        · rw [if_pos c1]
        by_cases c2 : x > W
        · rw [if_neg c1, if_pos c2]
        by_cases c3 : y < 0
        · rw [if_neg c1, if_neg c2, if_pos c3]
        rw [if_neg c1, if_neg c2, if_neg c3, if_pos (decide_eq_true (by omega))]
    · have c1 : ¬ x < 0 := by omega
      have c2 : ¬ x > W := by omega
      have c3 : ¬ y < 0 := by omega
      have c4 : ¬ y > H := by omega
      obtain ⟨p0, p1⟩ := row_in (m := W + 1) (show 0 ≤ y by omega) (show y ≤ H by omega) (by omega)
      have hp : wrap64 (wrap64 (y * wrap64 (W + 1)) + x) = y * (W + 1) + x := by
        rw [w64_in (x := W + 1) (by omega) (by omega), w64_in (x := y * (W + 1)) (by omega) (by omega), w64_in (by omega) (by omega)]
      have q0 : 0 ≤ y * (W + 1) + x := by omega
      have q1 : y * (W + 1) + x < (L.length : Int) := by omega
      have hz := v.2.1 _ q0 q1
      have w1 : wrap64 (rd L (y * (W + 1) + x) - 1) = rd L (y * (W + 1) + x) - 1 := w64_in (by omega) (by omega)
      have w2 : wrap64 (rd L (y * (W + 1) + x) - 1 + 2) = rd L (y * (W + 1) + x) + 1 := by rw [w64_in (by omega) (by omega)]; omega
      have w3 : wrap64 (rd L (y * (W + 1) + x) + 1) = rd L (y * (W + 1) + x) + 1 := w64_in (by omega) (by omega)
      generalize hzz : (if up = true then rd L (y * (W + 1) + x) + 1 else rd L (y * (W + 1) + x) - 1) = z
      have la : ∀ r, Ev (fun k => land_Shift.j1 k x y up h z W H L) r → Ev (fun k => if (0 : Int) = 0 then (if x < 0 then land_Shift.j0 k x y up h true W H L else if x > W then land_Shift.j0 k x y up h true W H L else if y < 0 then land_Shift.j0 k x y up h true W H L else land_Shift.j0 k x y up h (decide (y > H)) W H L) else some (0, 0, ([] : List Int), ([] : List (S36)), 0, 0)) r := by
        intro r hr
        simp only [if_true, c1, c2, c3, c4, if_false, decide_false]
        refine Ev.step (fun _ => rfl) ?_
        simp only [land_Shift.j0, hp, q0, q1, if_true, w1, w2]
        cases up with
        | true => simp only [if_true] at hzz ⊢; rw [hzz]; exact hr
        | false => simp at hzz ⊢; rw [hzz]; exact hr
      have ra : ∀ r, Ev (fun k => hinterlandref02_Shift.j1 k x y up h z W H L) r → Ev (fun k => if (0 : Int) = 0 then (if x < 0 then hinterlandref02_Shift.j0 k x y up h true W H L else if x > W then hinterlandref02_Shift.j0 k x y up h true W H L else if y < 0 then hinterlandref02_Shift.j0 k x y up h true W H L else hinterlandref02_Shift.j0 k x y up h (decide (y > H)) W H L) else some (0, 0, ([] : List Int), ([] : List (S36)), 0, 0)) r := by
        intro r hr
        simp only [if_true, c1, c2, c3, c4, if_false, decide_false]
        refine Ev.step (fun _ => rfl) ?_
        simp only [hinterlandref02_Shift.j0, hp, q0, q1, if_true, w1, w3]
        cases up with
        | true => simp only [if_true] at hzz ⊢; rw [hzz]; exact hr
        | false => simp at hzz ⊢; rw [hzz]; exact hr
      by_cases hb : z < 0 ∨ z > 15
      · refine ⟨(0, 0, [], [], 0, 6), Ev.bind v1 (la _ ⟨2, fun k hk => ?_⟩), Ev.bind v2 (ra _ ⟨2, fun k hk => ?_⟩), by simp, by simp, Or.inl (by decide)⟩ <;> obtain ⟨k, rfl⟩ : ∃ m, k = m + 1 + 1 := ⟨k - 2, by omega⟩
        · simp only [land_Shift.j1, land_Shift.j2]
          by_cases d1 : z < 0
          · rw [if_pos d1, if_pos trivial]
          rw [if_neg d1, if_pos (decide_eq_true (by omega))]
        · simp only [hinterlandref02_Shift.j1, hinterlandref02_Shift.j2]
          by_cases d1 : z < 0
          · rw [if_pos d1, if_pos trivial]
          rw [if_neg d1, if_pos (decide_eq_true (by omega))]
      · have d1 : ¬ z < 0 := by omega
        have d2 : ¬ z > 15 := by omega
        obtain ⟨r, e1, e2, e3⟩ := shift_loop s v.2.1 hl (x := x) (y := y) (z := z) (by omega) (by omega) (by omega) up L.length 0 [] [] 0 (by omega) (by omega) rfl (fun q a b => by omega) ⟨by simp, fun j a b => by simp at b; omega, fun q a b => by omega⟩
        have hlen : ([] : List Int).length + L.length < 17592186044416 := by simp; omega
        refine ⟨r, Ev.bind v1 (la _ (Ev.step (fun _ => rfl) ?_)), Ev.bind v2 (ra _ (Ev.step (fun _ => rfl) ?_)), ?_, ?_, ?_⟩
        · simp only [land_Shift.j1, d1, d2, if_false, decide_false]
          refine Ev.step (fun _ => rfl) ?_
          simp only [land_Shift.j2, hlen, if_true]
          exact e1
        · simp only [hinterlandref02_Shift.j1, d1, d2, if_false, decide_false]
          refine Ev.step (fun _ => rfl) ?_
          simp only [hinterlandref02_Shift.j2]
          exact e2
        · rcases e3 with rfl | ⟨M, C, S, rfl, m1, m2, m3⟩
          · simp [E7]
          · show M.length ≤ 2000; omega
        · rcases e3 with rfl | ⟨M, C, S, rfl, m1, m2, m3⟩
          · simp [E7]
          · show C.length ≤ 2000; omega
        · rcases e3 with rfl | ⟨M, C, S, rfl, m1, m2, m3⟩
          · exact Or.inl (by decide)
          · refine Or.inr ⟨v, by omega, by omega, by omega, by omega, M, C, S, rfl, m1, ?_⟩
            rw [hzz]; exact m3
  · refine ⟨(0, 0, [], [], 0, e), Ev.bind v1 ?_, Ev.bind v2 ?_, by simp, by simp, Or.inl he⟩
    · simp [he]; exact Ev.now _
    · simp [he]; exact Ev.now _
theorem list_self {l : List Int} (hl : l.length < 1000000000) : ∀ (d : Nat) (i : Int), 0 ≤ i → i + d = l.length → Ev (fun k => hinterlandsame_List_int.l0 k l l i) true := by
  intro d; induction d with
  | zero =>
    intro i i0 hd
    refine Ev.step (fun _ => rfl) ?_
    simp only [hinterlandsame_List_int.l0, show ¬ i < (l.length : Int) by omega, if_false]; exact Ev.now _
  | succ d ih =>
    intro i i0 hd
    refine Ev.step (fun _ => rfl) ?_
    simp only [hinterlandsame_List_int.l0, show i < (l.length : Int) by omega, i0, if_true, show wrap64 (i + 1) = i + 1 from w64_in (by omega) (by omega)]
    exact ih (i + 1) (by omega) (by omega)
theorem land_self (a b : Int) {l : List Int} (hl : l.length < 1000000000) : Ev (fun k => hinterlandsame_Land.f k a b l a b l) true := by
  unfold hinterlandsame_Land.f
  simp only [if_true]
  refine Ev.bind (?_ : Ev _ true) (Ev.now _)
  unfold hinterlandsame_List_int.f
  simp only [if_true]
  exact list_self hl l.length 0 (by omega) (by omega)
theorem corners_self {l : List S36} (hl : l.length < 1000000000) : ∀ (d : Nat) (i : Int), 0 ≤ i → i + d = l.length → Ev (fun k => api_Corner.l0 k l l i) true := by
  intro d; induction d with
  | zero =>
    intro i i0 hd
    refine Ev.step (fun _ => rfl) ?_
    simp only [api_Corner.l0, show ¬ i < (l.length : Int) by omega, if_false]; exact Ev.now _
  | succ d ih =>
    intro i i0 hd
    refine Ev.step (fun _ => rfl) ?_
    simp only [api_Corner.l0, show i < (l.length : Int) by omega, i0, if_true, show wrap64 (i + 1) = i + 1 from w64_in (by omega) (by omega), beq_self_eq_true, Bool.not_true, Bool.or_self]
    exact ih (i + 1) (by omega) (by omega)
theorem corners_ok {l : List S36} (hl : l.length < 1000000000) : Ev (fun k => api_Corner.f k l l) true := by
  unfold api_Corner.f
  simp only [if_true]
  exact corners_self hl l.length 0 (by omega) (by omega)
theorem large1 (a b : Int) (L h : List Int) : Ev (fun k => hinterlandlaw02_large.f k a b L [h]) (decide (mx (L.length : Int) h.length > 4000)) := by
  unfold hinterlandlaw02_large.f
  refine ⟨2, fun k hk => ?_⟩
  obtain ⟨k, rfl⟩ : ∃ m, k = m + 1 + 1 := ⟨k - 2, by omega⟩
  simp only [hinterlandlaw02_large.l0]
  rw [if_pos (by simp), if_pos (by omega), if_pos (by simp), if_neg (by rw [w64_in (by omega) (by omega)]; simp)]
  rfl
theorem LandShifts : hinterlandlaw02_LandShifts.Pure := by
  intro a b L x y up h _ _ _ _ _ _ _
  refine Ev.rounds ?_
  unfold hinterlandlaw02_LandShifts.f
  refine Ev.bind (large1 a b L h) ?_
  by_cases hg : decide (mx (L.length : Int) h.length > 4000) = true
  · simp only [hg, if_true]
    exact Ev.bind known_ev (Ev.now _)
  · simp only [hg]
    have hl : (h.length : Int) ≤ 4000 := by
      simp only [decide_eq_true_eq] at hg
      unfold mx at hg
      split at hg <;> omega
    obtain ⟨r, h1, h2, l1, l2, _⟩ := shift_both a b L x y up h hl
    refine Ev.bind h1 (Ev.bind h2 ?_)
    simp only [if_true]
    refine Ev.bind (land_self r.1 r.2.1 (l := r.2.2.1) (by omega)) ?_
    simp only [if_true]
    refine Ev.bind (corners_ok (l := r.2.2.2.1) (by omega)) ?_
    simp only [if_true]
    refine Ev.bind known_ev ?_
    exact Ev.step (fun _ => rfl) (by simp only [hinterlandlaw02_LandShifts.j0]; exact Ev.now _)
end Go.Proofs.Ytchflcnegpnkkaa.Pure

import Derived.Test.YtchflcnegpnkkaaPar
import Derived.Test.YtchflcnegpnkkaaQ45
import Derived.Test.YtchflcnegpnkkaaQ46
namespace Go.Proofs.Ytchflcnegpnkkaa.Tex
open Go.RowKit Go.Proofs.YtchflcnegpnkkaaOwn Go.Proofs.Ytchflcnegpnkkaa.Q Go.Proofs.Ytchflcnegpnkkaa.Val Go.Proofs.Ytchflcnegpnkkaa.Byt Go.Proofs.Ytchflcnegpnkkaa.Par Go.Proofs.YtchflcnegpnkkaaW.PrintWords Go.Proofs.YtchflcnegpnkkaaW.PrintLast
theorem rd_app {N : List Int} {v j : Int} (h0 : 0 ≤ j) (h : j < (N.length : Int)) : rd (N ++ [v]) j = rd N j := by
  unfold rd
  rw [List.getD_eq_getElem?_getD, List.getD_eq_getElem?_getD, List.getElem?_append_left (by omega)]
theorem rd_end {N : List Int} {v j : Int} (h : j = (N.length : Int)) : rd (N ++ [v]) j = v := by subst h; unfold rd; simp
/-- The text of the rows above y, and of x corners of row y. -/
structure T (W : Int) (L : List Int) (y x : Int) (M : List Int) : Prop where
  len : (M.length : Int) = y * (W + 2) + x
  chars : ∀ y' x', 0 ≤ y' → 0 ≤ x' → x' ≤ W → (y' < y ∨ y' = y ∧ x' < x) → rd M (y' * (W + 2) + x') = 97 + rd L (y' * (W + 1) + x')
  nls : ∀ y', 0 ≤ y' → y' < y → rd M (y' * (W + 2) + (W + 1)) = 10
theorem below {W y y' : Int} (hW : 0 ≤ W) (h0 : 0 ≤ y') (h : y' < y) : 0 ≤ y' * (W + 2) ∧ y' * (W + 2) + (W + 2) ≤ y * (W + 2) := by
  have := row_in (y := y') (H := y - 1) (m := W + 2) h0 (by omega) (by omega)
  rw [show y - 1 + 1 = y by omega] at this; exact this
theorem T.char {W : Int} {L : List Int} {y x : Int} {M : List Int} (t : T W L y x M) (hW : 0 ≤ W) (y0 : 0 ≤ y) (x0 : 0 ≤ x) : T W L y (x + 1) (M ++ [97 + rd L (y * (W + 1) + x)]) := by
  have hy := Int.mul_nonneg y0 (show 0 ≤ W + 2 by omega)
  refine ⟨?_, fun y' x' a b c d => ?_, fun y' a b => ?_⟩
  · rw [List.length_append, Int.natCast_add, t.len]; simp; omega
  · by_cases e : y' = y ∧ x' = x
    · rw [e.1, e.2, rd_end (by rw [t.len])]
    · have : y' * (W + 2) + x' < (M.length : Int) := by
        rw [t.len]
        by_cases h : y' < y
        · have := below hW a h; omega
        · have : y' = y := by omega
          rw [this]; omega
      rw [rd_app (by have := Int.mul_nonneg a (show 0 ≤ W + 2 by omega); omega) this]
      exact t.chars y' x' a b c (by omega)
  · have h := below hW a b
    rw [rd_app (by omega) (by rw [t.len]; omega)]; exact t.nls y' a b
theorem T.nl {W : Int} {L : List Int} {y : Int} {M : List Int} (t : T W L y (W + 1) M) (hW : 0 ≤ W) (y0 : 0 ≤ y) : T W L (y + 1) 0 (M ++ [10]) := by
  have hy := Int.mul_nonneg y0 (show 0 ≤ W + 2 by omega)
  have e1 : (y + 1) * (W + 2) = y * (W + 2) + (W + 2) := by rw [Int.add_mul, Int.one_mul]
  refine ⟨?_, fun y' x' a b c d => ?_, fun y' a b => ?_⟩
  · rw [List.length_append, Int.natCast_add, t.len, e1]; simp; omega
  · have : y' * (W + 2) + x' < (M.length : Int) := by
      rw [t.len]
      by_cases h : y' < y
      · have := below hW a h; omega
      · have : y' = y := by omega
        rw [this]; omega
    rw [rd_app (by have := Int.mul_nonneg a (show 0 ≤ W + 2 by omega); omega) this]
    exact t.chars y' x' a b c (by omega)
  · by_cases e : y' = y
    · rw [e, rd_end (by rw [t.len])]
    · have h := below hW a (show y' < y by omega)
      rw [rd_app (by omega) (by rw [t.len]; omega)]; exact t.nls y' a (by omega)
theorem col {W y x : Int} (y0 : 0 ≤ y) (x0 : 0 ≤ x) (hx : x ≤ W) : Int.tmod (y * (W + 1) + x) (W + 1) = x := by
  have := Int.mul_nonneg y0 (show 0 ≤ W + 1 by omega)
  rw [Int.tmod_eq_emod_of_nonneg (by omega), Int.add_comm, Int.add_mul_emod_self_right, Int.emod_eq_of_lt x0 (by omega)]
theorem text_loop {W H : Int} {L : List Int} (s : Sides W H L) (hh : Hts L) : ∀ (d : Nat) (y x : Int) (M : List Int), 0 ≤ y → y ≤ H + 1 → (y = H + 1 → x = 0) → 0 ≤ x → x ≤ W → y * (W + 1) + x + d = L.length → T W L y x M →
    ∃ M', Ev (fun k => land_Text.l0 k M L (L.length : Int) (y * (W + 1) + x) W H L) (strOfNums M', 0) ∧ Ev (fun k => hinterlandref02_Text.l0 k M L (L.length : Int) (y * (W + 1) + x) W H L) (strOfNums M', 0) ∧ T W L (H + 1) 0 M' := by
  obtain ⟨a, b, c, e, f⟩ := id s
  obtain ⟨n0, n1⟩ := len_le s
  intro d; induction d with
  | zero =>
    intro y x M y0 y1 hyx x0 x1 hd t
    have hy : y = H + 1 := by
      by_cases h : y ≤ H
      · have := (row_in (m := W + 1) y0 h (by omega)).2; omega
      · omega
    have hx := hyx hy
    subst hy; subst hx
    refine ⟨M, Ev.step (fun _ => rfl) ?_, Ev.step (fun _ => rfl) ?_, t⟩
    · simp only [land_Text.l0, show ¬ (H + 1) * (W + 1) + 0 < (L.length : Int) by omega, if_false]; exact Ev.now _
    · simp only [hinterlandref02_Text.l0, show ¬ (H + 1) * (W + 1) + 0 < (L.length : Int) by omega, if_false]; exact Ev.now _
  | succ d ih =>
    intro y x M y0 y1 hyx x0 x1 hd t
    have hyH : y ≤ H := by
      by_cases h : y ≤ H
      · exact h
      · have : y = H + 1 := by omega
        have := hyx this; subst y; omega
    obtain ⟨p0, p1⟩ := row_in (m := W + 1) y0 hyH (by omega)
    obtain ⟨q0, q1⟩ := row_in (m := W + 2) y0 hyH (by omega)
    have q2 := Int.mul_le_mul (show H + 1 ≤ 33 by omega) (show W + 2 ≤ 34 by omega) (by omega) (by omega)
    have hi : y * (W + 1) + x < (L.length : Int) := by omega
    have i0 : 0 ≤ y * (W + 1) + x := by omega
    have hM : M.length < 140737488355328 := by have := t.len; omega
    have hz := hh _ i0 hi
    have hc : wrap64 (97 + rd L (y * (W + 1) + x)) % 256 = 97 + rd L (y * (W + 1) + x) := by rw [w64_in (by omega) (by omega)]; omega
    have wW : wrap64 (W + 1) = W + 1 := w64_in (by omega) (by omega)
    have wi : wrap64 (y * (W + 1) + x + 1) = y * (W + 1) + x + 1 := w64_in (by omega) (by omega)
    have hcol := col (W := W) y0 x0 x1
    have hW0 : ¬ (W + 1 = 0) := by omega
    have t1 := t.char (by omega) y0 x0
    have hM1 : (M ++ [97 + rd L (y * (W + 1) + x)]).length < 140737488355328 := by have := t1.len; omega
    by_cases hx : x = W
    · subst hx
      have e1 : (y + 1) * (x + 1) + 0 = y * (x + 1) + x + 1 := by rw [Int.add_mul, Int.one_mul]; omega
      obtain ⟨M', g1, g2, g3⟩ := ih (y + 1) 0 _ (by omega) (by omega) (fun _ => rfl) (by omega) (by omega) (by rw [e1]; omega) (t1.nl (by omega) y0)
      rw [e1] at g1 g2
      refine ⟨M', Ev.step (fun _ => rfl) ?_, Ev.step (fun _ => rfl) ?_, g3⟩
      · simp only [land_Text.l0, hi, i0, hM, if_true, hc, Option.bind_some, wW, hW0, if_false, hcol, hM1, wi]; exact g1
      · simp only [hinterlandref02_Text.l0, hi, i0, hM, if_true, hc, Option.bind_some, wW, hW0, if_false, hcol, hM1, wi]; exact g2
    · obtain ⟨M', g1, g2, g3⟩ := ih y (x + 1) _ y0 y1 (fun h => by omega) (by omega) (by omega) (by omega) t1
      rw [← Int.add_assoc] at g1 g2
      refine ⟨M', Ev.step (fun _ => rfl) ?_, Ev.step (fun _ => rfl) ?_, g3⟩
      · simp only [land_Text.l0, hi, i0, hM, if_true, hc, Option.bind_some, wW, hW0, if_false, hcol, hx, wi]; exact g1
      · simp only [hinterlandref02_Text.l0, hi, i0, hM, if_true, hc, Option.bind_some, wW, hW0, if_false, hcol, hx, wi]; exact g2
theorem str_size (M : List Int) : (strOfNums M).size = M.length := by show (List.map _ M).toArray.size = _; simp
theorem str_bt (M : List Int) {i : Int} (i0 : 0 ≤ i) (hi : i < (M.length : Int)) (h : 0 ≤ rd M i ∧ rd M i < 256) : bt (strOfNums M) i = rd M i := by
  have h1 : i.toNat < (strOfNums M).size := by rw [str_size]; omega
  have h2 : i.toNat < M.length := by omega
  rw [← bt_at _ _ h1]
  have e : (strOfNums M)[i.toNat]'h1 = UInt8.ofNat (M[i.toNat]'h2).toNat := by
    show (List.map (fun n : Int => UInt8.ofNat n.toNat) M).toArray[i.toNat]'(by simpa using h2) = _
    rw [List.getElem_toArray, List.getElem_map]
  have hr : rd M i = M[i.toNat]'h2 := by unfold rd; rw [List.getD_eq_getElem?_getD, List.getElem?_eq_getElem h2]; rfl
  rw [e]
  rw [hr] at h ⊢
  have : (UInt8.ofNat (M[i.toNat]'h2).toNat).toNat = (M[i.toNat]'h2).toNat % 256 := by simp
  rw [this]; omega
theorem vs_is (X : ByteArray) (L : List Int) : ∀ (d : Nat) (j : Int) (i : Nat), i + d ≤ L.length → (∀ q : Int, 0 ≤ q → q < d → (bt X (j + q) - 97) % 256 = rd L ((i : Int) + q)) → vs X j d = (L.drop i).take d := by
  intro d; induction d with
  | zero => intro j i _ _; simp [vs]
  | succ d ih =>
    intro j i hi h
    have h0 := h 0 (by omega) (by omega)
    rw [Int.add_zero, Int.add_zero] at h0
    have := ih (j + 1) (i + 1) (by omega) (fun q a b => by
      have := h (q + 1) (by omega) (by omega)
      rw [show j + 1 + q = j + (q + 1) by omega, this]; congr 1; omega)
    rw [vs, this, h0, List.drop_eq_getElem_cons (show i < L.length by omega), List.take_succ_cons]
    congr 1
    unfold rd
    rw [List.getD_eq_getElem?_getD, List.getElem?_eq_getElem (by omega)]; rfl
theorem rows_read {W H : Int} {L M : List Int} (v : Valid W H L) (t : T W L (H + 1) 0 M) : ∀ (d : Nat) (y : Int), 0 ≤ y → y + d = H + 1 →
    Ev (fun k => land_Parse.l0 k (strOfNums M) (if y = 0 then -1 else W + 1) (y * (W + 2)) y ((strOfNums M).size : Int) (y * (W + 2)) 0 0 (L.take (y * (W + 1)).toNat)) (W, H, L, 0, 0) := by
  have s := v.1
  obtain ⟨a, b, c, e, f⟩ := id s
  obtain ⟨n0, n1⟩ := len_le s
  have hsz : ((strOfNums M).size : Int) = (H + 1) * (W + 2) := by rw [str_size, t.len]; omega
  have q2 := Int.mul_le_mul (show H + 1 ≤ 33 by omega) (show W + 2 ≤ 34 by omega) (by omega) (by omega)
  intro d; induction d with
  | zero =>
    intro y y0 hd
    have hy : y = H + 1 := by omega
    subst hy
    obtain ⟨t', v1, v2, v3⟩ := validate_ok W H L
    have := v3.2 v; subst this
    refine Ev.step (fun _ => rfl) ?_
    have hL : L.take ((H + 1) * (W + 1)).toNat = L := by rw [← f]; exact List.take_of_length_le (by omega)
    have w1 : wrap64 (W + 1 - 1) = W := by rw [w64_in (by omega) (by omega)]; omega
    have w2 : wrap64 (H + 1 - 1) = H := by rw [w64_in (by omega) (by omega)]; omega
    simp only [land_Parse.l0, hsz, show ¬ (H + 1) * (W + 2) < (H + 1) * (W + 2) by omega, if_false, show ¬ H + 1 = 0 by omega, hL, w1, w2]
    exact Ev.bind v1 (by simp only [if_true]; exact Ev.now _)
  | succ d ih =>
    intro y y0 hd
    have hy : y ≤ H := by omega
    obtain ⟨p0, p1⟩ := row_in (m := W + 1) y0 hy (by omega)
    obtain ⟨q0, q1⟩ := row_in (m := W + 2) y0 hy (by omega)
    have hb : ∀ x, 0 ≤ x → x ≤ W → bt (strOfNums M) (y * (W + 2) + x) = 97 + rd L (y * (W + 1) + x) ∧ 0 ≤ rd L (y * (W + 1) + x) ∧ rd L (y * (W + 1) + x) ≤ 15 := by
      intro x x0 x1
      have hc := t.chars y x y0 x0 x1 (by omega)
      have hz := v.2.1 (y * (W + 1) + x) (by omega) (by omega)
      exact ⟨by rw [str_bt M (by omega) (by rw [t.len]; omega) (by rw [hc]; omega), hc], hz⟩
    have hn : bt (strOfNums M) (y * (W + 2) + (W + 1)) = 10 := by
      have hc := t.nls y y0 (by omega)
      rw [str_bt M (by omega) (by rw [t.len]; omega) (by rw [hc]; omega), hc]
    have hno : ∀ u, y * (W + 2) ≤ u → u < y * (W + 2) + (W + 1) → bt (strOfNums M) u = 97 + rd L (y * (W + 1) + (u - y * (W + 2))) ∧ 0 ≤ rd L (y * (W + 1) + (u - y * (W + 2))) ∧ rd L (y * (W + 1) + (u - y * (W + 2))) ≤ 15 := by
      intro u u0 u1
      have := hb (u - y * (W + 2)) (by omega) (by omega)
      rw [show y * (W + 2) + (u - y * (W + 2)) = u by omega] at this; exact this
    have yy : y ≤ y * (W + 2) := by
      have := Int.mul_le_mul_of_nonneg_left (show 1 ≤ W + 2 by omega) y0
      omega
    have hlt : ((L.take (y * (W + 1)).toNat).length : Int) ≤ y * (W + 2) := by
      have : y * (W + 2) = y * (W + 1) + y := by rw [show W + 2 = (W + 1) + 1 by omega, Int.mul_add, Int.mul_one]
      have : (L.take (y * (W + 1)).toNat).length ≤ (y * (W + 1)).toNat := List.length_take_le _ _
      omega
    obtain ⟨g, _⟩ := land_line (X := strOfNums M) (by omega) (p := y * (W + 2)) (e := y * (W + 2) + (W + 1)) (m := y) (f := W + 1) q0 (by omega) (by omega) hn (fun u u0 u1 => by have := hno u u0 u1; omega) y0 yy (fun _ => by omega) hlt
    have ep : y * (W + 2) + (W + 1) - y * (W + 2) = W + 1 := by omega
    rw [ep] at g
    refine g ⟨by omega, fun u u0 u1 => by have := hno u u0 u1; omega, Or.inr (by omega)⟩ _ ?_
    have hvs := vs_is (strOfNums M) L (W + 1).toNat (y * (W + 2)) (y * (W + 1)).toNat (by omega) (fun q a b => by
      have := hb q a (by omega)
      rw [this.1, show ((y * (W + 1)).toNat : Int) = y * (W + 1) by omega]; omega)
    have hcat : L.take (y * (W + 1)).toNat ++ vs (strOfNums M) (y * (W + 2)) (W + 1).toNat = L.take ((y + 1) * (W + 1)).toNat := by
      rw [hvs, ← List.take_add]; congr 1
      rw [Int.add_mul, Int.one_mul]; omega
    have hi := ih (y + 1) (by omega) (by omega)
    rw [if_neg (by omega), show (y + 1) * (W + 2) = y * (W + 2) + (W + 1) + 1 by rw [Int.add_mul, Int.one_mul]; omega, ← hcat] at hi
    have : (if y = 0 then W + 1 else W + 1) = W + 1 := by split <;> rfl
    rw [this]; exact hi
/-- The text of a valid land, and what land.Parse reads in it. -/
theorem text_both (W H : Int) (L : List Int) : ∃ r : ByteArray × Int, Ev (fun k => land_Text.f k W H L) r ∧ Ev (fun k => hinterlandref02_Text.f k W H L) r ∧ (r.2 = 0 → Valid W H L ∧ Ev (fun k => land_Parse.f k r.1) (W, H, L, 0, 0)) ∧ ∃ q, Ev (fun k => land_Parse.f k r.1) q := by
  obtain ⟨e, v1, v2, v3⟩ := validate_ok W H L
  unfold land_Text.f hinterlandref02_Text.f
  by_cases he : e = 0
  · have v := v3.1 he
    subst he
    have s := v.1
    obtain ⟨a, b, c, e, f⟩ := id s
    obtain ⟨n0, n1⟩ := len_le s
    obtain ⟨M, g1, g2, t⟩ := text_loop s v.2.1 L.length 0 0 [] (by omega) (by omega) (by omega) (by omega) (by omega) (by omega) ⟨by simp, fun y' x' _ _ _ h => by omega, fun y' _ h => by omega⟩
    rw [show (0 : Int) * (W + 1) + 0 = 0 by omega] at g1 g2
    have hsz : ((strOfNums M).size : Int) = (H + 1) * (W + 2) := by rw [str_size, t.len]; omega
    have q1 := (row_in (y := H) (H := H) (m := W + 2) (by omega) (by omega) (by omega))
    have q2 := Int.mul_le_mul (show H + 1 ≤ 33 by omega) (show W + 2 ≤ 34 by omega) (by omega) (by omega)
    have hp : Ev (fun k => land_Parse.f k (strOfNums M)) (W, H, L, 0, 0) := by
      have hr := rows_read v t (H + 1).toNat 0 (by omega) (by omega)
      have hne : ¬ (strOfNums M).toList = ([] : List UInt8) := fun h => by have := (empty_iff _).1 h; omega
      have hw : wrap64 (((strOfNums M).size : Int) - 1) = ((strOfNums M).size : Int) - 1 := w64_in (by omega) (by omega)
      have hl : bt (strOfNums M) (((strOfNums M).size : Int) - 1) = 10 := by
        have hc := t.nls H (by omega) (by omega)
        have e1 : (H + 1) * (W + 2) = H * (W + 2) + (W + 2) := by rw [Int.add_mul, Int.one_mul]
        have e2 : ((strOfNums M).size : Int) - 1 = H * (W + 2) + (W + 1) := by rw [hsz]; omega
        rw [e2, str_bt M (by omega) (by rw [t.len]; omega) (by rw [hc]; omega), hc]
      unfold land_Parse.f
      simp only [hne, if_false, hw, show 0 ≤ ((strOfNums M).size : Int) - 1 by omega, show ((strOfNums M).size : Int) - 1 < ((strOfNums M).size : Int) by omega, if_true, hl]
      refine Ev.step (fun _ => rfl) ?_
      simp only [land_Parse.j0]
      simpa using hr
    refine ⟨(strOfNums M, 0), Ev.bind v1 ?_, Ev.bind v2 ?_, fun _ => ⟨v, hp⟩, _, hp⟩
    · simp only [if_true]; exact g1
    · simp only [if_true]; exact g2
  · refine ⟨((⟨#[]⟩ : ByteArray), e), Ev.bind v1 ?_, Ev.bind v2 ?_, fun h => absurd h he, (0, 0, [], 0, 14), ?_⟩
    · simp only [he, if_false]; exact Ev.now _
    · simp only [he, if_false]; exact Ev.now _
    · unfold land_Parse.f
      have : (⟨#[]⟩ : ByteArray).toList = ([] : List UInt8) := (empty_iff _).2 rfl
      simp only [this, if_true]; exact Ev.now _
end Go.Proofs.Ytchflcnegpnkkaa.Tex

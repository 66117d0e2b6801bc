import Derived.Test.YtchflcnegpnkkaaTil
import Derived.Test.YtchflcnegpnkkaaQ8
import Derived.Test.YtchflcnegpnkkaaQ16
namespace Go.Proofs.Ytchflcnegpnkkaa.Shi
open Go.RowKit Go.Proofs.YtchflcnegpnkkaaOwn Go.Proofs.Ytchflcnegpnkkaa.Q Go.Proofs.Ytchflcnegpnkkaa.Val Go.Proofs.Ytchflcnegpnkkaa.Til Go.Proofs.YtchflcnegpnkkaaW.PrintWords Go.Proofs.YtchflcnegpnkkaaW.PrintLast
abbrev R := Int × Int × List Int × (List (S36)) × Int × Int
/-- The steps between two corners. -/
def dist (W x y i : Int) : Int := mx (x - i % (W + 1)) (i % (W + 1) - x) + mx (y - i / (W + 1)) (i / (W + 1) - y)
/-- What a corner becomes. -/
def nv (W x y z : Int) (up : Bool) (L : List Int) (i : Int) : Int := if up = true then mx (rd L i) (z - dist W x y i) else mn (rd L i) (z + dist W x y i)
def on (W t p : Int) : Prop := p = pl W t ∨ p = pl W t + 1 ∨ p = pl W t + W + 2 ∨ p = pl W t + W + 1
def Hit (W H : Int) (h : List Int) (i p : Int) : Prop := ∃ j, i ≤ j ∧ j < (h.length : Int) ∧ isT W H (rd h j) ∧ on W (rd h j) p
theorem held_ok {W H : Int} {L : List Int} (s : Sides W H L) {h : List Int} (hl : (h.length : Int) ≤ 4000) (p : Int) : ∀ (d : Nat) (i : Int), 0 ≤ i → i + d = h.length → ∃ b, Ev (fun k => hinterlandref02_held.l0 k p h (h.length : Int) i W H L) b ∧ (b = true ↔ Hit W H h i p) := by
  intro d; induction d with
  | zero =>
    intro i i0 hd
    refine ⟨false, ?_, ⟨fun h => absurd h (by decide), fun ⟨j, a, b, _⟩ => by omega⟩⟩
    refine Ev.step (fun _ => rfl) ?_
    simp only [hinterlandref02_held.l0, show ¬ i < (h.length : Int) by omega, if_false]; exact Ev.now _
  | succ d ih =>
    intro i i0 hd
    obtain ⟨b, h1, h2⟩ := ih (i + 1) (by omega) (by omega)
    have w1 : wrap64 (i + 1) = i + 1 := w64_in (by omega) (by omega)
    have split : Hit W H h i p ↔ (isT W H (rd h i) ∧ on W (rd h i) p) ∨ Hit W H h (i + 1) p := by
      constructor
      · rintro ⟨j, a, b, c, e⟩
        by_cases q : j = i
        · subst q; exact Or.inl ⟨c, e⟩
        · exact Or.inr ⟨j, by omega, b, c, e⟩
      · rintro (⟨c, e⟩ | ⟨j, a, b, c, e⟩)
        · exact ⟨i, by omega, by omega, c, e⟩
        · exact ⟨j, by omega, b, c, e⟩
    by_cases ht : isT W H (rd h i)
    · have hp := Til.places_ok s ht
      by_cases ho : on W (rd h i) p
      · refine ⟨true, ?_, ⟨fun _ => split.2 (Or.inl ⟨ht, ho⟩), fun _ => rfl⟩⟩
        refine ⟨6, fun k hk => ?_⟩
        obtain ⟨k, rfl⟩ : ∃ m, k = m + 1 + 1 + 1 + 1 + 1 + 1 := ⟨k - 6, by omega⟩
        show hinterlandref02_held.l0 (k + 1 + 1 + 1 + 1 + 1 + 1) p h (h.length : Int) i W H L = _
        simp only [hinterlandref02_held.l0]
        rw [if_pos (by omega), if_pos (by omega), if_pos (by omega), Is_ok s, decide_eq_true ht]
        simp only [Option.bind_some, if_true]
        rw [hp]
        simp only [Option.bind_some]
        unfold on at ho
        generalize pl W (rd h i) = q at *
        simp only [hinterlandref02_held.l1, show rd [q, q + 1, q + W + 2, q + W + 1] 0 = q from rfl, show wrap64 (0 + 1) = 1 from w64_in (by omega) (by omega), show wrap64 (1 + 1) = 2 from w64_in (by omega) (by omega), show wrap64 (2 + 1) = 3 from w64_in (by omega) (by omega), show wrap64 (3 + 1) = 4 from w64_in (by omega) (by omega), show rd [q, q + 1, q + W + 2, q + W + 1] 1 = q + 1 from rfl, show rd [q, q + 1, q + W + 2, q + W + 1] 2 = q + W + 2 from rfl, show rd [q, q + 1, q + W + 2, q + W + 1] 3 = q + W + 1 from rfl]
        by_cases g0 : q = p
        · rw [if_pos (by omega), if_pos (by omega), if_pos g0]
        rw [if_pos (by omega), if_pos (by omega), if_neg g0]
        by_cases g1 : q + 1 = p
        · rw [if_pos (by omega), if_pos (by omega), if_pos g1]
        rw [if_pos (by omega), if_pos (by omega), if_neg g1]
        by_cases g2 : q + W + 2 = p
        · rw [if_pos (by omega), if_pos (by omega), if_pos g2]
        rw [if_pos (by omega), if_pos (by omega), if_neg g2]
        rw [if_pos (by omega), if_pos (by omega), if_pos (by omega)]
      · obtain ⟨K, hK⟩ := h1
        refine ⟨b, ?_, by rw [h2, split]; exact ⟨Or.inr, fun g => g.elim (fun g => absurd g.2 ho) id⟩⟩
        refine ⟨K + 6, fun k hk => ?_⟩
        obtain ⟨k, rfl⟩ : ∃ m, k = m + 1 + 1 + 1 + 1 + 1 + 1 := ⟨k - 6, by omega⟩
        show hinterlandref02_held.l0 (k + 1 + 1 + 1 + 1 + 1 + 1) p h (h.length : Int) i W H L = _
        rw [hinterlandref02_held.l0]
        rw [if_pos (by omega), if_pos (by omega), if_pos (by omega), Is_ok s, decide_eq_true ht]
        simp only [Option.bind_some, if_true]
        rw [hp]
        simp only [Option.bind_some]
        unfold on at ho
        generalize pl W (rd h i) = q at *
        simp only [hinterlandref02_held.l1, show rd [q, q + 1, q + W + 2, q + W + 1] 0 = q from rfl, show wrap64 (0 + 1) = 1 from w64_in (by omega) (by omega), show wrap64 (1 + 1) = 2 from w64_in (by omega) (by omega), show wrap64 (2 + 1) = 3 from w64_in (by omega) (by omega), show wrap64 (3 + 1) = 4 from w64_in (by omega) (by omega), show rd [q, q + 1, q + W + 2, q + W + 1] 1 = q + 1 from rfl, show rd [q, q + 1, q + W + 2, q + W + 1] 2 = q + W + 2 from rfl, show rd [q, q + 1, q + W + 2, q + W + 1] 3 = q + W + 1 from rfl]
        rw [if_pos (by omega), if_pos (by omega), if_neg (by omega), if_pos (by omega), if_pos (by omega), if_neg (by omega), if_pos (by omega), if_pos (by omega), if_neg (by omega), if_pos (by omega), if_pos (by omega), if_neg (by omega), if_neg (by omega), w1]
        exact hK k (by omega)
    · refine ⟨b, ?_, by rw [h2, split]; exact ⟨Or.inr, fun g => g.elim (fun g => absurd g.1 ht) id⟩⟩
      refine Ev.step (fun _ => rfl) ?_
      simp only [hinterlandref02_held.l0, show i < (h.length : Int) by omega, i0, if_true, Is_ok s, ht, decide_false, Option.bind_some, w1]
      exact h1
/-- What was changed, as the lists tell it. -/
structure Told (W : Int) (ch : Int → Prop) (C : List S36) (i : Int) : Prop where
  len : (C.length : Int) ≤ i
  each : ∀ j : Int, 0 ≤ j → j < (C.length : Int) → ∃ q : Int, 0 ≤ q ∧ q < i ∧ ch q ∧ (rd_T36 C j).f0 = q % (W + 1) ∧ (rd_T36 C j).f1 = q / (W + 1)
  all : ∀ q : Int, 0 ≤ q → q < i → ch q → ∃ j : Int, 0 ≤ j ∧ j < (C.length : Int) ∧ (rd_T36 C j).f0 = q % (W + 1) ∧ (rd_T36 C j).f1 = q / (W + 1)
theorem rd_old {C : List S36} {c : S36} {j : Int} (h0 : 0 ≤ j) (h : j < (C.length : Int)) : rd_T36 (C ++ [c]) j = rd_T36 C j := by
  unfold rd_T36
  rw [List.getD_eq_getElem?_getD, List.getD_eq_getElem?_getD, List.getElem?_append_left (by omega)]
theorem rd_new {C : List S36} {c : S36} : rd_T36 (C ++ [c]) (C.length : Int) = c := by
  unfold rd_T36
  simp
theorem Told.same {W : Int} {ch : Int → Prop} {C : List S36} {i : Int} (t : Told W ch C i) (h : ¬ ch i) : Told W ch C (i + 1) := by
  refine ⟨by have := t.len; omega, fun j a b => ?_, fun q a b c => ?_⟩
  · obtain ⟨q, q0, q1, r⟩ := t.each j a b; exact ⟨q, q0, by omega, r⟩
  · by_cases e : q = i
    · subst e; exact absurd c h
    · exact t.all q a (by omega) c
theorem Told.more {W : Int} {ch : Int → Prop} {C : List S36} {i v : Int} (t : Told W ch C i) (h0 : 0 ≤ i) (h : ch i) : Told W ch (C ++ [⟨i % (W + 1), i / (W + 1), v⟩]) (i + 1) := by
  refine ⟨by have := t.len; simp; omega, fun j a b => ?_, fun q a b c => ?_⟩
  · by_cases e : j < (C.length : Int)
    · rw [rd_old a e]
      obtain ⟨q, q0, q1, r⟩ := t.each j a e; exact ⟨q, q0, by omega, r⟩
    · have : j = (C.length : Int) := by simp at b; omega
      rw [this, rd_new]
      exact ⟨i, h0, by omega, h, rfl, rfl⟩
  · by_cases e : q = i
    · subst e; exact ⟨C.length, by omega, by simp; omega, by rw [rd_new], by rw [rd_new]⟩
    · obtain ⟨j, a', b', c'⟩ := t.all q a (by omega) c
      exact ⟨j, a', by simp; omega, by rw [rd_old a' b']; exact c'⟩
def E7 : R := (0, 0, [], [], 0, 7)
def Bad (W H : Int) (L M h : List Int) (i : Int) : Prop := ∃ j, i ≤ j ∧ j < (h.length : Int) ∧ isT W H (rd h j) ∧ ∃ p, on W (rd h j) p ∧ rd L p ≠ rd M p
theorem land_tail {W H : Int} {L M : List Int} (s : Sides W H L) (hm : M.length = L.length) {h : List Int} (hl : (h.length : Int) ≤ 4000) (C : List S36) (S : Int) : ∀ (d : Nat) (i : Int), 0 ≤ i → i + d = h.length → (Bad W H L M h i → Ev (fun k => land_Shift.l1 k C S h (h.length : Int) i W H L W H M) E7) ∧ (¬ Bad W H L M h i → Ev (fun k => land_Shift.l1 k C S h (h.length : Int) i W H L W H M) (W, H, M, C, S, 0)) := by
  intro d; induction d with
  | zero =>
    intro i i0 hd
    refine ⟨fun ⟨j, a, b, _⟩ => by omega, fun _ => ?_⟩
    refine Ev.step (fun _ => rfl) ?_
    simp only [land_Shift.l1, show ¬ i < (h.length : Int) by omega, if_false]; exact Ev.now _
  | succ d ih =>
    intro i i0 hd
    obtain ⟨g1, g2⟩ := ih (i + 1) (by omega) (by omega)
    have w1 : wrap64 (i + 1) = i + 1 := w64_in (by omega) (by omega)
    have hi : i < (h.length : Int) := by omega
    have split : Bad W H L M h i ↔ (isT W H (rd h i) ∧ ∃ p, on W (rd h i) p ∧ rd L p ≠ rd M p) ∨ Bad W H L M h (i + 1) := by
      constructor
      · rintro ⟨j, a, b, c, e⟩
        by_cases q : j = i
        · subst q; exact Or.inl ⟨c, e⟩
        · exact Or.inr ⟨j, by omega, b, c, e⟩
      · rintro (⟨c, e⟩ | ⟨j, a, b, c, e⟩)
        · exact ⟨i, by omega, by omega, c, e⟩
        · exact ⟨j, by omega, b, c, e⟩
    by_cases ht : isT W H (rd h i)
    · have hp := four_ok s rfl ht
      have hq := four_ok s hm ht
      generalize hx : (!(rd L (pl W (rd h i)) == rd M (pl W (rd h i))) || (!(rd L (pl W (rd h i) + 1) == rd M (pl W (rd h i) + 1)) || (!(rd L (pl W (rd h i) + W + 2) == rd M (pl W (rd h i) + W + 2)) || (!(rd L (pl W (rd h i) + W + 1) == rd M (pl W (rd h i) + W + 1)))))) = bx
      have hbx : bx = true ↔ ∃ p, on W (rd h i) p ∧ rd L p ≠ rd M p := by
        rw [← hx]
        simp only [Bool.or_eq_true, Bool.not_eq_true', beq_eq_false_iff_ne, ne_eq]
        constructor
        · rintro (e | e | e | e)
          · exact ⟨_, Or.inl rfl, e⟩
          · exact ⟨_, Or.inr (Or.inl rfl), e⟩
          · exact ⟨_, Or.inr (Or.inr (Or.inl rfl)), e⟩
          · exact ⟨_, Or.inr (Or.inr (Or.inr rfl)), e⟩
        · rintro ⟨p, (rfl | rfl | rfl | rfl), e⟩
          · exact Or.inl e
          · exact Or.inr (Or.inl e)
          · exact Or.inr (Or.inr (Or.inl e))
          · exact Or.inr (Or.inr (Or.inr e))
      have go : ∀ k, land_Shift.l1 (k + 1 + 1) C S h (h.length : Int) i W H L W H M = if bx = true then some E7 else land_Shift.l1 k C S h (h.length : Int) (i + 1) W H L W H M := by
        intro k
        simp only [land_Shift.l1, land_Shift.j6]
        rw [if_pos hi, if_pos i0, if_pos hi, isTile_ok s, decide_eq_true ht]
        simp only [Option.bind_some, if_true]
        have hq' : land_four.f W H M (rd h i) = _ := hq
        rw [hp, hq']
        simp only [Option.bind_some, hx, w1]
        rfl
      have up : ∀ r, bx = false → Ev (fun k => land_Shift.l1 k C S h (h.length : Int) (i + 1) W H L W H M) r → Ev (fun k => land_Shift.l1 k C S h (h.length : Int) i W H L W H M) r := by
        intro r hb ⟨K, hK⟩
        refine ⟨K + 2, fun k hk => ?_⟩
        obtain ⟨k, rfl⟩ : ∃ m, k = m + 1 + 1 := ⟨k - 2, by omega⟩
        show land_Shift.l1 (k + 1 + 1) C S h (h.length : Int) i W H L W H M = _
        rw [go, hb, if_neg (by decide)]
        exact hK k (by omega)
      cases hb : bx with
      | true =>
        refine ⟨fun _ => ⟨2, fun k hk => ?_⟩, fun n => absurd (split.2 (Or.inl ⟨ht, hbx.1 hb⟩)) n⟩
        obtain ⟨k, rfl⟩ : ∃ m, k = m + 1 + 1 := ⟨k - 2, by omega⟩
        show land_Shift.l1 (k + 1 + 1) C S h (h.length : Int) i W H L W H M = _
        rw [go, hb, if_pos rfl]
      | false =>
        have nb : ¬ ∃ p, on W (rd h i) p ∧ rd L p ≠ rd M p := fun e => by rw [hbx.2 e] at hb; exact absurd hb (by decide)
        refine ⟨fun b => up _ hb (g1 ((split.1 b).elim (fun e => absurd e.2 nb) id)), fun n => up _ hb (g2 (fun b => n (split.2 (Or.inr b))))⟩
    · have up : ∀ r, Ev (fun k => land_Shift.l1 k C S h (h.length : Int) (i + 1) W H L W H M) r → Ev (fun k => land_Shift.l1 k C S h (h.length : Int) i W H L W H M) r := by
        intro r ⟨K, hK⟩
        refine ⟨K + 2, fun k hk => ?_⟩
        obtain ⟨k, rfl⟩ : ∃ m, k = m + 1 + 1 := ⟨k - 2, by omega⟩
        show land_Shift.l1 (k + 1 + 1) C S h (h.length : Int) i W H L W H M = _
        simp only [land_Shift.l1, land_Shift.j6]
        rw [if_pos hi, if_pos i0, if_pos hi, isTile_ok s, decide_eq_false ht]
        simp only [Option.bind_some, w1]
        exact hK k (by omega)
      exact ⟨fun b => up _ (g1 ((split.1 b).elim (fun e => absurd e.1 ht) id)), fun n => up _ (g2 (fun b => n (split.2 (Or.inr b))))⟩
theorem ref_tail {W H : Int} {L M : List Int} (s : Sides W H L) {h : List Int} (hl : (h.length : Int) ≤ 4000) (C : List S36) (S : Int) {ch : Int → Prop} (t : Told W ch C (L.length : Int)) : ∀ (d : Nat) (i : Int), 0 ≤ i → i + d = C.length → ((∃ j q : Int, i ≤ j ∧ j < (C.length : Int) ∧ (rd_T36 C j).f0 = q % (W + 1) ∧ (rd_T36 C j).f1 = q / (W + 1) ∧ Hit W H h 0 q) → Ev (fun k => hinterlandref02_Shift.l1 k h C S C (C.length : Int) i W H L W H M) E7) ∧ (¬ (∃ j q : Int, i ≤ j ∧ j < (C.length : Int) ∧ (rd_T36 C j).f0 = q % (W + 1) ∧ (rd_T36 C j).f1 = q / (W + 1) ∧ Hit W H h 0 q) → Ev (fun k => hinterlandref02_Shift.l1 k h C S C (C.length : Int) i W H L W H M) (W, H, M, C, S, 0)) := by
  obtain ⟨n0, n1⟩ := len_le s
  have tl := t.len
  have hs := s
  obtain ⟨sa, sb, sc, se, sf⟩ := s
  intro d; induction d with
  | zero =>
    intro i i0 hd
    refine ⟨fun ⟨j, q, a, b, _⟩ => by omega, fun _ => ?_⟩
    refine Ev.step (fun _ => rfl) ?_
    simp only [hinterlandref02_Shift.l1, show ¬ i < (C.length : Int) by omega, if_false]; exact Ev.now _
  | succ d ih =>
    intro i i0 hd
    obtain ⟨g1, g2⟩ := ih (i + 1) (by omega) (by omega)
    have w1 : wrap64 (i + 1) = i + 1 := w64_in (by omega) (by omega)
    have hi : i < (C.length : Int) := by omega
    obtain ⟨q, q0, q1, _, f0, f1⟩ := t.each i i0 hi
    have hdm : q / (W + 1) * (W + 1) + q % (W + 1) = q := by rw [Int.mul_comm]; exact Int.mul_ediv_add_emod q (W + 1)
    have hm0 := Int.emod_nonneg q (show W + 1 ≠ 0 by omega)
    have hd0 := Int.mul_nonneg (Int.ediv_nonneg q0 (show 0 ≤ W + 1 by omega)) (show 0 ≤ W + 1 by omega)
    have hpl : wrap64 (wrap64 ((rd_T36 C i).f1 * wrap64 (W + 1)) + (rd_T36 C i).f0) = q := by
      rw [f0, f1, w64_in (x := W + 1) (by omega) (by omega), w64_in (x := q / (W + 1) * (W + 1)) (by omega) (by omega), hdm, w64_in (by omega) (by omega)]
    have one : ∀ q' : Int, (rd_T36 C i).f0 = q' % (W + 1) → (rd_T36 C i).f1 = q' / (W + 1) → q' = q := fun q' a b => by
      have := Int.mul_ediv_add_emod q' (W + 1)
      rw [← a, ← b, f0, f1, Int.mul_comm, hdm] at this; exact this.symm
    obtain ⟨b, e1, e2⟩ := held_ok hs hl q h.length 0 (by omega) (by omega)
    have step : ∀ r, Ev (fun k => if b = true then some E7 else hinterlandref02_Shift.l1 k h C S C (C.length : Int) (i + 1) W H L W H M) r → Ev (fun k => hinterlandref02_Shift.l1 k h C S C (C.length : Int) i W H L W H M) r := by
      intro r hr
      refine Ev.step (fun _ => rfl) ?_
      simp only [hinterlandref02_Shift.l1, hi, i0, if_true, hpl, w1]
      unfold hinterlandref02_held.f
      exact Ev.bind e1 hr
    cases hb : b with
    | true =>
      rw [hb] at step e2
      refine ⟨fun _ => step _ (Ev.now _), fun n => absurd ⟨i, q, by omega, hi, f0, f1, e2.1 rfl⟩ n⟩
    | false =>
      rw [hb] at step e2
      have nh : ¬ Hit W H h 0 q := fun x => absurd (e2.2 x) (by decide)
      refine ⟨fun ⟨j, q', a, b', c1, c2, c3⟩ => step _ ?_, fun n => step _ ?_⟩
      · by_cases e : j = i
        · subst e; rw [one q' c1 c2] at c3; exact absurd c3 nh
        · exact g1 ⟨j, q', by omega, b', c1, c2, c3⟩
      · exact g2 (fun ⟨j, q', a, r⟩ => n ⟨j, q', by omega, r⟩)
def Post (W H x y z : Int) (up : Bool) (L : List Int) (r : R) : Prop := r = E7 ∨ ∃ (M : List Int) (C : List S36) (S : Int), r = (W, H, M, C, S, 0) ∧ M.length = L.length ∧ (C.length : Int) ≤ L.length ∧ ∀ q : Int, 0 ≤ q → q < (L.length : Int) → rd M q = nv W x y z up L q
theorem rd_app {N : List Int} {v j : Int} (h0 : 0 ≤ j) (h : j < (N.length : Int)) : rd (N ++ [v]) j = rd N j := by
  unfold rd
  rw [List.getD_eq_getElem?_getD, List.getD_eq_getElem?_getD, List.getElem?_append_left (by omega)]
theorem rd_end {N : List Int} {v : Int} : rd (N ++ [v]) (N.length : Int) = v := by unfold rd; simp
theorem drop_at {L : List Int} {i : Int} (h0 : 0 ≤ i) (h : i < (L.length : Int)) : L.drop i.toNat = rd L i :: L.drop (i.toNat + 1) := by
  unfold rd
  rw [List.drop_eq_getElem_cons (by omega), List.getD_eq_getElem?_getD, List.getElem?_eq_getElem (by omega)]; rfl
theorem shift_loop {W H : Int} {L : List Int} (s : Sides W H L) (hh : Hts L) {h : List Int} (hl : (h.length : Int) ≤ 4000) {x y z : Int} (x0 : 0 ≤ x ∧ x ≤ W) (y0 : 0 ≤ y ∧ y ≤ H) (z0 : 0 ≤ z ∧ z ≤ 15) (up : Bool) : ∀ (d : Nat) (i : Int) (N : List Int) (C : List S36) (S : Int), 0 ≤ i → i + d = L.length → (N.length : Int) = i → (∀ q : Int, 0 ≤ q → q < i → rd N q = nv W x y z up L q) → Told W (fun q => nv W x y z up L q ≠ rd L q) C i → ∃ r : R, Ev (fun k => land_Shift.l0 k x y up h z C S L (L.length : Int) i W H L W H (N ++ L.drop i.toNat)) r ∧ Ev (fun k => hinterlandref02_Shift.l0 k x y up h z C S L (L.length : Int) i W H L W H N) r ∧ Post W H x y z up L r := by
  obtain ⟨n0, n1⟩ := len_le s
  obtain ⟨sa, sb, sc, se, sf⟩ := id s
  intro d; induction d with
  | zero =>
    intro i N C S i0 hd hN hv t
    have hi : i = (L.length : Int) := by omega
    have hnot : ¬ i < (L.length : Int) := by omega
    have hdr : L.drop i.toNat = [] := List.drop_eq_nil_of_le (by omega)
    rw [hdr, List.append_nil]
    rw [hi] at t hv hN
    have hNL : N.length = L.length := by omega
    obtain ⟨a1, a2⟩ := land_tail s hNL hl C S h.length 0 (by omega) (by omega)
    obtain ⟨b1, b2⟩ := ref_tail (M := N) s hl C S t C.length 0 (by omega) (by omega)
    have hbad : Bad W H L N h 0 ↔ (∃ j q : Int, 0 ≤ j ∧ j < (C.length : Int) ∧ (rd_T36 C j).f0 = q % (W + 1) ∧ (rd_T36 C j).f1 = q / (W + 1) ∧ Hit W H h 0 q) := by
      constructor
      · rintro ⟨j, j0, j1, ht, p, hp, hne⟩
        have hin := pl_in s ht
        have hp0 : 0 ≤ p ∧ p < (L.length : Int) := by unfold on at hp; omega
        have := t.all p hp0.1 hp0.2 (by rw [← hv p hp0.1 hp0.2]; exact fun e => hne e.symm)
        obtain ⟨c, c0, c1, c2, c3⟩ := this
        exact ⟨c, p, c0, c1, c2, c3, j, j0, j1, ht, hp⟩
      · rintro ⟨c, q, c0, c1, c2, c3, j, j0, j1, ht, hp⟩
        obtain ⟨q', q0, q1, hch, d2, d3⟩ := t.each c c0 c1
        have e : q' = q := by
          have h1 := Int.mul_ediv_add_emod q (W + 1)
          have h2 := Int.mul_ediv_add_emod q' (W + 1)
          rw [← d2, ← d3, c2, c3, h1] at h2; exact h2.symm
        subst e
        exact ⟨j, j0, j1, ht, q', hp, by rw [hv q' q0 q1]; exact fun e => hch e.symm⟩
    by_cases hb : Bad W H L N h 0
    · refine ⟨E7, Ev.step (fun _ => rfl) ?_, Ev.step (fun _ => rfl) ?_, Or.inl rfl⟩
      · simp only [land_Shift.l0, hnot, if_false]; exact a1 hb
      · simp only [hinterlandref02_Shift.l0, hnot, if_false]; exact b1 (hbad.1 hb)
    · refine ⟨_, Ev.step (fun _ => rfl) ?_, Ev.step (fun _ => rfl) ?_, Or.inr ⟨N, C, S, rfl, hNL, t.len, hv⟩⟩
      · simp only [land_Shift.l0, hnot, if_false]; exact a2 hb
      · simp only [hinterlandref02_Shift.l0, hnot, if_false]; exact b2 (fun e => hb (hbad.2 e))
  | succ d ih =>
    intro i N C S i0 hd hN hv t
    have hi : i < (L.length : Int) := by omega
    have hz := hh i i0 hi
    have w1 : wrap64 (i + 1) = i + 1 := w64_in (by omega) (by omega)
    have wW : wrap64 (W + 1) = W + 1 := w64_in (by omega) (by omega)
    have wN : ¬ W + 1 = 0 := by omega
    have m0 := Int.emod_nonneg i (show W + 1 ≠ 0 by omega)
    have m1 := Int.emod_lt_of_pos i (show 0 < W + 1 by omega)
    have d0 := Int.ediv_nonneg i0 (show 0 ≤ W + 1 by omega)
    have d1 : i / (W + 1) < H + 1 := Int.ediv_lt_of_lt_mul (by omega) (by omega)
    have tm : Int.tmod i (W + 1) = i % (W + 1) := Int.tmod_eq_emod_of_nonneg i0
    have td : wrap64 (Int.tdiv i (W + 1)) = i / (W + 1) := by rw [Int.tdiv_eq_ediv_of_nonneg i0, w64_in (by omega) (by omega)]
    have hdist : 0 ≤ dist W x y i ∧ dist W x y i ≤ 70 := by unfold dist mx; split <;> split <;> omega
    have hfar : land_far.f x y (i % (W + 1)) (i / (W + 1)) = some (dist W x y i) := by
      unfold land_far.f
      rw [w64_in (x := x - i % (W + 1)) (by omega) (by omega), w64_in (x := i % (W + 1) - x) (by omega) (by omega), w64_in (x := y - i / (W + 1)) (by omega) (by omega), w64_in (x := i / (W + 1) - y) (by omega) (by omega)]
      exact congrArg some (w64_in (x := dist W x y i) (by omega) (by omega))
    have hap1 : hinterlandref02_Apart.f x (i % (W + 1)) = some (mx (x - i % (W + 1)) (i % (W + 1) - x)) := Apart_ok (by omega) (by omega)
    have hap2 : hinterlandref02_Apart.f y (i / (W + 1)) = some (mx (y - i / (W + 1)) (i / (W + 1) - y)) := Apart_ok (by omega) (by omega)
    have hsum : wrap64 (mx (x - i % (W + 1)) (i % (W + 1) - x) + mx (y - i / (W + 1)) (i / (W + 1) - y)) = dist W x y i := w64_in (x := dist W x y i) (by omega) (by omega)
    have zm : wrap64 (z - dist W x y i) = z - dist W x y i := w64_in (by omega) (by omega)
    have zp : wrap64 (z + dist W x y i) = z + dist W x y i := w64_in (by omega) (by omega)
    have nb : -100 ≤ nv W x y z up L i ∧ nv W x y z up L i ≤ 100 := by unfold nv mx mn; split <;> split <;> omega
    have la : ∀ k, land_Shift.l0 (k + 1) x y up h z C S L (L.length : Int) i W H L W H (N ++ L.drop i.toNat) = land_Shift.j4 k x y up h z C S i (rd L i) (i % (W + 1)) (i / (W + 1)) (nv W x y z up L i) L (L.length : Int) i W H L W H (N ++ L.drop i.toNat) := by
      intro k
      simp only [land_Shift.l0, wW, tm, td, hfar, Option.bind_some, zm, zp]
      rw [if_pos hi, if_pos i0, if_pos hi, if_neg wN]
      unfold nv
      split <;> rfl
    have ra : ∀ k, hinterlandref02_Shift.l0 (k + 1) x y up h z C S L (L.length : Int) i W H L W H N = hinterlandref02_Shift.j4 k x y up h z C S (rd L i) (i % (W + 1)) (i / (W + 1)) (nv W x y z up L i) L (L.length : Int) i W H L W H N := by
      intro k
      simp only [hinterlandref02_Shift.l0, wW, tm, td, hap1, hap2, Option.bind_some, hsum, zm, zp]
      rw [if_pos hi, if_pos i0, if_pos hi, if_neg wN]
      unfold nv
      split <;> rfl
    have hnew : ∀ q : Int, 0 ≤ q → q < i + 1 → rd (N ++ [nv W x y z up L i]) q = nv W x y z up L q := by
      intro q q0 q1
      by_cases e : q < i
      · rw [rd_app q0 (by omega)]; exact hv q q0 e
      · have : q = i := by omega
        rw [this, ← hN, rd_end, hN]
    have hlen : ((N ++ [nv W x y z up L i]).length : Int) = i + 1 := by simp; omega
    have hNn : N.length < 17592186044416 := by omega
    have tn : (i + 1).toNat = i.toNat + 1 := by omega
    by_cases hc : nv W x y z up L i = rd L i
    · obtain ⟨r, e1, e2, e3⟩ := ih (i + 1) (N ++ [nv W x y z up L i]) C S (by omega) (by omega) hlen hnew (t.same (fun c => c hc))
      refine ⟨r, Ev.step la (Ev.step (fun _ => rfl) ?_), Ev.step ra (Ev.step (fun _ => rfl) ?_), e3⟩
      · simp only [land_Shift.j4, hc, if_true, w1]
        rw [tn, hc, List.append_assoc, List.singleton_append, ← drop_at i0 hi] at e1
        exact e1
      · simp only [hinterlandref02_Shift.j4, hNn, if_true, Option.bind_some, w1]
        simp only [if_pos hc]
        exact e2
    · have hap : hinterlandref02_Apart.f (nv W x y z up L i) (rd L i) = some (mx (nv W x y z up L i - rd L i) (rd L i - nv W x y z up L i)) := Apart_ok (by omega) (by omega)
      have hS : wrap64 (S + wrap64 (mx (wrap64 (nv W x y z up L i - rd L i)) (wrap64 (rd L i - nv W x y z up L i)) * 250)) = wrap64 (S + wrap64 (250 * mx (nv W x y z up L i - rd L i) (rd L i - nv W x y z up L i))) := by
        rw [w64_in (x := nv W x y z up L i - rd L i) (by omega) (by omega), w64_in (x := rd L i - nv W x y z up L i) (by omega) (by omega), Int.mul_comm]
      obtain ⟨r, e1, e2, e3⟩ := ih (i + 1) (N ++ [nv W x y z up L i]) (C ++ [⟨i % (W + 1), i / (W + 1), nv W x y z up L i⟩]) (wrap64 (S + wrap64 (250 * mx (nv W x y z up L i - rd L i) (rd L i - nv W x y z up L i)))) (by omega) (by omega) hlen hnew (t.more i0 hc)
      have hCn : C.length < 5864062014805 := by have := t.len; omega
      have hML : i < ((N ++ L.drop i.toNat).length : Int) := by simp; omega
      have hset : (N ++ L.drop i.toNat).set i.toNat (nv W x y z up L i) = N ++ [nv W x y z up L i] ++ L.drop (i + 1).toNat := by
        rw [drop_at i0 hi, tn, List.append_assoc, List.singleton_append, List.set_append_right _ _ (by omega), show i.toNat - N.length = 0 by omega]
        rfl
      refine ⟨r, Ev.step la (Ev.step (fun _ => rfl) ?_), Ev.step ra (Ev.step (fun _ => rfl) ?_), e3⟩
      · simp only [land_Shift.j4, hc, if_false, i0, hML, hCn, if_true, w1, hset, hS]
        exact e1
      · simp only [hinterlandref02_Shift.j4, hNn, if_true, Option.bind_some, w1, hc, if_false, hCn, hap]
        exact e2
end Go.Proofs.Ytchflcnegpnkkaa.Shi

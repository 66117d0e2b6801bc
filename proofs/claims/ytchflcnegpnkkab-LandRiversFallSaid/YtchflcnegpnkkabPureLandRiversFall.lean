import Derived.Test.YtchflcnegpnkkabVal
import Derived.Test.YtchflcnegpnkkabTil
import Derived.Test.YtchflcnegpnkkabRiv
import Derived.Test.YtchflcnegpnkkabQ21
namespace Go.Proofs.Ytchflcnegpnkkab.Pure
open Go.RowKit Go.Proofs.YtchflcnegpnkkabOwn Go.Proofs.Ytchflcnegpnkkab.Q Go.Proofs.Ytchflcnegpnkkab.Val Go.Proofs.Ytchflcnegpnkkab.Til Go.Proofs.Ytchflcnegpnkkab.Riv Go.Proofs.YtchflcnegpnkkabW.PrintWords Go.Proofs.YtchflcnegpnkkabW.PrintLast
abbrev loop := hinterlandlaw02_LandRiversFall.l1
theorem last_ok {W H : Int} {L : List Int} (v : Valid W H L) {t : Int} (ht : isT W H t) {X : List Int} {i : Int} (i0 : 0 ≤ i) (hi : i = (X.length : Int) - 1) (hX : X.length ≤ 90) (hl : wt W L t = true ∨ ∀ s, 0 ≤ s → s < 4 → 0 ≤ bey W H t s → ¬ T W L (bey W H t s) < T W L t)
    (hg : Ev (fun k => hinterlandlaw02_LandRiversFall.l0 k X X (X.length : Int) (i + 1) W H L) true) : ∀ (d : Nat) (s : Int) (x9 : Bool), 0 ≤ s → s + d = 4 → (wt W L t = true ∨ x9 = false) → Ev (fun k => hinterlandlaw02_LandRiversFall.l1 k X i t x9 true X (X.length : Int) i s W H L) true := by
  have wl : wrap64 ((X.length : Int) - 1) = X.length - 1 := w64_in (by omega) (by omega)
  have wi : wrap64 (i + 1) = i + 1 := w64_in (by omega) (by omega)
  intro d; induction d with
  | zero =>
    intro s x9 s0 sd h9
    have hs4 : ¬ s < 4 := by omega
    refine Ev.step (fun _ => rfl) ?_
    simp only [hinterlandlaw02_LandRiversFall.l1, hs4, if_false]
    refine Ev.bind (water_is v ht) ?_
    subst hi
    simp only [if_true, wl, Int.lt_irrefl, if_false]
    cases hw : wt W L t with
    | true =>
      simp only [if_true]
      refine Ev.step (fun _ => rfl) ?_
      simp only [hinterlandlaw02_LandRiversFall.j5, Bool.false_eq_true, if_false, wi]
      exact hg
    | false =>
      have e : x9 = false := h9.elim (fun a => by rw [hw] at a; exact absurd a (by decide)) id
      subst e
      simp only [Bool.false_eq_true, if_false]
      refine Ev.step (fun _ => rfl) ?_
      simp only [hinterlandlaw02_LandRiversFall.j5, Bool.false_eq_true, if_false, wi]
      exact hg
  | succ d ih =>
    intro s x9 s0 sd h9
    have hs4 : s < 4 := by omega
    have ws : wrap64 (s + 1) = s + 1 := w64_in (by omega) (by omega)
    refine Ev.step (fun _ => rfl) ?_
    simp only [hinterlandlaw02_LandRiversFall.l1, hs4, if_true]
    refine Ev.bind (beyond_ok v.1 ht s0 hs4) ?_
    have j4 : ∀ (x9 : Bool) (q : Int), (wt W L t = true ∨ x9 = false) → Ev (fun k => hinterlandlaw02_LandRiversFall.j4 k X i t x9 true q X (X.length : Int) i s W H L) true := by
      intro x9 q h9
      refine Ev.step (fun _ => rfl) ?_
      simp only [hinterlandlaw02_LandRiversFall.j4, if_true, ws]
      exact ih (s + 1) x9 (by omega) (by omega) h9
    cases x9 with
    | true => simp only [if_true]; exact j4 true _ h9
    | false =>
      by_cases hb : bey W H t s ≥ 0
      · have bT : isT W H (bey W H t s) := by
          rcases bey_in v.1 t s with h | h
          · omega
          · exact h.2
        simp only [hb, if_true]
        refine Ev.bind (T_in v bT).2.2.2 (Ev.bind (T_in v ht).2.2.2 ?_)
        refine j4 _ _ (hl.imp id (fun h => decide_eq_false (h s s0 hs4 hb)))
      · simp only [hb, if_false]; exact j4 false _ (Or.inr rfl)
theorem mid_ok {W H : Int} {L : List Int} (v : Valid W H L) {t b : Int} (ht : isT W H t) (hw : wt W L t = false) {s' : Int} (p0 : 0 ≤ s') (p1 : s' < 4) (pb : bey W H t s' = b) (b0 : 0 ≤ b) (hlt : T W L b < T W L t) {X : List Int} {i : Int} (i0 : 0 ≤ i) (hi : i < (X.length : Int) - 1) (hX : X.length ≤ 90) (hb : rd X (i + 1) = b)
    (hg : Ev (fun k => hinterlandlaw02_LandRiversFall.l0 k X X (X.length : Int) (i + 1) W H L) true) : ∀ (d : Nat) (s : Int) (x9 x10 : Bool), 0 ≤ s → s + d = 4 → (x10 = true ∨ s ≤ s') → Ev (fun k => hinterlandlaw02_LandRiversFall.l1 k X i t x9 x10 X (X.length : Int) i s W H L) true := by
  have wl : wrap64 ((X.length : Int) - 1) = X.length - 1 := w64_in (by omega) (by omega)
  have wi : wrap64 (i + 1) = i + 1 := w64_in (by omega) (by omega)
  have hi2 : ¬ i = (X.length : Int) - 1 := by omega
  have hi3 : i + 1 < (X.length : Int) := by omega
  have hi4 : 0 ≤ i + 1 := by omega
  intro d; induction d with
  | zero =>
    intro s x9 x10 s0 sd hx
    have hs4 : ¬ s < 4 := by omega
    have e : x10 = true := hx.elim id (fun h => by omega)
    subst e
    refine Ev.step (fun _ => rfl) ?_
    simp only [hinterlandlaw02_LandRiversFall.l1, hs4, if_false]
    refine Ev.bind (water_is v ht) ?_
    simp only [if_true, wl, hi, if_false, hi2, hw]
    refine Ev.step (fun _ => rfl) ?_
    simp only [hinterlandlaw02_LandRiversFall.j5, wi]
    exact hg
  | succ d ih =>
    intro s x9 x10 s0 sd hx
    have hs4 : s < 4 := by omega
    have ws : wrap64 (s + 1) = s + 1 := w64_in (by omega) (by omega)
    have j4 : ∀ (x9 : Bool), Ev (fun k => hinterlandlaw02_LandRiversFall.j4 k X i t x9 x10 (bey W H t s) X (X.length : Int) i s W H L) true := by
      intro x9
      refine Ev.step (fun _ => rfl) ?_
      cases x10 with
      | true =>
        simp only [hinterlandlaw02_LandRiversFall.j4, if_true, ws]
        exact ih (s + 1) x9 true (by omega) (by omega) (Or.inl rfl)
      | false =>
        have hle : s ≤ s' := hx.elim (fun h => absurd h (by decide)) id
        by_cases hq : bey W H t s ≥ 0
        · have bT : isT W H (bey W H t s) := by
            rcases bey_in v.1 t s with h | h
            · omega
            · exact h.2
          simp only [hinterlandlaw02_LandRiversFall.j4, hq, if_true, wl, hi, wi, hi4, hi3, hb, ws]
          by_cases hqb : bey W H t s = b
          · simp only [if_pos hqb]
            refine Ev.bind (T_in v bT).2.2.2 (Ev.bind (T_in v ht).2.2.2 ?_)
            refine ih (s + 1) x9 _ (by omega) (by omega) (Or.inl (decide_eq_true (by rw [hqb]; exact hlt)))
          · simp only [if_neg hqb]
            refine ih (s + 1) x9 false (by omega) (by omega) (Or.inr ?_)
            by_cases e : s = s'
            · rw [e] at hqb; exact absurd pb hqb
            · omega
        · simp only [hinterlandlaw02_LandRiversFall.j4, hq, if_false, ws]
          refine ih (s + 1) x9 false (by omega) (by omega) (Or.inr ?_)
          by_cases e : s = s'
          · rw [e, pb] at hq; omega
          · omega
    refine Ev.step (fun _ => rfl) ?_
    simp only [hinterlandlaw02_LandRiversFall.l1, hs4, if_true]
    refine Ev.bind (beyond_ok v.1 ht s0 hs4) ?_
    cases x9 with
    | true => simp only [if_true]; exact j4 true
    | false =>
      by_cases hb : bey W H t s ≥ 0
      · have bT : isT W H (bey W H t s) := by
          rcases bey_in v.1 t s with h | h
          · omega
          · exact h.2
        simp only [hb, if_true]
        exact Ev.bind (T_in v bT).2.2.2 (Ev.bind (T_in v ht).2.2.2 (j4 _))
      · simp only [hb, if_false]; exact j4 false
theorem rd_at (P : List Int) (t : Int) (l : List Int) : rd (P ++ t :: l) (P.length : Int) = t := by unfold rd; simp
theorem all_ok {W H : Int} {L : List Int} (v : Valid W H L) : ∀ (l P : List Int) (t : Int), (P ++ t :: l).length ≤ 90 → Falls W H L t l → Ev (fun k => hinterlandlaw02_LandRiversFall.l0 k (P ++ t :: l) (P ++ t :: l) ((P ++ t :: l).length : Int) (P.length : Int) W H L) true := by
  intro l; induction l with
  | nil =>
    intro P t hX hf
    obtain ⟨ht, hl⟩ := hf
    generalize hXX : P ++ [t] = X at *
    have hlen : (X.length : Int) = P.length + 1 := by rw [← hXX]; simp
    have hr : rd X (P.length : Int) = t := by rw [← hXX]; exact rd_at P t []
    have hlt : (P.length : Int) < (X.length : Int) := by omega
    have wl : wrap64 ((X.length : Int) - 1) = X.length - 1 := w64_in (by omega) (by omega)
    have hp : (0 : Int) ≤ (P.length : Int) := by omega
    have hend : Ev (fun k => hinterlandlaw02_LandRiversFall.l0 k X X (X.length : Int) ((P.length : Int) + 1) W H L) true := by
      refine Ev.step (fun _ => rfl) ?_
      simp only [hinterlandlaw02_LandRiversFall.l0, show ¬ (P.length : Int) + 1 < (X.length : Int) by omega, if_false]
      exact Ev.bind known_ev (Ev.now _)
    refine Ev.step (fun _ => rfl) ?_
    simp only [hinterlandlaw02_LandRiversFall.l0, hlt, hp, if_true, hr, Is_ok v.1, ht, decide_true, Option.bind_some, wl, show ((P.length : Int) == (X.length : Int) - 1) = true from beq_iff_eq.2 (by omega)]
    exact last_ok v ht hp (by omega) hX hl hend 4 0 false (by omega) (by omega) (Or.inr rfl)
  | cons b l ih =>
    intro P t hX hf
    obtain ⟨ht, hw, ⟨s', p0, p1, pb⟩, b0, hlt', hf'⟩ := hf
    have hnext := ih (P ++ [t]) b (by simpa using hX) hf'
    rw [List.append_assoc, List.singleton_append] at hnext
    have hbb : rd (P ++ t :: b :: l) ((P.length : Int) + 1) = b := by
      have := rd_at (P ++ [t]) b l
      rw [List.append_assoc, List.singleton_append] at this
      simpa using this
    have hr : rd (P ++ t :: b :: l) (P.length : Int) = t := rd_at P t (b :: l)
    have hlen : ((P ++ t :: b :: l).length : Int) = P.length + (l.length + 2) := by simp; omega
    generalize hXX : P ++ t :: b :: l = X at *
    have hlt : (P.length : Int) < (X.length : Int) := by omega
    have wl : wrap64 ((X.length : Int) - 1) = X.length - 1 := w64_in (by omega) (by omega)
    have hp : (0 : Int) ≤ (P.length : Int) := by omega
    refine Ev.step (fun _ => rfl) ?_
    simp only [hinterlandlaw02_LandRiversFall.l0, hlt, hp, if_true, hr, Is_ok v.1, ht, decide_true, Option.bind_some, wl]
    refine mid_ok v ht hw p0 p1 pb b0 hlt' hp (by omega) hX hbb ?_ 4 0 false _ (by omega) (by omega) (Or.inr p0)
    simpa using hnext
theorem LandRiversFall : hinterlandlaw02_LandRiversFall.Pure := by
  intro a b L t _ _ _ _
  refine Ev.rounds ?_
  unfold hinterlandlaw02_LandRiversFall.f
  obtain ⟨l, e, h1, h2⟩ := river_is a b L t
  have hk : Ev (fun k => hinterlandlaw02_LandRiversFall.j0 k t l true a b L) true := by
    refine Ev.step (fun _ => rfl) ?_
    simp only [hinterlandlaw02_LandRiversFall.j0, if_true]
    exact Ev.bind known_ev (Ev.now _)
  refine Ev.bind h1 ?_
  by_cases he : e = 0
  · simp only [he, if_true]
    refine Ev.bind (large0_ev a b L) ?_
    by_cases hg : decide ((L.length : Int) > 4000) = true
    · rw [hg]; exact hk
    · obtain ⟨v, l', rfl, hl, hf⟩ := h2 he
      have hne : ¬ (((t :: l').length : Int) = 0) := by simp; omega
      have hpos : (0 : Int) < ((t :: l').length : Int) := by simp
      refine Ev.step (fun _ => rfl) ?_
      simp only [hinterlandlaw02_LandRiversFall.j0, hg, hne, hpos, if_false, if_true, show rd (t :: l') 0 = t from rfl, bne_self_eq_false]
      refine Ev.step (fun _ => rfl) ?_
      simp only [hinterlandlaw02_LandRiversFall.j1]
      have := all_ok v l' [] t hl hf
      simpa using this
  · simp only [he, if_false]; exact hk
end Go.Proofs.Ytchflcnegpnkkab.Pure

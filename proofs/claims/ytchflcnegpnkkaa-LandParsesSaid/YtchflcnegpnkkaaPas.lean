import Derived.Test.YtchflcnegpnkkaaPar
namespace Go.Proofs.Ytchflcnegpnkkaa.Pas
open Go.RowKit Go.Proofs.YtchflcnegpnkkaaOwn Go.Proofs.Ytchflcnegpnkkaa.Q Go.Proofs.Ytchflcnegpnkkaa.Val Go.Proofs.Ytchflcnegpnkkaa.Byt Go.Proofs.Ytchflcnegpnkkaa.Par Go.Proofs.YtchflcnegpnkkaaW.PrintWords Go.Proofs.YtchflcnegpnkkaaW.PrintLast
theorem j3_ok {s : ByteArray} {m f g i e : Int} {N : List Int} {r : R5} (hg : g ≠ 0) (hm : m = 0 ∨ g = f) (m0 : 0 ≤ m) (m1 : m ≤ 4001) (he : wrap64 (i + 1) = e) (hr : Ev (fun k => hinterlandref02_Parse.l0 k s (m + 1) 0 (if m = 0 then g else f) e 0 0 N) r) : Ev (fun k => hinterlandref02_Parse.j3 k s m g f i 0 0 N) r := by
  have wm : wrap64 (m + 1) = m + 1 := w64_in (by omega) (by omega)
  refine Ev.step (fun _ => rfl) ?_
  simp only [hinterlandref02_Parse.j3, hg, if_false]
  by_cases h : m = 0
  · simp only [h, show ¬ (0 : Int) > 0 by omega, if_false]
    refine Ev.step (fun _ => rfl) ?_
    simp only [hinterlandref02_Parse.j4, Bool.false_eq_true, if_false, if_true, he, show wrap64 (0 + 1) = 0 + 1 from w64_in (by omega) (by omega)]
    simp only [h, if_true] at hr; exact hr
  · have hf : g = f := by rcases hm with h' | h'; exact absurd h' h; exact h'
    simp only [show m > 0 by omega, if_true, hf, bne_self_eq_false]
    refine Ev.step (fun _ => rfl) ?_
    simp only [hinterlandref02_Parse.j4, Bool.false_eq_true, if_false, h, he, wm]
    simp only [h, if_false] at hr; exact hr
theorem j3_no {s : ByteArray} {m f g i : Int} {N : List Int} (hg : g = 0 ∨ (0 < m ∧ g ≠ f)) (m0 : 0 ≤ m) (m1 : m ≤ 4001) : Ev (fun k => hinterlandref02_Parse.j3 k s m g f i 0 0 N) (err m) := by
  have wm : wrap64 (m + 1) = m + 1 := w64_in (by omega) (by omega)
  refine Ev.step (fun _ => rfl) ?_
  by_cases h : g = 0
  · simp only [hinterlandref02_Parse.j3, h, if_true]
    refine Ev.step (fun _ => rfl) ?_
    simp only [hinterlandref02_Parse.j4, if_true, wm]; exact Ev.now _
  · obtain ⟨h1, h2⟩ : 0 < m ∧ g ≠ f := by rcases hg with h' | h'; exact absurd h' h; exact h'
    have hb : (g != f) = true := bne_iff_ne.2 h2
    simp only [hinterlandref02_Parse.j3, h, if_false, show m > 0 by omega, if_true, hb]
    refine Ev.step (fun _ => rfl) ?_
    simp only [hinterlandref02_Parse.j4, if_true, wm]; exact Ev.now _
def fits (p e m f : Int) : Prop := p < e ∧ (m = 0 ∨ e - p = f)
/-- From place i of a line on, which begins at p and ends at e. -/
theorem ref_scan {s X : ByteArray} (hs : s.size ≤ 4000) (hb : ∀ j : Int, 0 ≤ j → j < (s.size : Int) → bt X j = bt s j) {p e m f q : Int} (p0 : 0 ≤ p) (en : e ≤ (s.size : Int)) (hq : q = if e < (s.size : Int) then e + 1 else e) (h10 : e < (s.size : Int) → bt X e = 10) (hpn : p < (s.size : Int)) (hno : ∀ u, p ≤ u → u < e → bt X u ≠ 10) (m0 : 0 ≤ m) (m1 : m ≤ p) :
    ∀ (d : Nat) (i : Int) (N : List Int), p ≤ i → i + d = e → i < (s.size : Int) → (0 < m → i - p ≤ f) → N.length + d ≤ 4001 →
    ((fits p e m f ∧ Let X i e → ∀ r, Ev (fun k => hinterlandref02_Parse.l0 k s (m + 1) 0 (if m = 0 then e - p else f) q 0 0 (N ++ vs X i d)) r → Ev (fun k => hinterlandref02_Parse.l0 k s m (i - p) f i 0 0 N) r) ∧ (¬ (fits p e m f ∧ Let X i e) → Ev (fun k => hinterlandref02_Parse.l0 k s m (i - p) f i 0 0 N) (err m))) := by
  have wm : wrap64 (m + 1) = m + 1 := w64_in (by omega) (by omega)
  have wn : wrap64 ((s.size : Int) - 1) = (s.size : Int) - 1 := w64_in (by omega) (by omega)
  intro d; induction d with
  | zero =>
    intro i N hi hd hin hf hN
    have hie : i = e := by omega
    have hc : bt s i = 10 := by rw [← hb i (by omega) hin, hie]; exact h10 (by omega)
    have i0 : 0 ≤ i := by omega
    have wi : wrap64 (i + 1) = q := by rw [w64_in (by omega) (by omega), hq, if_pos (by omega), hie]
    have go : ∀ r, Ev (fun k => hinterlandref02_Parse.j3 k s m (i - p) f i 0 0 N) r → Ev (fun k => hinterlandref02_Parse.l0 k s m (i - p) f i 0 0 N) r := by
      intro r hr
      refine Ev.step (fun _ => rfl) ?_
      simp only [hinterlandref02_Parse.l0, hin, i0, if_true, hc, show ¬ (10 : Int) ≥ 97 by omega, if_false]
      refine Ev.step (fun _ => rfl) ?_
      simp only [hinterlandref02_Parse.j1, Bool.false_eq_true, if_false, if_true]
      exact hr
    refine ⟨fun g r hr => go r (j3_ok (by have := g.1.1; omega) (by have := g.1.2; omega) m0 (by omega) wi ?_), fun g => go _ (j3_no ?_ m0 (by omega))⟩
    · rw [hie]; simpa [vs] using hr
    · by_cases h1 : p < e
      · have : ¬ (m = 0 ∨ e - p = f) := fun h => g ⟨⟨h1, h⟩, fun j a b => by omega⟩
        exact Or.inr ⟨by omega, by omega⟩
      · exact Or.inl (by omega)
  | succ d ih =>
    intro i N hi hd hin hf hN
    have i0 : 0 ≤ i := by omega
    have hb' := hb i i0 hin
    have h10' := hno i hi (by omega)
    by_cases hle : 97 ≤ bt X i ∧ bt X i ≤ 112
    · have wl : wrap64 (i - p + 1) = i + 1 - p := by rw [w64_in (by omega) (by omega)]; omega
      have wi : wrap64 (i + 1) = i + 1 := w64_in (by omega) (by omega)
      have hNn : N.length < 17592186044416 := by omega
      have first : ∀ r, Ev (fun k => hinterlandref02_Parse.j2 k s m (i + 1 - p) f i (if m > 0 then decide (i + 1 - p > f) else false) 0 0 (N ++ [(bt X i - 97) % 256])) r → Ev (fun k => hinterlandref02_Parse.l0 k s m (i - p) f i 0 0 N) r := by
        intro r hr
        refine Ev.step (fun _ => rfl) ?_
        simp only [hinterlandref02_Parse.l0, hin, i0, if_true, ← hb', show bt X i ≥ 97 by omega, hle.2, decide_true]
        refine Ev.step (fun _ => rfl) ?_
        simp only [hinterlandref02_Parse.j1, if_true, hNn, Option.bind_some, wl]
        by_cases h : m > 0
        · simp only [h, if_true] at hr ⊢; exact hr
        · simp only [h, if_false] at hr ⊢; exact hr
      by_cases hlong : 0 < m ∧ i + 1 - p > f
      · have no : Ev (fun k => hinterlandref02_Parse.l0 k s m (i - p) f i 0 0 N) (err m) := by
          refine first _ ?_
          rw [if_pos hlong.1, decide_eq_true hlong.2]
          refine Ev.step (fun _ => rfl) ?_
          simp only [hinterlandref02_Parse.j2, if_true, wm]; exact Ev.now _
        refine ⟨fun g => ?_, fun _ => no⟩
        exfalso; have := g.1.2; omega
      · have hf2 : (if m > 0 then decide (i + 1 - p > f) else false) = false := by
          by_cases h : m > 0
          · rw [if_pos h]; exact decide_eq_false (by omega)
          · rw [if_neg h]
        by_cases hlast : i < (s.size : Int) - 1
        · obtain ⟨g1, g2⟩ := ih (i + 1) (N ++ [(bt X i - 97) % 256]) (by omega) (by omega) (by omega) (by omega) (by simp; omega)
          have next : ∀ r, Ev (fun k => hinterlandref02_Parse.l0 k s m (i + 1 - p) f (i + 1) 0 0 (N ++ [(bt X i - 97) % 256])) r → Ev (fun k => hinterlandref02_Parse.l0 k s m (i - p) f i 0 0 N) r := by
            intro r hr
            refine first _ ?_
            rw [hf2]
            refine Ev.step (fun _ => rfl) ?_
            simp only [hinterlandref02_Parse.j2, Bool.false_eq_true, if_false, wn, hlast, if_true, wi]
            exact hr
          refine ⟨fun g r hr => next r (g1 ⟨g.1, fun j a b => g.2 j (by omega) b⟩ r ?_), fun g => next _ (g2 (fun h => g ⟨h.1, fun j a b => ?_⟩))⟩
          · rw [List.append_assoc, List.singleton_append]; exact hr
          · by_cases e' : j = i
            · rw [e']; exact hle
            · exact h.2 j (by omega) b
        · have hen : e = (s.size : Int) := by omega
          have hd0 : d = 0 := by omega
          subst hd0
          have last : ∀ r, Ev (fun k => hinterlandref02_Parse.j3 k s m (i + 1 - p) f i 0 0 (N ++ [(bt X i - 97) % 256])) r → Ev (fun k => hinterlandref02_Parse.l0 k s m (i - p) f i 0 0 N) r := by
            intro r hr
            refine first _ ?_
            rw [hf2]
            refine Ev.step (fun _ => rfl) ?_
            simp only [hinterlandref02_Parse.j2, Bool.false_eq_true, if_false, wn, hlast]
            exact hr
          have hie : i + 1 = e := by omega
          refine ⟨fun g r hr => last r (j3_ok (e := q) (by omega) (by have := g.1.2; omega) m0 (by omega) (by rw [wi, hq, if_neg (by omega)]; omega) ?_), fun g => last _ (j3_no ?_ m0 (by omega))⟩
          · rw [hie]; exact hr
          · have : ¬ (m = 0 ∨ e - p = f) := fun h => g ⟨⟨by omega, h⟩, fun j a b => by
              have : j = i := by omega
              rw [this]; exact hle⟩
            exact Or.inr ⟨by omega, by omega⟩
    · have no : Ev (fun k => hinterlandref02_Parse.l0 k s m (i - p) f i 0 0 N) (err m) := by
        have hx : (if bt s i ≥ 97 then decide (bt s i ≤ 112) else false) = false := by
          rw [← hb']
          by_cases h : bt X i ≥ 97
          · rw [if_pos h]; exact decide_eq_false (by omega)
          · rw [if_neg h]
        have tail : Ev (fun k => hinterlandref02_Parse.j1 k s m (i - p) f i (bt s i) false 0 0 N) (err m) := by
          refine Ev.step (fun _ => rfl) ?_
          simp only [hinterlandref02_Parse.j1, Bool.false_eq_true, if_false, ← hb', h10', wm]; exact Ev.now _
        refine Ev.step (fun _ => rfl) ?_
        simp only [hinterlandref02_Parse.l0, hin, i0, if_true]
        by_cases h : bt s i ≥ 97
        · rw [if_pos h] at hx
          simp only [h, if_true, hx]; exact tail
        · simp only [h, if_false]; exact tail
      refine ⟨fun g => absurd (g.2 i (by omega) (by omega)) hle, fun _ => no⟩
theorem next_nl {X : ByteArray} (hX : bt X ((X.size : Int) - 1) = 10) : ∀ (d : Nat) (p : Int), 0 ≤ p → p + d + 1 = (X.size : Int) → ∃ e, p ≤ e ∧ e < (X.size : Int) ∧ bt X e = 10 ∧ ∀ u, p ≤ u → u < e → bt X u ≠ 10 := by
  intro d; induction d with
  | zero => intro p p0 hp; exact ⟨p, by omega, by omega, by rw [show p = (X.size : Int) - 1 by omega]; exact hX, fun u a b => by omega⟩
  | succ d ih =>
    intro p p0 hp
    by_cases h : bt X p = 10
    · exact ⟨p, by omega, by omega, h, fun u a b => by omega⟩
    · obtain ⟨e, a, b, c, d'⟩ := ih (p + 1) (by omega) (by omega)
      refine ⟨e, by omega, b, c, fun u u1 u2 => ?_⟩
      by_cases hu : u = p
      · rw [hu]; exact h
      · exact d' u (by omega) u2
theorem vs_nat (X : ByteArray) (p e : Int) : (vs X p (e - p).toNat).length = (e - p).toNat := vs_len X _ p
theorem lines_both {s X : ByteArray} (hs0 : 0 < s.size) (hs : s.size ≤ 4000) (hXs : (X.size : Int) = s.size ∨ (X.size : Int) = s.size + 1) (hb : ∀ j : Int, 0 ≤ j → j < (s.size : Int) → bt X j = bt s j) (hl : bt X ((X.size : Int) - 1) = 10) (hl2 : (X.size : Int) = s.size + 1 → bt X ((s.size : Int) - 1) ≠ 10) :
    ∀ (d : Nat) (p m f : Int) (N : List Int), 0 ≤ p → p + d = (X.size : Int) → 0 ≤ m → m ≤ p → (m = 0 → p = 0 ∧ f = 0) → (0 < m → 0 < f) → (0 < p → bt X (p - 1) = 10) → (N.length : Int) ≤ p → f ≤ 4001 → (m = 0 → 0 < d) →
    ∃ r, Ev (fun k => land_Parse.l0 k X (if m = 0 then -1 else f) p m (X.size : Int) p 0 0 N) r ∧ Ev (fun k => hinterlandref02_Parse.l0 k s m 0 f (if p < (s.size : Int) then p else (s.size : Int)) 0 0 N) r ∧ r.2.2.1.length ≤ 4001 := by
  intro d; induction d using Nat.strongRecOn with
  | _ d ih =>
    intro p m f N p0 hd m0 m1 hm0 hf h10p hN hf1 hdm
    by_cases hp : p < (X.size : Int)
    · obtain ⟨e, e1, e2, e3, e4⟩ := next_nl hl (d - 1) p p0 (by omega)
      obtain ⟨a1, a2⟩ := land_line (by omega) p0 e1 e2 e3 e4 m0 m1 hf hN
      have hpn : p < (s.size : Int) := by
        by_cases h : p < (s.size : Int)
        · exact h
        · exfalso
          have hp1 : p = (s.size : Int) := by omega
          by_cases hp2 : 0 < p
          · have := h10p hp2
            rw [hp1] at this
            exact hl2 (by omega) this
          · omega
      have hen : e ≤ (s.size : Int) := by omega
      obtain ⟨b1, b2⟩ := ref_scan hs hb (m := m) (f := f) (q := if e < (s.size : Int) then e + 1 else e) p0 hen rfl (fun _ => e3) hpn e4 m0 m1 (e - p).toNat p N (by omega) (by omega) hpn (fun h => by have := hf h; omega) (by omega)
      rw [if_pos hpn]
      rw [show p - p = 0 by omega] at b1 b2
      by_cases hg : Par.Good X p e m f
      · have hg2 : fits p e m f ∧ Let X p e := ⟨⟨hg.1, hg.2.2⟩, hg.2.1⟩
        have hpe := hg.1
        obtain ⟨r, r1, r2, r3⟩ := ih (d - (e + 1 - p).toNat) (by omega) (e + 1) (m + 1) (if m = 0 then e - p else f) (N ++ vs X p (e - p).toNat) (by omega) (by omega) (by omega) (by omega) (fun h => by omega) (fun _ => by split <;> omega) (fun _ => by rw [show e + 1 - 1 = e by omega]; exact e3) (by rw [List.length_append, vs_nat]; omega) (by split <;> omega) (fun h => by omega)
        refine ⟨r, a1 hg r ?_, b1 hg2 r ?_, r3⟩
        · rw [if_neg (by omega)] at r1; exact r1
        · have : (if e + 1 < (s.size : Int) then e + 1 else (s.size : Int)) = if e < (s.size : Int) then e + 1 else e := by split <;> split <;> omega
          rw [this] at r2; exact r2
      · refine ⟨err m, a2 hg, b2 (fun h => hg ⟨h.1.1, h.2, h.1.2⟩), by simp [err]⟩
    · have hmp : 0 < m := by
        by_cases h : m = 0
        · have := hdm h; omega
        · omega
      obtain ⟨t, v1, v2, v3⟩ := validate_ok (f - 1) (m - 1) N
      have wf : wrap64 (f - 1) = f - 1 := w64_in (by have := hf hmp; omega) (by omega)
      have wm : wrap64 (m - 1) = m - 1 := w64_in (by omega) (by omega)
      refine ⟨if t = 0 then (f - 1, m - 1, N, 0, 0) else (0, 0, [], 0, t), Ev.step (fun _ => rfl) ?_, Ev.step (fun _ => rfl) ?_, ?_⟩
      · simp only [land_Parse.l0, hp, if_false, show ¬ m = 0 by omega, wf, wm]
        refine Ev.bind v1 ?_
        by_cases h : t = 0
        · simp only [h, if_true]; exact Ev.now _
        · simp only [h, if_false]; exact Ev.now _
      · have hn : ¬ (if p < (s.size : Int) then p else (s.size : Int)) < (s.size : Int) := by split <;> omega
        simp only [hinterlandref02_Parse.l0, hn, if_false, wf, wm]
        refine Ev.bind v2 ?_
        by_cases h : t = 0
        · simp only [h, if_true]; exact Ev.now _
        · simp only [h, if_false]; exact Ev.now _
      · split
        · show N.length ≤ 4001; omega
        · simp
/-- The text that land.Parse goes through: the text, and a newline behind it if it lacks one. -/
theorem parse_both (s : ByteArray) (hs : s.size ≤ 4000) : ∃ r, Ev (fun k => land_Parse.f k s) r ∧ Ev (fun k => hinterlandref02_Parse.f k s) r ∧ r.2.2.1.length ≤ 4001 := by
  unfold land_Parse.f hinterlandref02_Parse.f
  by_cases h0 : s.toList = ([] : List UInt8)
  · refine ⟨(0, 0, [], 0, 14), ?_, ?_, by simp⟩
    · simp only [h0, if_true]; exact Ev.now _
    · simp only [h0, if_true]; exact Ev.now _
  · have hn : 0 < s.size := by
      by_cases h : s.size = 0
      · exact absurd ((empty_iff s).2 h) h0
      · omega
    have wn : wrap64 ((s.size : Int) - 1) = (s.size : Int) - 1 := w64_in (by omega) (by omega)
    have i0 : 0 ≤ (s.size : Int) - 1 := by omega
    have i1 : (s.size : Int) - 1 < (s.size : Int) := by omega
    have hlt : (0 : Int) < (s.size : Int) := by omega
    by_cases hl : bt s ((s.size : Int) - 1) = 10
    · obtain ⟨r, r1, r2, r3⟩ := lines_both (s := s) (X := s) hn hs (Or.inl rfl) (fun _ _ _ => rfl) hl (fun h => by omega) s.size 0 0 0 [] (by omega) (by omega) (by omega) (by omega) (fun _ => ⟨rfl, rfl⟩) (by omega) (by omega) (by simp) (by omega) (fun _ => hn)
      refine ⟨r, ?_, ?_, r3⟩
      · simp only [h0, if_false, wn, i0, i1, if_true, hl]
        refine Ev.step (fun _ => rfl) ?_
        simp only [land_Parse.j0]
        simpa using r1
      · simp only [h0, if_false]
        simpa only [hlt, if_true] using r2
    · have hsz : ((s ++ (⟨#[10]⟩ : ByteArray)).size : Int) = s.size + 1 := by rw [app_size]; rfl
      obtain ⟨r, r1, r2, r3⟩ := lines_both (s := s) (X := s ++ (⟨#[10]⟩ : ByteArray)) hn hs (Or.inr hsz) (fun j a b => app_bt s _ b a) (by rw [hsz, show (s.size : Int) + 1 - 1 = s.size by omega]; exact app_nl s) (fun _ => by rw [app_bt s _ i1 i0]; exact hl) (s.size + 1) 0 0 0 [] (by omega) (by omega) (by omega) (by omega) (fun _ => ⟨rfl, rfl⟩) (by omega) (by omega) (by simp) (by omega) (fun _ => by omega)
      refine ⟨r, ?_, ?_, r3⟩
      · simp only [h0, if_false, wn, i0, i1, if_true, hl, show s.size + 1 ≤ 9223372036854775807 by omega]
        refine Ev.step (fun _ => rfl) ?_
        simp only [land_Parse.j0]
        simpa using r1
      · simp only [h0, if_false]
        simpa only [hlt, if_true] using r2
end Go.Proofs.Ytchflcnegpnkkaa.Pas

import Derived.Test.YtchflcnegpnkkaaByt
import Derived.Test.YtchflcnegpnkkaaVal
import Derived.Test.YtchflcnegpnkkaaQ25
import Derived.Test.YtchflcnegpnkkaaQ26
namespace Go.Proofs.Ytchflcnegpnkkaa.Par
open Go.RowKit Go.Proofs.YtchflcnegpnkkaaOwn Go.Proofs.Ytchflcnegpnkkaa.Q Go.Proofs.Ytchflcnegpnkkaa.Val Go.Proofs.Ytchflcnegpnkkaa.Byt Go.Proofs.YtchflcnegpnkkaaW.PrintWords Go.Proofs.YtchflcnegpnkkaaW.PrintLast
abbrev R5 := Int × Int × List Int × Int × Int
def Let (X : ByteArray) (p e : Int) : Prop := ∀ j, p ≤ j → j < e → 97 ≤ bt X j ∧ bt X j ≤ 112
def vs (X : ByteArray) : Int → Nat → List Int
  | _, 0 => []
  | p, d + 1 => (bt X p - 97) % 256 :: vs X (p + 1) d
def err (m : Int) : R5 := (0, 0, [], m + 1, 14)
theorem vs_len (X : ByteArray) : ∀ (d : Nat) (p : Int), (vs X p d).length = d := by
  intro d; induction d with
  | zero => intro p; rfl
  | succ d ih => intro p; simp [vs, ih]
theorem row_good {X : ByteArray} (hX : X.size ≤ 4001) {p e : Int} (p0 : 0 ≤ p) (pe : p ≤ e) (en : e < (X.size : Int)) {w : Int} {q m : Int} {r : R5} (hl : Let X p e) : ∀ (d : Nat) (k : Int) (N : List Int), 0 ≤ k → p + k + d = e → N.length + d ≤ 4001 → Ev (fun i => land_Parse.l0 i X w q m (X.size : Int) (e + 1) 0 0 (N ++ vs X (p + k) d)) r → Ev (fun i => land_Parse.l1 i X w q m (X.extract p.toNat e.toNat) (X.size : Int) e ((X.extract p.toNat e.toNat).size : Int) k 0 0 N) r := by
  have hs := row_size X p0 pe (by omega)
  have we : wrap64 (e + 1) = e + 1 := w64_in (by omega) (by omega)
  intro d; induction d with
  | zero =>
    intro k N k0 hd hN hr
    refine Ev.step (fun _ => rfl) ?_
    simp only [land_Parse.l1, hs, show ¬ k < e - p by omega, if_false, we]
    simpa [vs] using hr
  | succ d ih =>
    intro k N k0 hd hN hr
    have hb := row_bt X (k := k) p0 k0 (show p + k < e by omega) (by omega)
    have hle := hl (p + k) (by omega) (by omega)
    refine Ev.step (fun _ => rfl) ?_
    simp only [land_Parse.l1, hs, show k < e - p by omega, k0, if_true, hb, show ¬ bt X (p + k) < 97 by omega, if_false, show ¬ bt X (p + k) > 112 by omega, decide_false]
    refine Ev.step (fun _ => rfl) ?_
    simp only [land_Parse.j5, hs, show k < e - p by omega, k0, if_true, hb, show N.length < 17592186044416 by omega, show wrap64 (k + 1) = k + 1 from w64_in (by omega) (by omega), Bool.false_eq_true, if_false]
    have := ih (k + 1) (N ++ [(bt X (p + k) - 97) % 256]) (by omega) (by omega) (by simp; omega) (by
      rw [List.append_assoc, List.singleton_append, show p + (k + 1) = p + k + 1 by omega]
      exact hr)
    rw [hs] at this
    exact this
theorem row_bad {X : ByteArray} (hX : X.size ≤ 4001) {p e : Int} (p0 : 0 ≤ p) (pe : p ≤ e) (en : e < (X.size : Int)) {w : Int} {q m : Int} : ∀ (d : Nat) (k : Int) (N : List Int), 0 ≤ k → p + k + d = e → N.length + d ≤ 4001 → ¬ Let X (p + k) e → Ev (fun i => land_Parse.l1 i X w q (m + 1) (X.extract p.toNat e.toNat) (X.size : Int) e ((X.extract p.toNat e.toNat).size : Int) k 0 0 N) (err m) := by
  have hs := row_size X p0 pe (by omega)
  intro d; induction d with
  | zero => intro k N k0 hd hN hn; exact absurd (fun j a b => by omega) hn
  | succ d ih =>
    intro k N k0 hd hN hn
    have hb := row_bt X (k := k) p0 k0 (show p + k < e by omega) (by omega)
    by_cases hle : 97 ≤ bt X (p + k) ∧ bt X (p + k) ≤ 112
    · refine Ev.step (fun _ => rfl) ?_
      simp only [land_Parse.l1, hs, show k < e - p by omega, k0, if_true, hb, show ¬ bt X (p + k) < 97 by omega, if_false, show ¬ bt X (p + k) > 112 by omega, decide_false]
      refine Ev.step (fun _ => rfl) ?_
      simp only [land_Parse.j5, hs, show k < e - p by omega, k0, if_true, hb, show N.length < 17592186044416 by omega, show wrap64 (k + 1) = k + 1 from w64_in (by omega) (by omega), Bool.false_eq_true, if_false]
      have := ih (k + 1) (N ++ [(bt X (p + k) - 97) % 256]) (by omega) (by omega) (by simp; omega) (fun h => hn (fun j a b => by
        by_cases e' : j = p + k
        · rw [e']; exact hle
        · exact h j (by omega) b))
      rw [hs] at this
      exact this
    · refine ⟨2, fun i hi => ?_⟩
      obtain ⟨i, rfl⟩ : ∃ m, i = m + 1 + 1 := ⟨i - 2, by omega⟩
      show land_Parse.l1 (i + 1 + 1) X w q (m + 1) (X.extract p.toNat e.toNat) (X.size : Int) e ((X.extract p.toNat e.toNat).size : Int) k 0 0 N = _
      simp only [land_Parse.l1, land_Parse.j5, hs]
      rw [if_pos (by omega), if_pos k0, if_pos (by omega), hb]
      by_cases h1 : bt X (p + k) < 97
      · rw [if_pos h1, if_pos trivial]; rfl
      · rw [if_neg h1, if_pos (decide_eq_true (by omega))]; rfl
def Good (X : ByteArray) (p e m f : Int) : Prop := p < e ∧ Let X p e ∧ (m = 0 ∨ e - p = f)
theorem land_scan {X : ByteArray} (hX : X.size ≤ 4001) {e : Int} (en : e < (X.size : Int)) {w q m : Int} {N : List Int} {r : R5} (hr : Ev (fun i => land_Parse.l0 i X w q m (X.size : Int) e 0 0 N) r) : ∀ (d : Nat) (j : Int), 0 ≤ j → j + d = e → (∀ u, j ≤ u → u < e → bt X u ≠ 10) → Ev (fun i => land_Parse.l0 i X w q m (X.size : Int) j 0 0 N) r := by
  intro d; induction d with
  | zero => intro j j0 hd _; have : j = e := by omega
            rw [this]; exact hr
  | succ d ih =>
    intro j j0 hd hn
    refine Ev.step (fun _ => rfl) ?_
    simp only [land_Parse.l0, show j < (X.size : Int) by omega, j0, if_true, hn j (by omega) (by omega), if_false, show wrap64 (j + 1) = j + 1 from w64_in (by omega) (by omega)]
    exact ih (j + 1) (by omega) (by omega) (fun u a b => hn u (by omega) b)
theorem land_line {X : ByteArray} (hX : X.size ≤ 4001) {p e m f : Int} (p0 : 0 ≤ p) (pe : p ≤ e) (en : e < (X.size : Int)) (h10 : bt X e = 10) (hno : ∀ u, p ≤ u → u < e → bt X u ≠ 10) (m0 : 0 ≤ m) (m1 : m ≤ p) (hf : 0 < m → 0 < f) {N : List Int} (hN : (N.length : Int) ≤ p) :
    (Good X p e m f → ∀ r, Ev (fun i => land_Parse.l0 i X (if m = 0 then e - p else f) (e + 1) (m + 1) (X.size : Int) (e + 1) 0 0 (N ++ vs X p (e - p).toNat)) r → Ev (fun i => land_Parse.l0 i X (if m = 0 then -1 else f) p m (X.size : Int) p 0 0 N) r) ∧ (¬ Good X p e m f → Ev (fun i => land_Parse.l0 i X (if m = 0 then -1 else f) p m (X.size : Int) p 0 0 N) (err m)) := by
  have hs := row_size X p0 pe (show e ≤ (X.size : Int) by omega)
  have we : wrap64 (e + 1) = e + 1 := w64_in (by omega) (by omega)
  have wm : wrap64 (m + 1) = m + 1 := w64_in (by omega) (by omega)
  have start : ∀ r, Ev (fun i => land_Parse.j2 i X (if m = 0 then e - p else f) (e + 1) (m + 1) (X.extract p.toNat e.toNat) (X.size : Int) e 0 0 N) r → Ev (fun i => land_Parse.l0 i X (if m = 0 then -1 else f) p m (X.size : Int) p 0 0 N) r := by
    intro r hr
    refine land_scan hX en (Ev.step (fun _ => rfl) ?_) (e - p).toNat p p0 (by omega) hno
    have e0 : 0 ≤ e := by omega
    have e1 : e ≤ (X.size : Int) := by omega
    by_cases hm : m = 0
    · simp only [hm, if_true] at hr
      simp only [land_Parse.l0, en, e0, e1, if_true, h10, p0, pe, hm, show (-1 : Int) < 0 by omega, hs, we, show wrap64 (0 + 1) = 0 + 1 from w64_in (by omega) (by omega)]
      exact hr
    · have hf' := hf (by omega)
      simp only [hm, if_false] at hr
      simp only [land_Parse.l0, en, e0, e1, if_true, h10, p0, pe, hm, show ¬ f < 0 by omega, if_false, we, wm]
      exact hr
  by_cases hpe : p < e
  · have hne : ¬ (X.extract p.toNat e.toNat).toList = ([] : List UInt8) := fun h => by have := (empty_iff _).1 h; omega
    by_cases hw : m = 0 ∨ e - p = f
    · have hww : (if m = 0 then e - p else f) = e - p := by
        rcases hw with h | h
        · rw [if_pos h]
        · split
          · rfl
          · exact h.symm
      have mid : ∀ r, Ev (fun i => land_Parse.l1 i X (if m = 0 then e - p else f) (e + 1) (m + 1) (X.extract p.toNat e.toNat) (X.size : Int) e ((X.extract p.toNat e.toNat).size : Int) 0 0 0 N) r → Ev (fun i => land_Parse.l0 i X (if m = 0 then -1 else f) p m (X.size : Int) p 0 0 N) r := by
        intro r hr
        refine start r (Ev.step (fun _ => rfl) ?_)
        simp only [land_Parse.j2, hne, if_false]
        refine Ev.step (fun _ => rfl) ?_
        simp only [land_Parse.j3, hww, hs, bne_self_eq_false, Bool.false_eq_true, if_false]
        rw [hww, hs] at hr
        exact hr
      refine ⟨fun g r hr => mid r (row_good hX p0 pe en g.2.1 (e - p).toNat 0 N (by omega) (by omega) (by omega) (by simpa using hr)), fun g => mid _ (row_bad hX p0 pe en (e - p).toNat 0 N (by omega) (by omega) (by omega) (fun h => g ⟨hpe, by simpa using h, hw⟩))⟩
    · refine ⟨fun g => absurd g.2.2 hw, fun _ => start _ (Ev.step (fun _ => rfl) ?_)⟩
      have hm : ¬ m = 0 := fun h => hw (Or.inl h)
      have hb : ((e - p) != f) = true := bne_iff_ne.2 (fun h => hw (Or.inr h))
      simp only [land_Parse.j2, hne, if_false, hm, hs, hb]
      refine Ev.step (fun _ => rfl) ?_
      simp only [land_Parse.j3, if_true]
      exact Ev.now _
  · have hemp : (X.extract p.toNat e.toNat).toList = ([] : List UInt8) := (empty_iff _).2 (by omega)
    refine ⟨fun g => absurd g.1 hpe, fun _ => start _ (Ev.step (fun _ => rfl) ?_)⟩
    simp only [land_Parse.j2, hemp, if_true]
    refine Ev.step (fun _ => rfl) ?_
    simp only [land_Parse.j3, if_true]
    exact Ev.now _
end Go.Proofs.Ytchflcnegpnkkaa.Par

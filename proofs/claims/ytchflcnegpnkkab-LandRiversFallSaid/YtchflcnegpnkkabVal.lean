import Derived.Test.YtchflcnegpnkkabPlain
import Derived.Test.YtchflcnegpnkkabQ2
import Derived.Test.YtchflcnegpnkkabQ3
namespace Go.Proofs.Ytchflcnegpnkkab.Val
open Go.RowKit Go.Proofs.YtchflcnegpnkkabOwn Go.Proofs.Ytchflcnegpnkkab.Q Go.Proofs.YtchflcnegpnkkabW.PrintWords Go.Proofs.YtchflcnegpnkkabW.PrintLast
/-- Two heights lie within one step. -/
def near (a b : Int) : Prop := a - b ≤ 1 ∧ b - a ≤ 1
instance (a b : Int) : Decidable (near a b) := by unfold near; infer_instance
def Hts (L : List Int) : Prop := ∀ i : Int, 0 ≤ i → i < (L.length : Int) → 0 ≤ rd L i ∧ rd L i ≤ 15
def cell (W H : Int) (L : List Int) (y x : Int) : Prop := (x < W → near (rd L (y * (W + 1) + x)) (rd L (y * (W + 1) + x + 1))) ∧ (y < H → near (rd L (y * (W + 1) + x)) (rd L ((y + 1) * (W + 1) + x)))
instance (W H : Int) (L : List Int) (y x : Int) : Decidable (cell W H L y x) := by unfold cell; infer_instance
def Steps (W H : Int) (L : List Int) : Prop := ∀ y x : Int, 0 ≤ y → y ≤ H → 0 ≤ x → x ≤ W → cell W H L y x
def Sides (W H : Int) (L : List Int) : Prop := 4 ≤ W ∧ W ≤ 32 ∧ 4 ≤ H ∧ H ≤ 32 ∧ (L.length : Int) = (H + 1) * (W + 1)
def Valid (W H : Int) (L : List Int) : Prop := Sides W H L ∧ Hts L ∧ Steps W H L
def Res (g : Nat → Option Int) (P : Prop) : Prop := ∃ r, Ev g r ∧ (r = 0 ∨ r = 5) ∧ (r = 0 ↔ P)

theorem row_in {y H m : Int} (h0 : 0 ≤ y) (h1 : y ≤ H) (hm : 0 ≤ m) : 0 ≤ y * m ∧ y * m + m ≤ (H + 1) * m := by
  constructor
  · exact Int.mul_nonneg h0 hm
  · have := Int.mul_le_mul_of_nonneg_right (show y + 1 ≤ H + 1 by omega) hm
    rw [Int.add_mul y 1 m, Int.one_mul] at this; exact this
theorem len_le {W H : Int} {L : List Int} (s : Sides W H L) : 25 ≤ (L.length : Int) ∧ (L.length : Int) ≤ 1089 := by
  obtain ⟨a, b, c, d, e⟩ := s
  have h1 := Int.mul_le_mul (show H + 1 ≤ 33 by omega) (show W + 1 ≤ 33 by omega) (by omega) (by omega)
  have h2 := Int.mul_le_mul (show 5 ≤ H + 1 by omega) (show 5 ≤ W + 1 by omega) (by omega) (by omega)
  omega
theorem apart_ok {a b : Int} (ha : 0 ≤ a ∧ a ≤ 15) (hb : 0 ≤ b ∧ b ≤ 15) : land_apart.f a b = some (!decide (near a b)) := by
  unfold land_apart.f
  rw [w64_in (by omega) (by omega), w64_in (by omega) (by omega)]
  by_cases h : a - b > 1
  · rw [if_pos h, decide_eq_false (p := near a b) (by unfold near; omega)]; rfl
  · rw [if_neg h]
    by_cases h2 : b - a > 1
    · rw [decide_eq_true h2, decide_eq_false (p := near a b) (by unfold near; omega)]; rfl
    · rw [decide_eq_false h2, decide_eq_true (p := near a b) (by unfold near; omega)]; rfl
theorem l0_ok {W H : Int} {L : List Int} {r : Int} (hn : (L.length : Int) ≤ 1089) (hg : Ev (fun k => land_Validate.l1 k 0 W H L) r) : ∀ (d : Nat) (i : Int), 0 ≤ i → i + d = L.length → (∀ j, i ≤ j → j < (L.length : Int) → 0 ≤ rd L j ∧ rd L j ≤ 15) → Ev (fun k => land_Validate.l0 k L (L.length : Int) i W H L) r := by
  intro d; induction d with
  | zero =>
    intro i h0 hd hh
    refine Ev.step (f := fun k => land_Validate.l1 k 0 W H L) (fun k => ?_) hg
    simp only [land_Validate.l0]; rw [if_neg (by omega)]
  | succ d ih =>
    intro i h0 hd hh
    have h1 := hh i (by omega) (by omega)
    obtain ⟨K, hK⟩ := ih (i + 1) (by omega) (by omega) (fun j a b => hh j (by omega) b)
    refine ⟨K + 2, fun k hk => ?_⟩
    obtain ⟨k, rfl⟩ : ∃ m, k = m + 1 + 1 := ⟨k - 2, by omega⟩
    simp only [land_Validate.l0, land_Validate.j2]
    rw [if_pos (by omega), if_pos (by omega), if_pos (by omega), if_neg (by omega), if_neg (by simp; omega), w64_in (by omega) (by omega)]
    exact hK k (by omega)
theorem l0_no {W H : Int} {L : List Int} (hn : (L.length : Int) ≤ 1089) : ∀ (d : Nat) (i : Int), 0 ≤ i → i + d = L.length → (∃ j, i ≤ j ∧ j < (L.length : Int) ∧ ¬ (0 ≤ rd L j ∧ rd L j ≤ 15)) → Ev (fun k => land_Validate.l0 k L (L.length : Int) i W H L) 1 := by
  intro d; induction d with
  | zero => intro i h0 hd hh; obtain ⟨j, a, b, _⟩ := hh; omega
  | succ d ih =>
    intro i h0 hd hh
    by_cases h1 : 0 ≤ rd L i ∧ rd L i ≤ 15
    · obtain ⟨K, hK⟩ := ih (i + 1) (by omega) (by omega) (by
        obtain ⟨j, a, b, c⟩ := hh
        refine ⟨j, ?_, b, c⟩
        by_cases e : j = i
        · subst e; exact absurd h1 c
        · omega)
      refine ⟨K + 2, fun k hk => ?_⟩
      obtain ⟨k, rfl⟩ : ∃ m, k = m + 1 + 1 := ⟨k - 2, by omega⟩
      simp only [land_Validate.l0, land_Validate.j2]
      rw [if_pos (by omega), if_pos (by omega), if_pos (by omega), if_neg (by omega), if_neg (by simp; omega), w64_in (by omega) (by omega)]
      exact hK k (by omega)
    · refine ⟨2, fun k hk => ?_⟩
      obtain ⟨k, rfl⟩ : ∃ m, k = m + 1 + 1 := ⟨k - 2, by omega⟩
      simp only [land_Validate.l0, land_Validate.j2]
      rw [if_pos (by omega), if_pos (by omega), if_pos (by omega)]
      by_cases h2 : rd L i < 0
      · rw [if_pos h2, if_pos trivial]
      · rw [if_neg h2, if_pos (by simp; omega)]
theorem row_ok {W H : Int} {L : List Int} (s : Sides W H L) (hh : Hts L) {y : Int} (y0 : 0 ≤ y) (y1 : y ≤ H) {P : Prop} (hn : Res (fun k => land_Validate.l1 k (y + 1) W H L) P) : ∀ (d : Nat) (x : Int), 0 ≤ x → x + d = W + 1 → Res (fun k => land_Validate.l2 k y x W H L) ((∀ x', x ≤ x' → x' ≤ W → cell W H L y x') ∧ P) := by
  obtain ⟨a, b, c, e, f⟩ := id s
  obtain ⟨l0, l1⟩ := len_le s
  obtain ⟨p0, p1⟩ := row_in (m := W + 1) y0 y1 (by omega)
  intro d; induction d with
  | zero =>
    intro x h0 hd
    obtain ⟨r, ⟨K, hK⟩, hr, hi⟩ := hn
    refine ⟨r, ⟨K + 1, fun k hk => ?_⟩, hr, by rw [hi]; exact ⟨fun h => ⟨fun x' h1 h2 => by omega, h⟩, fun h => h.2⟩⟩
    obtain ⟨k, rfl⟩ : ∃ m, k = m + 1 := ⟨k - 1, by omega⟩
    simp only [land_Validate.l2]
    rw [if_neg (by omega), w64_in (by omega) (by omega)]
    exact hK k (by omega)
  | succ d ih =>
    intro x h0 hd
    obtain ⟨r, ⟨K, hK⟩, hr, hi⟩ := ih (x + 1) (by omega) (by omega)
    have ep : (y + 1) * (W + 1) = y * (W + 1) + (W + 1) := by rw [Int.add_mul, Int.one_mul]
    have hc : cell W H L y x ↔ ((x < W → near (rd L (y * (W + 1) + x)) (rd L (y * (W + 1) + x + 1))) ∧ (y < H → near (rd L (y * (W + 1) + x)) (rd L (y * (W + 1) + (W + 1) + x)))) := by unfold cell; rw [ep]
    have hq : y < H → y * (W + 1) + (W + 1) + (W + 1) ≤ (H + 1) * (W + 1) := fun h => by
      have := (row_in (m := W + 1) (show 0 ≤ y + 1 by omega) (show y + 1 ≤ H by omega) (by omega)).2; omega
    have go : ∀ k, land_Validate.l2 (k + 1 + 1) y x W H L = if cell W H L y x then land_Validate.l2 k y (x + 1) W H L else some 5 := by
      intro k
      simp only [land_Validate.l2, land_Validate.j5]
      rw [w64_in (x := W + 1) (by omega) (by omega), w64_in (x := y + 1) (by omega) (by omega), ep]
      generalize y * (W + 1) = p at *
      rw [w64_in (x := p) (by omega) (by omega), w64_in (x := p + (W + 1)) (by omega) (by omega), w64_in (x := p + (W + 1) + x) (by omega) (by omega), w64_in (x := p + x) (by omega) (by omega), w64_in (x := p + x + 1) (by omega) (by omega), w64_in (x := x + 1) (by omega) (by omega)]
      rw [if_pos (by omega), if_pos (by omega), if_pos (by omega)]
      by_cases hx : x < W
      · rw [if_pos hx, if_pos (by omega), if_pos (by omega), apart_ok (hh _ (by omega) (by omega)) (hh _ (by omega) (by omega))]
        simp only [Option.bind_some]
        by_cases h1 : near (rd L (p + x)) (rd L (p + x + 1))
        · rw [if_neg (by simpa using h1)]
          by_cases hy : y < H
          · have := hq hy
            rw [if_pos hy, if_pos (by omega), if_pos (by omega), apart_ok (hh _ (by omega) (by omega)) (hh _ (by omega) (by omega))]
            simp only [Option.bind_some]
            by_cases h2 : near (rd L (p + x)) (rd L (p + (W + 1) + x))
            · rw [if_neg (by simpa using h2), if_pos (hc.2 ⟨fun _ => h1, fun _ => h2⟩)]
            · rw [if_pos (by simpa using h2), if_neg (fun h => h2 ((hc.1 h).2 hy))]
          · rw [if_neg hy, if_neg (by simp), if_pos (hc.2 ⟨fun _ => h1, fun h => absurd h hy⟩)]
        · rw [if_pos (by simpa using h1), if_pos trivial, if_neg (fun h => h1 ((hc.1 h).1 hx))]
      · rw [if_neg hx]
        by_cases hy : y < H
        · have := hq hy
          rw [if_pos hy, if_pos (by omega), if_pos (by omega), apart_ok (hh _ (by omega) (by omega)) (hh _ (by omega) (by omega))]
          simp only [Option.bind_some]
          by_cases h2 : near (rd L (p + x)) (rd L (p + (W + 1) + x))
          · rw [if_neg (by simpa using h2), if_pos (hc.2 ⟨fun h => absurd h hx, fun _ => h2⟩)]
          · rw [if_pos (by simpa using h2), if_neg (fun h => h2 ((hc.1 h).2 hy))]
        · rw [if_neg hy, if_neg (by simp), if_pos (hc.2 ⟨fun h => absurd h hx, fun h => absurd h hy⟩)]
    by_cases hcell : cell W H L y x
    · refine ⟨r, ⟨K + 2, fun k hk => ?_⟩, hr, ?_⟩
      · obtain ⟨k, rfl⟩ : ∃ m, k = m + 1 + 1 := ⟨k - 2, by omega⟩
        show land_Validate.l2 (k + 1 + 1) y x W H L = _
        rw [go, if_pos hcell]; exact hK k (by omega)
      · rw [hi]
        refine ⟨fun h => ⟨fun x' h1 h2 => ?_, h.2⟩, fun h => ⟨fun x' h1 h2 => h.1 x' (by omega) h2, h.2⟩⟩
        by_cases e : x' = x
        · subst e; exact hcell
        · exact h.1 x' (by omega) h2
    · refine ⟨5, ⟨2, fun k hk => ?_⟩, Or.inr rfl, ?_⟩
      · obtain ⟨k, rfl⟩ : ∃ m, k = m + 1 + 1 := ⟨k - 2, by omega⟩
        show land_Validate.l2 (k + 1 + 1) y x W H L = _
        rw [go, if_neg hcell]
      · exact ⟨fun h => absurd h (by decide), fun h => absurd (h.1 x (by omega) (by omega)) hcell⟩
theorem rows_ok {W H : Int} {L : List Int} (s : Sides W H L) (hh : Hts L) : ∀ (d : Nat) (y : Int), 0 ≤ y → y + d = H + 1 → Res (fun k => land_Validate.l1 k y W H L) (∀ y' x', y ≤ y' → y' ≤ H → 0 ≤ x' → x' ≤ W → cell W H L y' x') := by
  obtain ⟨a, b, c, e, f⟩ := id s
  intro d; induction d with
  | zero =>
    intro y h0 hd
    refine ⟨0, ⟨1, fun k hk => ?_⟩, Or.inl rfl, ⟨fun _ y' x' h1 h2 => by omega, fun _ => rfl⟩⟩
    obtain ⟨k, rfl⟩ : ∃ m, k = m + 1 := ⟨k - 1, by omega⟩
    simp only [land_Validate.l1]
    rw [if_neg (by omega)]
  | succ d ih =>
    intro y h0 hd
    obtain ⟨r, ⟨K, hK⟩, hr, hi⟩ := row_ok s hh h0 (by omega) (ih (y + 1) (by omega) (by omega)) (W + 1).toNat 0 (by omega) (by omega)
    refine ⟨r, ⟨K + 1, fun k hk => ?_⟩, hr, ?_⟩
    · obtain ⟨k, rfl⟩ : ∃ m, k = m + 1 := ⟨k - 1, by omega⟩
      simp only [land_Validate.l1]
      rw [if_pos (by omega)]
      exact hK k (by omega)
    · rw [hi]
      refine ⟨fun h y' x' h1 h2 h3 h4 => ?_, fun h => ⟨fun x' h1 h2 => h y x' (by omega) (by omega) h1 h2, fun y' x' h1 h2 h3 h4 => h y' x' (by omega) h2 h3 h4⟩⟩
      by_cases e : y' = y
      · subst e; exact h.1 x' h3 h4
      · exact h.2 y' x' (by omega) h2 h3 h4
theorem validate_ok (W H : Int) (L : List Int) : ∃ r, Ev (fun k => land_Validate.f k W H L) r ∧ (r = 0 ↔ Valid W H L) := by
  by_cases s : Sides W H L
  · obtain ⟨a, b, c, e, f⟩ := id s
    obtain ⟨n0, n1⟩ := len_le s
    have hlen : wrap64 (wrap64 (W + 1) * wrap64 (H + 1)) = (L.length : Int) := by
      rw [w64_in (x := W + 1) (by omega) (by omega), w64_in (x := H + 1) (by omega) (by omega), Int.mul_comm, ← f]
      exact w64_in (by omega) (by omega)
    have hA : ∀ k, land_Validate.f (k + 1) W H L = land_Validate.l0 k L (L.length : Int) 0 W H L := by
      intro k
      unfold land_Validate.f
      rw [if_neg (by omega), if_neg (by omega), if_neg (by omega), if_neg (by omega), hlen]
      simp only [land_Validate.j0]
      rw [if_neg (by simp)]
    by_cases hh : Hts L
    · obtain ⟨r, h1, h2, h3⟩ := rows_ok s hh (H + 1).toNat 0 (by omega) (by omega)
      refine ⟨r, Ev.step hA (l0_ok n1 h1 L.length 0 (by omega) (by omega) (fun j => hh j)), ?_⟩
      rw [h3]
      exact ⟨fun h => ⟨s, hh, fun y x a b c d => h y x a b c d⟩, fun h => fun y x a b c d => h.2.2 y x a b c d⟩
    · have hx : ∃ j, 0 ≤ j ∧ j < (L.length : Int) ∧ ¬ (0 ≤ rd L j ∧ rd L j ≤ 15) := by
        refine Classical.byContradiction fun h => hh fun i h0 h1 => ?_
        exact Classical.byContradiction fun h' => h ⟨i, h0, h1, h'⟩
      exact ⟨1, Ev.step hA (l0_no n1 L.length 0 (by omega) (by omega) hx), ⟨fun h => absurd h (by decide), fun h => absurd h.2.1 hh⟩⟩
  · refine ⟨1, ⟨1, fun k hk => ?_⟩, ⟨fun h => absurd h (by decide), fun h => absurd h.1 s⟩⟩
    obtain ⟨k, rfl⟩ : ∃ m, k = m + 1 := ⟨k - 1, by omega⟩
    show land_Validate.f (k + 1) W H L = _
    unfold land_Validate.f
    simp only [land_Validate.j0]
    by_cases h1 : W < 4
    · rw [if_pos h1, if_pos trivial]
    by_cases h2 : W > 32
    · rw [if_neg h1, if_pos h2, if_pos trivial]
    by_cases h3 : H < 4
    · rw [if_neg h1, if_neg h2, if_pos h3, if_pos trivial]
    by_cases h4 : H > 32
    · rw [if_neg h1, if_neg h2, if_neg h3, if_pos h4, if_pos trivial]
    rw [if_neg h1, if_neg h2, if_neg h3, if_neg h4, if_pos]
    simp only [bne_iff_ne]
    intro h5
    refine s ⟨by omega, by omega, by omega, by omega, ?_⟩
    rw [h5, w64_in (x := W + 1) (by omega) (by omega), w64_in (x := H + 1) (by omega) (by omega), Int.mul_comm]
    have := Int.mul_le_mul (show H + 1 ≤ 33 by omega) (show W + 1 ≤ 33 by omega) (by omega) (by omega)
    have := Int.mul_nonneg (show 0 ≤ H + 1 by omega) (show 0 ≤ W + 1 by omega)
    exact w64_in (by omega) (by omega)
end Go.Proofs.Ytchflcnegpnkkab.Val

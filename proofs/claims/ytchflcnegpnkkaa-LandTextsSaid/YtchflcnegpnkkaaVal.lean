import Derived.Test.YtchflcnegpnkkaaPlain
import Derived.Test.YtchflcnegpnkkaaQ4
import Derived.Test.YtchflcnegpnkkaaQ5
import Derived.Test.YtchflcnegpnkkaaQ11
import Derived.Test.YtchflcnegpnkkaaQ12
namespace Go.Proofs.Ytchflcnegpnkkaa.Val
open Go.RowKit Go.Proofs.YtchflcnegpnkkaaOwn Go.Proofs.Ytchflcnegpnkkaa.Q Go.Proofs.YtchflcnegpnkkaaW.PrintWords Go.Proofs.YtchflcnegpnkkaaW.PrintLast
/-- Two heights lie within one step. -/
def near (a b : Int) : Prop := a - b ≤ 1 ∧ b - a ≤ 1
instance (a b : Int) : Decidable (near a b) := by unfold near; infer_instance
def Hts (L : List Int) : Prop := ∀ i : Int, 0 ≤ i → i < (L.length : Int) → 0 ≤ rd L i ∧ rd L i ≤ 15
def cell (W H : Int) (L : List Int) (y x : Int) : Prop := (x < W → near (rd L (y * (W + 1) + x)) (rd L (y * (W + 1) + x + 1))) ∧ (y < H → near (rd L (y * (W + 1) + x)) (rd L ((y + 1) * (W + 1) + x)))
def place (W : Int) (L : List Int) (i : Int) : Prop := (0 < i % (W + 1) → near (rd L i) (rd L (i - 1))) ∧ (W < i → near (rd L i) (rd L (i - W - 1)))
instance (W H : Int) (L : List Int) (y x : Int) : Decidable (cell W H L y x) := by unfold cell; infer_instance
instance (W : Int) (L : List Int) (i : Int) : Decidable (place W L i) := by unfold place; infer_instance
def Steps (W H : Int) (L : List Int) : Prop := ∀ y x : Int, 0 ≤ y → y ≤ H → 0 ≤ x → x ≤ W → cell W H L y x
def Sides (W H : Int) (L : List Int) : Prop := 4 ≤ W ∧ W ≤ 32 ∧ 4 ≤ H ∧ H ≤ 32 ∧ (L.length : Int) = (H + 1) * (W + 1)
def Valid (W H : Int) (L : List Int) : Prop := Sides W H L ∧ Hts L ∧ Steps W H L
def Res (g : Nat → Option Int) (P : Prop) : Prop := ∃ r, Ev g r ∧ (r = 0 ∨ r = 5) ∧ (r = 0 ↔ P)

theorem row_in {y H m : Int} (h0 : 0 ≤ y) (h1 : y ≤ H) (hm : 0 ≤ m) : 0 ≤ y * m ∧ y * m + m ≤ (H + 1) * m := by
  constructor
  · exact Int.mul_nonneg h0 hm
  · have := Int.mul_le_mul_of_nonneg_right (show y + 1 ≤ H + 1 by omega) hm
    rw [Int.add_mul y 1 m, Int.one_mul] at this; exact this
theorem len_le {W H : Int} {L : List Int} (s : Sides W H L) : 25 ≤ (L.length : Int) ∧ (L.length : Int) ≤ 1089 := by
  obtain ⟨a, b, c, d, e⟩ := s
  have h1 := Int.mul_le_mul (show H + 1 ≤ 33 by omega) (show W + 1 ≤ 33 by omega) (by omega) (by omega)
  have h2 := Int.mul_le_mul (show 5 ≤ H + 1 by omega) (show 5 ≤ W + 1 by omega) (by omega) (by omega)
  omega
theorem apart_ok {a b : Int} (ha : 0 ≤ a ∧ a ≤ 15) (hb : 0 ≤ b ∧ b ≤ 15) : land_apart.f a b = some (!decide (near a b)) := by
  unfold land_apart.f
  rw [w64_in (by omega) (by omega), w64_in (by omega) (by omega)]
  by_cases h : a - b > 1
  · rw [if_pos h, decide_eq_false (p := near a b) (by unfold near; omega)]; rfl
  · rw [if_neg h]
    by_cases h2 : b - a > 1
    · rw [decide_eq_true h2, decide_eq_false (p := near a b) (by unfold near; omega)]; rfl
    · rw [decide_eq_false h2, decide_eq_true (p := near a b) (by unfold near; omega)]; rfl
theorem Apart_ok {a b : Int} (ha : -4000 ≤ a ∧ a ≤ 4000) (hb : -4000 ≤ b ∧ b ≤ 4000) : hinterlandref02_Apart.f a b = some (mx (a - b) (b - a)) := by
  unfold hinterlandref02_Apart.f mx
  rw [w64_in (by omega) (by omega), w64_in (by omega) (by omega)]
  by_cases h : a < b
  · rw [if_pos h]; congr 1; split <;> omega
  · rw [if_neg h]; congr 1; split <;> omega
theorem l0_ok {W H : Int} {L : List Int} {r : Int} (hn : (L.length : Int) ≤ 1089) (hg : Ev (fun k => land_Validate.l1 k 0 W H L) r) : ∀ (d : Nat) (i : Int), 0 ≤ i → i + d = L.length → (∀ j, i ≤ j → j < (L.length : Int) → 0 ≤ rd L j ∧ rd L j ≤ 15) → Ev (fun k => land_Validate.l0 k L (L.length : Int) i W H L) r := by
  intro d; induction d with
  | zero =>
    intro i h0 hd hh
    refine Ev.step (f := fun k => land_Validate.l1 k 0 W H L) (fun k => ?_) hg
    simp only [land_Validate.l0]; rw [if_neg (by omega)]
  | succ d ih =>
    intro i h0 hd hh
    have h1 := hh i (by omega) (by omega)
    obtain ⟨K, hK⟩ := ih (i + 1) (by omega) (by omega) (fun j a b => hh j (by omega) b)
    refine ⟨K + 2, fun k hk => ?_⟩
    obtain ⟨k, rfl⟩ : ∃ m, k = m + 1 + 1 := ⟨k - 2, by omega⟩
    simp only [land_Validate.l0, land_Validate.j2]
    rw [if_pos (by omega), if_pos (by omega), if_pos (by omega), if_neg (by omega), if_neg (by simp; omega), w64_in (by omega) (by omega)]
    exact hK k (by omega)
theorem l0_no {W H : Int} {L : List Int} (hn : (L.length : Int) ≤ 1089) : ∀ (d : Nat) (i : Int), 0 ≤ i → i + d = L.length → (∃ j, i ≤ j ∧ j < (L.length : Int) ∧ ¬ (0 ≤ rd L j ∧ rd L j ≤ 15)) → Ev (fun k => land_Validate.l0 k L (L.length : Int) i W H L) 1 := by
  intro d; induction d with
  | zero => intro i h0 hd hh; obtain ⟨j, a, b, _⟩ := hh; omega
  | succ d ih =>
    intro i h0 hd hh
    by_cases h1 : 0 ≤ rd L i ∧ rd L i ≤ 15
    · obtain ⟨K, hK⟩ := ih (i + 1) (by omega) (by omega) (by
        obtain ⟨j, a, b, c⟩ := hh
        refine ⟨j, ?_, b, c⟩
        by_cases e : j = i
        · subst e; exact absurd h1 c
        · omega)
      refine ⟨K + 2, fun k hk => ?_⟩
      obtain ⟨k, rfl⟩ : ∃ m, k = m + 1 + 1 := ⟨k - 2, by omega⟩
      simp only [land_Validate.l0, land_Validate.j2]
      rw [if_pos (by omega), if_pos (by omega), if_pos (by omega), if_neg (by omega), if_neg (by simp; omega), w64_in (by omega) (by omega)]
      exact hK k (by omega)
    · refine ⟨2, fun k hk => ?_⟩
      obtain ⟨k, rfl⟩ : ∃ m, k = m + 1 + 1 := ⟨k - 2, by omega⟩
      simp only [land_Validate.l0, land_Validate.j2]
      rw [if_pos (by omega), if_pos (by omega), if_pos (by omega)]
      by_cases h2 : rd L i < 0
      · rw [if_pos h2, if_pos trivial]
      · rw [if_neg h2, if_pos (by simp; omega)]
theorem m0_ok {W H : Int} {L : List Int} {r : Int} (hn : (L.length : Int) ≤ 1089) (hg : Ev (fun k => hinterlandref02_Validate.l1 k L (L.length : Int) 0 W H L) r) : ∀ (d : Nat) (i : Int), 0 ≤ i → i + d = L.length → (∀ j, i ≤ j → j < (L.length : Int) → 0 ≤ rd L j ∧ rd L j ≤ 15) → Ev (fun k => hinterlandref02_Validate.l0 k L (L.length : Int) i W H L) r := by
  intro d; induction d with
  | zero =>
    intro i h0 hd hh
    refine Ev.step (f := fun k => hinterlandref02_Validate.l1 k L (L.length : Int) 0 W H L) (fun k => ?_) hg
    simp only [hinterlandref02_Validate.l0]; rw [if_neg (by omega)]
  | succ d ih =>
    intro i h0 hd hh
    have h1 := hh i (by omega) (by omega)
    obtain ⟨K, hK⟩ := ih (i + 1) (by omega) (by omega) (fun j a b => hh j (by omega) b)
    refine ⟨K + 2, fun k hk => ?_⟩
    obtain ⟨k, rfl⟩ : ∃ m, k = m + 1 + 1 := ⟨k - 2, by omega⟩
    simp only [hinterlandref02_Validate.l0, hinterlandref02_Validate.j2]
    rw [if_pos (by omega), if_pos (by omega), if_pos (by omega), if_neg (by omega), if_neg (by simp; omega), w64_in (by omega) (by omega)]
    exact hK k (by omega)
theorem m0_no {W H : Int} {L : List Int} (hn : (L.length : Int) ≤ 1089) : ∀ (d : Nat) (i : Int), 0 ≤ i → i + d = L.length → (∃ j, i ≤ j ∧ j < (L.length : Int) ∧ ¬ (0 ≤ rd L j ∧ rd L j ≤ 15)) → Ev (fun k => hinterlandref02_Validate.l0 k L (L.length : Int) i W H L) 1 := by
  intro d; induction d with
  | zero => intro i h0 hd hh; obtain ⟨j, a, b, _⟩ := hh; omega
  | succ d ih =>
    intro i h0 hd hh
    by_cases h1 : 0 ≤ rd L i ∧ rd L i ≤ 15
    · obtain ⟨K, hK⟩ := ih (i + 1) (by omega) (by omega) (by
        obtain ⟨j, a, b, c⟩ := hh
        refine ⟨j, ?_, b, c⟩
        by_cases e : j = i
        · subst e; exact absurd h1 c
        · omega)
      refine ⟨K + 2, fun k hk => ?_⟩
      obtain ⟨k, rfl⟩ : ∃ m, k = m + 1 + 1 := ⟨k - 2, by omega⟩
      simp only [hinterlandref02_Validate.l0, hinterlandref02_Validate.j2]
      rw [if_pos (by omega), if_pos (by omega), if_pos (by omega), if_neg (by omega), if_neg (by simp; omega), w64_in (by omega) (by omega)]
      exact hK k (by omega)
    · refine ⟨2, fun k hk => ?_⟩
      obtain ⟨k, rfl⟩ : ∃ m, k = m + 1 + 1 := ⟨k - 2, by omega⟩
      simp only [hinterlandref02_Validate.l0, hinterlandref02_Validate.j2]
      rw [if_pos (by omega), if_pos (by omega), if_pos (by omega)]
      by_cases h2 : rd L i < 0
      · rw [if_pos h2, if_pos trivial]
      · rw [if_neg h2, if_pos (by simp; omega)]
theorem row_ok {W H : Int} {L : List Int} (s : Sides W H L) (hh : Hts L) {y : Int} (y0 : 0 ≤ y) (y1 : y ≤ H) {P : Prop} (hn : Res (fun k => land_Validate.l1 k (y + 1) W H L) P) : ∀ (d : Nat) (x : Int), 0 ≤ x → x + d = W + 1 → Res (fun k => land_Validate.l2 k y x W H L) ((∀ x', x ≤ x' → x' ≤ W → cell W H L y x') ∧ P) := by
  obtain ⟨a, b, c, e, f⟩ := id s
  obtain ⟨l0, l1⟩ := len_le s
  obtain ⟨p0, p1⟩ := row_in (m := W + 1) y0 y1 (by omega)
  intro d; induction d with
  | zero =>
    intro x h0 hd
    obtain ⟨r, ⟨K, hK⟩, hr, hi⟩ := hn
    refine ⟨r, ⟨K + 1, fun k hk => ?_⟩, hr, by rw [hi]; exact ⟨fun h => ⟨fun x' h1 h2 => by omega, h⟩, fun h => h.2⟩⟩
    obtain ⟨k, rfl⟩ : ∃ m, k = m + 1 := ⟨k - 1, by omega⟩
    simp only [land_Validate.l2]
    rw [if_neg (by omega), w64_in (by omega) (by omega)]
    exact hK k (by omega)
  | succ d ih =>
    intro x h0 hd
    obtain ⟨r, ⟨K, hK⟩, hr, hi⟩ := ih (x + 1) (by omega) (by omega)
    have ep : (y + 1) * (W + 1) = y * (W + 1) + (W + 1) := by rw [Int.add_mul, Int.one_mul]
    have hc : cell W H L y x ↔ ((x < W → near (rd L (y * (W + 1) + x)) (rd L (y * (W + 1) + x + 1))) ∧ (y < H → near (rd L (y * (W + 1) + x)) (rd L (y * (W + 1) + (W + 1) + x)))) := by unfold cell; rw [ep]
    have hq : y < H → y * (W + 1) + (W + 1) + (W + 1) ≤ (H + 1) * (W + 1) := fun h => by
      have := (row_in (m := W + 1) (show 0 ≤ y + 1 by omega) (show y + 1 ≤ H by omega) (by omega)).2; omega
    have go : ∀ k, land_Validate.l2 (k + 1 + 1) y x W H L = if cell W H L y x then land_Validate.l2 k y (x + 1) W H L else some 5 := by
      intro k
      simp only [land_Validate.l2, land_Validate.j5]
      rw [w64_in (x := W + 1) (by omega) (by omega), w64_in (x := y + 1) (by omega) (by omega), ep]
      generalize y * (W + 1) = p at *
      rw [w64_in (x := p) (by omega) (by omega), w64_in (x := p + (W + 1)) (by omega) (by omega), w64_in (x := p + (W + 1) + x) (by omega) (by omega), w64_in (x := p + x) (by omega) (by omega), w64_in (x := p + x + 1) (by omega) (by omega), w64_in (x := x + 1) (by omega) (by omega)]
      rw [if_pos (by omega), if_pos (by omega), if_pos (by omega)]
      by_cases hx : x < W
      · rw [if_pos hx, if_pos (by omega), if_pos (by omega), apart_ok (hh _ (by omega) (by omega)) (hh _ (by omega) (by omega))]
        simp only [Option.bind_some]
        by_cases h1 : near (rd L (p + x)) (rd L (p + x + 1))
        · rw [if_neg (by simpa using h1)]
          by_cases hy : y < H
          · have := hq hy
            rw [if_pos hy, if_pos (by omega), if_pos (by omega), apart_ok (hh _ (by omega) (by omega)) (hh _ (by omega) (by omega))]
            simp only [Option.bind_some]
            by_cases h2 : near (rd L (p + x)) (rd L (p + (W + 1) + x))
            · rw [if_neg (by simpa using h2), if_pos (hc.2 ⟨fun _ => h1, fun _ => h2⟩)]
            · rw [if_pos (by simpa using h2), if_neg (fun h => h2 ((hc.1 h).2 hy))]
          · rw [if_neg hy, if_neg (by simp), if_pos (hc.2 ⟨fun _ => h1, fun h => absurd h hy⟩)]
        · rw [if_pos (by simpa using h1), if_pos trivial, if_neg (fun h => h1 ((hc.1 h).1 hx))]
      · rw [if_neg hx]
        by_cases hy : y < H
        · have := hq hy
          rw [if_pos hy, if_pos (by omega), if_pos (by omega), apart_ok (hh _ (by omega) (by omega)) (hh _ (by omega) (by omega))]
          simp only [Option.bind_some]
          by_cases h2 : near (rd L (p + x)) (rd L (p + (W + 1) + x))
          · rw [if_neg (by simpa using h2), if_pos (hc.2 ⟨fun h => absurd h hx, fun _ => h2⟩)]
          · rw [if_pos (by simpa using h2), if_neg (fun h => h2 ((hc.1 h).2 hy))]
        · rw [if_neg hy, if_neg (by simp), if_pos (hc.2 ⟨fun h => absurd h hx, fun h => absurd h hy⟩)]
    by_cases hcell : cell W H L y x
    · refine ⟨r, ⟨K + 2, fun k hk => ?_⟩, hr, ?_⟩
      · obtain ⟨k, rfl⟩ : ∃ m, k = m + 1 + 1 := ⟨k - 2, by omega⟩
        show land_Validate.l2 (k + 1 + 1) y x W H L = _
        rw [go, if_pos hcell]; exact hK k (by omega)
      · rw [hi]
        refine ⟨fun h => ⟨fun x' h1 h2 => ?_, h.2⟩, fun h => ⟨fun x' h1 h2 => h.1 x' (by omega) h2, h.2⟩⟩
        by_cases e : x' = x
        · subst e; exact hcell
        · exact h.1 x' (by omega) h2
    · refine ⟨5, ⟨2, fun k hk => ?_⟩, Or.inr rfl, ?_⟩
      · obtain ⟨k, rfl⟩ : ∃ m, k = m + 1 + 1 := ⟨k - 2, by omega⟩
        show land_Validate.l2 (k + 1 + 1) y x W H L = _
        rw [go, if_neg hcell]
      · exact ⟨fun h => absurd h (by decide), fun h => absurd (h.1 x (by omega) (by omega)) hcell⟩
theorem rows_ok {W H : Int} {L : List Int} (s : Sides W H L) (hh : Hts L) : ∀ (d : Nat) (y : Int), 0 ≤ y → y + d = H + 1 → Res (fun k => land_Validate.l1 k y W H L) (∀ y' x', y ≤ y' → y' ≤ H → 0 ≤ x' → x' ≤ W → cell W H L y' x') := by
  obtain ⟨a, b, c, e, f⟩ := id s
  intro d; induction d with
  | zero =>
    intro y h0 hd
    refine ⟨0, ⟨1, fun k hk => ?_⟩, Or.inl rfl, ⟨fun _ y' x' h1 h2 => by omega, fun _ => rfl⟩⟩
    obtain ⟨k, rfl⟩ : ∃ m, k = m + 1 := ⟨k - 1, by omega⟩
    simp only [land_Validate.l1]
    rw [if_neg (by omega)]
  | succ d ih =>
    intro y h0 hd
    obtain ⟨r, ⟨K, hK⟩, hr, hi⟩ := row_ok s hh h0 (by omega) (ih (y + 1) (by omega) (by omega)) (W + 1).toNat 0 (by omega) (by omega)
    refine ⟨r, ⟨K + 1, fun k hk => ?_⟩, hr, ?_⟩
    · obtain ⟨k, rfl⟩ : ∃ m, k = m + 1 := ⟨k - 1, by omega⟩
      simp only [land_Validate.l1]
      rw [if_pos (by omega)]
      exact hK k (by omega)
    · rw [hi]
      refine ⟨fun h y' x' h1 h2 h3 h4 => ?_, fun h => ⟨fun x' h1 h2 => h y x' (by omega) (by omega) h1 h2, fun y' x' h1 h2 h3 h4 => h y' x' (by omega) h2 h3 h4⟩⟩
      by_cases e : y' = y
      · subst e; exact h.1 x' h3 h4
      · exact h.2 y' x' (by omega) h2 h3 h4
theorem mx_le {a b : Int} : mx (a - b) (b - a) > 1 ↔ ¬ near a b := by unfold mx near; split <;> omega
theorem places_ok {W H : Int} {L : List Int} (s : Sides W H L) (hh : Hts L) : ∀ (d : Nat) (i : Int), 0 ≤ i → i + d = L.length → Res (fun k => hinterlandref02_Validate.l1 k L (L.length : Int) i W H L) (∀ j, i ≤ j → j < (L.length : Int) → place W L j) := by
  obtain ⟨a, b, c, e, f⟩ := id s
  obtain ⟨l0, l1⟩ := len_le s
  intro d; induction d with
  | zero =>
    intro i h0 hd
    refine ⟨0, ⟨1, fun k hk => ?_⟩, Or.inl rfl, ⟨fun _ j h1 h2 => by omega, fun _ => rfl⟩⟩
    obtain ⟨k, rfl⟩ : ∃ m, k = m + 1 := ⟨k - 1, by omega⟩
    simp only [hinterlandref02_Validate.l1]
    rw [if_neg (by omega)]
  | succ d ih =>
    intro i h0 hd
    obtain ⟨r, ⟨K, hK⟩, hr, hi⟩ := ih (i + 1) (by omega) (by omega)
    have hm : i % (W + 1) ≤ i := by
      have h1 := Int.mul_ediv_add_emod i (W + 1)
      have h2 := Int.mul_nonneg (show 0 ≤ W + 1 by omega) (Int.ediv_nonneg h0 (show 0 ≤ W + 1 by omega))
      omega
    have ap : ∀ u v, 0 ≤ u → u < (L.length : Int) → 0 ≤ v → v < (L.length : Int) → hinterlandref02_Apart.f (rd L u) (rd L v) = some (mx (rd L u - rd L v) (rd L v - rd L u)) := fun u v h1 h2 h3 h4 => Apart_ok (by have := hh u h1 h2; omega) (by have := hh v h3 h4; omega)
    have go : ∀ k, hinterlandref02_Validate.l1 (k + 1 + 1) L (L.length : Int) i W H L = if place W L i then hinterlandref02_Validate.l1 k L (L.length : Int) (i + 1) W H L else some 5 := by
      intro k
      simp only [hinterlandref02_Validate.l1, hinterlandref02_Validate.j4]
      rw [w64_in (x := W + 1) (by omega) (by omega), w64_in (x := i - W) (by omega) (by omega), w64_in (x := i - W - 1) (by omega) (by omega), w64_in (x := i - 1) (by omega) (by omega), w64_in (x := i + 1) (by omega) (by omega)]
      rw [Int.tmod_eq_emod_of_nonneg h0, if_pos (by omega), if_pos (by omega), if_pos (by omega), if_neg (by omega)]
      by_cases hx : 0 < i % (W + 1)
      · rw [if_pos hx, if_pos (by omega), if_pos (by omega), ap _ _ (by omega) (by omega) (by omega) (by omega)]
        simp only [Option.bind_some]
        by_cases h1 : near (rd L i) (rd L (i - 1))
        · rw [if_neg (fun h => mx_le.1 h h1)]
          by_cases hy : W < i
          · rw [if_pos hy, if_pos (by omega), if_pos (by omega), ap _ _ (by omega) (by omega) (by omega) (by omega)]
            simp only [Option.bind_some]
            by_cases h2 : near (rd L i) (rd L (i - W - 1))
            · rw [if_neg (by simpa using fun h => mx_le.1 h h2), if_pos ⟨fun _ => h1, fun _ => h2⟩]
            · rw [if_pos (by simpa using mx_le.2 h2), if_neg (fun h => h2 (h.2 hy))]
          · rw [if_neg hy, if_neg (by simp), if_pos ⟨fun _ => h1, fun h => absurd h hy⟩]
        · rw [if_pos (mx_le.2 h1), if_pos trivial, if_neg (fun h => h1 (h.1 hx))]
      · rw [if_neg hx]
        by_cases hy : W < i
        · rw [if_pos hy, if_pos (by omega), if_pos (by omega), ap _ _ (by omega) (by omega) (by omega) (by omega)]
          simp only [Option.bind_some]
          by_cases h2 : near (rd L i) (rd L (i - W - 1))
          · rw [if_neg (by simpa using fun h => mx_le.1 h h2), if_pos ⟨fun h => absurd h hx, fun _ => h2⟩]
          · rw [if_pos (by simpa using mx_le.2 h2), if_neg (fun h => h2 (h.2 hy))]
        · rw [if_neg hy, if_neg (by simp), if_pos ⟨fun h => absurd h hx, fun h => absurd h hy⟩]
    by_cases hcell : place W L i
    · refine ⟨r, ⟨K + 2, fun k hk => ?_⟩, hr, ?_⟩
      · obtain ⟨k, rfl⟩ : ∃ m, k = m + 1 + 1 := ⟨k - 2, by omega⟩
        show hinterlandref02_Validate.l1 (k + 1 + 1) L (L.length : Int) i W H L = _
        rw [go, if_pos hcell]; exact hK k (by omega)
      · rw [hi]
        refine ⟨fun h x' h1 h2 => ?_, fun h x' h1 h2 => h x' (by omega) h2⟩
        by_cases e : x' = i
        · subst e; exact hcell
        · exact h x' (by omega) h2
    · refine ⟨5, ⟨2, fun k hk => ?_⟩, Or.inr rfl, ?_⟩
      · obtain ⟨k, rfl⟩ : ∃ m, k = m + 1 + 1 := ⟨k - 2, by omega⟩
        show hinterlandref02_Validate.l1 (k + 1 + 1) L (L.length : Int) i W H L = _
        rw [go, if_neg hcell]
      · exact ⟨fun h => absurd h (by decide), fun h => absurd (h i (by omega) (by omega)) hcell⟩
theorem near_comm {a b : Int} : near a b ↔ near b a := by unfold near; omega
theorem steps_places {W H : Int} {L : List Int} (s : Sides W H L) : (∀ y' x', 0 ≤ y' → y' ≤ H → 0 ≤ x' → x' ≤ W → cell W H L y' x') ↔ (∀ j, 0 ≤ j → j < (L.length : Int) → place W L j) := by
  obtain ⟨a, b, c, e, f⟩ := id s
  constructor
  · intro h j j0 j1
    have hx0 := Int.emod_nonneg j (show W + 1 ≠ 0 by omega)
    have hx1 := Int.emod_lt_of_pos j (show 0 < W + 1 by omega)
    have hd := Int.mul_ediv_add_emod j (W + 1)
    have hy0 : 0 ≤ j / (W + 1) := Int.ediv_nonneg j0 (by omega)
    have hy1 : j / (W + 1) ≤ H := by
      have : j / (W + 1) < H + 1 := Int.ediv_lt_of_lt_mul (by omega) (by omega)
      omega
    rw [Int.mul_comm] at hd
    generalize hy : j / (W + 1) = y at *
    generalize hx : j % (W + 1) = x at *
    have ep : (y - 1) * (W + 1) = y * (W + 1) - (W + 1) := by rw [Int.sub_mul, Int.one_mul]
    refine ⟨fun g => ?_, fun g => ?_⟩
    · rw [hx] at g
      have := (h y (x - 1) hy0 hy1 (by omega) (by omega)).1 (by omega)
      rw [show y * (W + 1) + (x - 1) = j - 1 by omega, show j - 1 + 1 = j by omega] at this
      exact near_comm.1 this
    · have hyp : 1 ≤ y := by
        by_cases h0 : y = 0
        · subst h0; omega
        · omega
      have := (h (y - 1) x (by omega) (by omega) (by omega) (by omega)).2 (by omega)
      rw [ep, show y - 1 + 1 = y by omega, show y * (W + 1) - (W + 1) + x = j - W - 1 by omega, show y * (W + 1) + x = j by omega] at this
      exact near_comm.1 this
  · intro h y x y0 y1 x0 x1
    have ep : (y + 1) * (W + 1) = y * (W + 1) + (W + 1) := by rw [Int.add_mul, Int.one_mul]
    obtain ⟨p0, p1⟩ := row_in (m := W + 1) y0 y1 (by omega)
    refine ⟨fun g => ?_, fun g => ?_⟩
    · have := (h (y * (W + 1) + x + 1) (by omega) (by omega)).1 (by
        rw [show y * (W + 1) + x + 1 = (x + 1) + y * (W + 1) by omega, Int.add_mul_emod_self_right, Int.emod_eq_of_lt (by omega) (by omega)]; omega)
      rw [show y * (W + 1) + x + 1 - 1 = y * (W + 1) + x by omega] at this
      exact near_comm.1 this
    · have q := (row_in (m := W + 1) (show 0 ≤ y + 1 by omega) (show y + 1 ≤ H by omega) (by omega)).2
      have := (h ((y + 1) * (W + 1) + x) (by omega) (by omega)).2 (by omega)
      rw [show (y + 1) * (W + 1) + x - W - 1 = y * (W + 1) + x by omega] at this
      exact near_comm.1 this
/-- Both say the same of a land, and 0 just of a valid one. -/
theorem validate_ok (W H : Int) (L : List Int) : ∃ r, Ev (fun k => land_Validate.f k W H L) r ∧ Ev (fun k => hinterlandref02_Validate.f k W H L) r ∧ (r = 0 ↔ Valid W H L) := by
  by_cases s : Sides W H L
  · obtain ⟨a, b, c, e, f⟩ := id s
    obtain ⟨n0, n1⟩ := len_le s
    have hlen : wrap64 (wrap64 (W + 1) * wrap64 (H + 1)) = (L.length : Int) := by
      rw [w64_in (x := W + 1) (by omega) (by omega), w64_in (x := H + 1) (by omega) (by omega), Int.mul_comm, ← f]
      exact w64_in (by omega) (by omega)
    have hA : ∀ k, land_Validate.f (k + 1) W H L = land_Validate.l0 k L (L.length : Int) 0 W H L := by
      intro k
      unfold land_Validate.f
      rw [if_neg (by omega), if_neg (by omega), if_neg (by omega), if_neg (by omega), hlen]
      simp only [land_Validate.j0]
      rw [if_neg (by simp)]
    have hB : ∀ k, hinterlandref02_Validate.f (k + 1) W H L = hinterlandref02_Validate.l0 k L (L.length : Int) 0 W H L := by
      intro k
      unfold hinterlandref02_Validate.f hinterlandref02_side.f
      rw [if_pos (by omega), if_pos (by omega), hlen]
      simp only [Option.bind_some]
      rw [if_pos (by simp; omega), if_pos (by simp; omega)]
      simp only [hinterlandref02_Validate.j0]
      rw [if_neg (by simp)]
    by_cases hh : Hts L
    · obtain ⟨r, h1, h2, h3⟩ := rows_ok s hh (H + 1).toNat 0 (by omega) (by omega)
      obtain ⟨r', h1', h2', h3'⟩ := places_ok s hh L.length 0 (by omega) (by omega)
      have hs := steps_places s
      have er : r = r' := by
        have : r = 0 ↔ r' = 0 := by rw [h3, h3', hs]
        omega
      subst er
      refine ⟨r, Ev.step hA (l0_ok n1 h1 L.length 0 (by omega) (by omega) (fun j => hh j)), Ev.step hB (m0_ok n1 h1' L.length 0 (by omega) (by omega) (fun j => hh j)), ?_⟩
      rw [h3]
      exact ⟨fun h => ⟨s, hh, fun y x a b c d => h y x a b c d⟩, fun h => fun y x a b c d => h.2.2 y x a b c d⟩
    · have hx : ∃ j, 0 ≤ j ∧ j < (L.length : Int) ∧ ¬ (0 ≤ rd L j ∧ rd L j ≤ 15) := by
        refine Classical.byContradiction fun h => hh fun i h0 h1 => ?_
        exact Classical.byContradiction fun h' => h ⟨i, h0, h1, h'⟩
      exact ⟨1, Ev.step hA (l0_no n1 L.length 0 (by omega) (by omega) hx), Ev.step hB (m0_no n1 L.length 0 (by omega) (by omega) hx), ⟨fun h => absurd h (by decide), fun h => absurd h.2.1 hh⟩⟩
  · refine ⟨1, ⟨1, fun k hk => ?_⟩, ⟨1, fun k hk => ?_⟩, ⟨fun h => absurd h (by decide), fun h => absurd h.1 s⟩⟩
    · obtain ⟨k, rfl⟩ : ∃ m, k = m + 1 := ⟨k - 1, by omega⟩
      unfold land_Validate.f
      simp only [land_Validate.j0]
      by_cases h1 : W < 4
      · rw [if_pos h1, if_pos trivial]
      by_cases h2 : W > 32
      · rw [if_neg h1, if_pos h2, if_pos trivial]
      by_cases h3 : H < 4
      · rw [if_neg h1, if_neg h2, if_pos h3, if_pos trivial]
      by_cases h4 : H > 32
      · rw [if_neg h1, if_neg h2, if_neg h3, if_pos h4, if_pos trivial]
      rw [if_neg h1, if_neg h2, if_neg h3, if_neg h4, if_pos]
      simp only [bne_iff_ne]
      intro h5
      refine s ⟨by omega, by omega, by omega, by omega, ?_⟩
      rw [h5, w64_in (x := W + 1) (by omega) (by omega), w64_in (x := H + 1) (by omega) (by omega), Int.mul_comm]
      have := Int.mul_le_mul (show H + 1 ≤ 33 by omega) (show W + 1 ≤ 33 by omega) (by omega) (by omega)
      have := Int.mul_nonneg (show 0 ≤ H + 1 by omega) (show 0 ≤ W + 1 by omega)
      exact w64_in (by omega) (by omega)
    · obtain ⟨k, rfl⟩ : ∃ m, k = m + 1 := ⟨k - 1, by omega⟩
      unfold hinterlandref02_Validate.f hinterlandref02_side.f
      simp only [hinterlandref02_Validate.j0]
      by_cases h1 : W ≥ 4
      · by_cases h2 : W ≤ 32
        · by_cases h3 : H ≥ 4
          · by_cases h4 : H ≤ 32
            · simp only [h1, h2, h3, h4, if_true, Option.bind_some, decide_true]
              rw [if_pos]
              simp only [bne_iff_ne]
              intro h5
              refine s ⟨by omega, by omega, by omega, by omega, ?_⟩
              rw [h5, w64_in (x := W + 1) (by omega) (by omega), w64_in (x := H + 1) (by omega) (by omega), Int.mul_comm]
              have := Int.mul_le_mul (show H + 1 ≤ 33 by omega) (show W + 1 ≤ 33 by omega) (by omega) (by omega)
              have := Int.mul_nonneg (show 0 ≤ H + 1 by omega) (show 0 ≤ W + 1 by omega)
              exact w64_in (by omega) (by omega)
            · simp [h1, h2, h3, h4]
          · simp [h1, h2, h3]
        · simp [h1, h2]
      · simp [h1]
end Go.Proofs.Ytchflcnegpnkkaa.Val

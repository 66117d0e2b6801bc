/- What is proved: law LandShiftsLeast of this seat, all in one text (laid by prune.py). -/
import Derived.Test.YtchflcnegpnkkaaOpen
import Derived.OpenShut
import Derived.Test.YtchflcnegpnkkaaQ3
import Derived.Test.YtchflcnegpnkkaaQ4
import Derived.Test.YtchflcnegpnkkaaQ5
import Derived.Test.YtchflcnegpnkkaaQ6
import Derived.Test.YtchflcnegpnkkaaQ8
import Derived.Test.YtchflcnegpnkkaaQ10
import Derived.Test.YtchflcnegpnkkaaQ11
import Derived.Test.YtchflcnegpnkkaaQ12
import Derived.Test.YtchflcnegpnkkaaQ14
import Derived.Test.YtchflcnegpnkkaaQ56
namespace Go.Proofs.YtchflcnegpnkkaaOwn
open Go.RowKit Go.Proofs.YtchflcnegpnkkaaW.PrintWords
theorem w64_in {x : Int} (h0 : -9223372036854775808 ≤ x) (h1 : x ≤ 9223372036854775807) : wrap64 x = x := by unfold wrap64; omega
end Go.Proofs.YtchflcnegpnkkaaOwn
namespace Go.Proofs.Ytchflcnegpnkkaa.Val
open Go.RowKit Go.Proofs.YtchflcnegpnkkaaOwn Go.Proofs.Ytchflcnegpnkkaa.Q Go.Proofs.YtchflcnegpnkkaaW.PrintWords Go.Proofs.YtchflcnegpnkkaaW.PrintLast
/-- Two heights lie within one step. -/
def near (a b : Int) : Prop := a - b ≤ 1 ∧ b - a ≤ 1
instance (a b : Int) : Decidable (near a b) := by unfold near; infer_instance
def Hts (L : List Int) : Prop := ∀ i : Int, 0 ≤ i → i < (L.length : Int) → 0 ≤ rd L i ∧ rd L i ≤ 15
def cell (W H : Int) (L : List Int) (y x : Int) : Prop := (x < W → near (rd L (y * (W + 1) + x)) (rd L (y * (W + 1) + x + 1))) ∧ (y < H → near (rd L (y * (W + 1) + x)) (rd L ((y + 1) * (W + 1) + x)))
def place (W : Int) (L : List Int) (i : Int) : Prop := (0 < i % (W + 1) → near (rd L i) (rd L (i - 1))) ∧ (W < i → near (rd L i) (rd L (i - W - 1)))
instance (W H : Int) (L : List Int) (y x : Int) : Decidable (cell W H L y x) := by unfold cell; infer_instance
instance (W : Int) (L : List Int) (i : Int) : Decidable (place W L i) := by unfold place; infer_instance
def Steps (W H : Int) (L : List Int) : Prop := ∀ y x : Int, 0 ≤ y → y ≤ H → 0 ≤ x → x ≤ W → cell W H L y x
def Sides (W H : Int) (L : List Int) : Prop := 4 ≤ W ∧ W ≤ 32 ∧ 4 ≤ H ∧ H ≤ 32 ∧ (L.length : Int) = (H + 1) * (W + 1)
def Valid (W H : Int) (L : List Int) : Prop := Sides W H L ∧ Hts L ∧ Steps W H L
def Res (g : Nat → Option Int) (P : Prop) : Prop := ∃ r, Ev g r ∧ (r = 0 ∨ r = 5) ∧ (r = 0 ↔ P)
theorem row_in {y H m : Int} (h0 : 0 ≤ y) (h1 : y ≤ H) (hm : 0 ≤ m) : 0 ≤ y * m ∧ y * m + m ≤ (H + 1) * m := by
  constructor
  · exact Int.mul_nonneg h0 hm
  · have := Int.mul_le_mul_of_nonneg_right (show y + 1 ≤ H + 1 by omega) hm
    rw [Int.add_mul y 1 m, Int.one_mul] at this; exact this
theorem len_le {W H : Int} {L : List Int} (s : Sides W H L) : 25 ≤ (L.length : Int) ∧ (L.length : Int) ≤ 1089 := by
  obtain ⟨a, b, c, d, e⟩ := s
  have h1 := Int.mul_le_mul (show H + 1 ≤ 33 by omega) (show W + 1 ≤ 33 by omega) (by omega) (by omega)
  have h2 := Int.mul_le_mul (show 5 ≤ H + 1 by omega) (show 5 ≤ W + 1 by omega) (by omega) (by omega)
  omega
theorem apart_ok {a b : Int} (ha : 0 ≤ a ∧ a ≤ 15) (hb : 0 ≤ b ∧ b ≤ 15) : land_apart.f a b = some (!decide (near a b)) := by
  unfold land_apart.f
  rw [w64_in (by omega) (by omega), w64_in (by omega) (by omega)]
  by_cases h : a - b > 1
  · rw [if_pos h, decide_eq_false (p := near a b) (by unfold near; omega)]; rfl
  · rw [if_neg h]
    by_cases h2 : b - a > 1
    · rw [decide_eq_true h2, decide_eq_false (p := near a b) (by unfold near; omega)]; rfl
    · rw [decide_eq_false h2, decide_eq_true (p := near a b) (by unfold near; omega)]; rfl
theorem Apart_ok {a b : Int} (ha : -4000 ≤ a ∧ a ≤ 4000) (hb : -4000 ≤ b ∧ b ≤ 4000) : hinterlandref02_Apart.f a b = some (mx (a - b) (b - a)) := by
  unfold hinterlandref02_Apart.f mx
  rw [w64_in (by omega) (by omega), w64_in (by omega) (by omega)]
  by_cases h : a < b
  · rw [if_pos h]; congr 1; split <;> omega
  · rw [if_neg h]; congr 1; split <;> omega
theorem l0_ok {W H : Int} {L : List Int} {r : Int} (hn : (L.length : Int) ≤ 1089) (hg : Ev (fun k => land_Validate.l1 k 0 W H L) r) : ∀ (d : Nat) (i : Int), 0 ≤ i → i + d = L.length → (∀ j, i ≤ j → j < (L.length : Int) → 0 ≤ rd L j ∧ rd L j ≤ 15) → Ev (fun k => land_Validate.l0 k L (L.length : Int) i W H L) r := by
  intro d; induction d with
  | zero =>
    intro i h0 hd hh
    refine Ev.step (f := fun k => land_Validate.l1 k 0 W H L) (fun k => ?_) hg
    simp only [land_Validate.l0]; rw [if_neg (by omega)]
  | succ d ih =>
    intro i h0 hd hh
    have h1 := hh i (by omega) (by omega)
    obtain ⟨K, hK⟩ := ih (i + 1) (by omega) (by omega) (fun j a b => hh j (by omega) b)
    refine ⟨K + 2, fun k hk => ?_⟩
    obtain ⟨k, rfl⟩ : ∃ m, k = m + 1 + 1 := ⟨k - 2, by omega⟩
    simp only [land_Validate.l0, land_Validate.j2]
    rw [if_pos (by omega), if_pos (by omega), if_pos (by omega), if_neg (by omega), if_neg (by simp; omega), w64_in (by omega) (by omega)]
    exact hK k (by omega)
theorem l0_no {W H : Int} {L : List Int} (hn : (L.length : Int) ≤ 1089) : ∀ (d : Nat) (i : Int), 0 ≤ i → i + d = L.length → (∃ j, i ≤ j ∧ j < (L.length : Int) ∧ ¬ (0 ≤ rd L j ∧ rd L j ≤ 15)) → Ev (fun k => land_Validate.l0 k L (L.length : Int) i W H L) 1 := by
  intro d; induction d with
  | zero => intro i h0 hd hh; obtain ⟨j, a, b, _⟩ := hh; omega
  | succ d ih =>
    intro i h0 hd hh
    by_cases h1 : 0 ≤ rd L i ∧ rd L i ≤ 15
    · obtain ⟨K, hK⟩ := ih (i + 1) (by omega) (by omega) (by
        obtain ⟨j, a, b, c⟩ := hh
        refine ⟨j, ?_, b, c⟩
        by_cases e : j = i
        · subst e; exact absurd h1 c
        · omega)
      refine ⟨K + 2, fun k hk => ?_⟩
      obtain ⟨k, rfl⟩ : ∃ m, k = m + 1 + 1 := ⟨k - 2, by omega⟩
      simp only [land_Validate.l0, land_Validate.j2]
      rw [if_pos (by omega), if_pos (by omega), if_pos (by omega), if_neg (by omega), if_neg (by simp; omega), w64_in (by omega) (by omega)]
      exact hK k (by omega)
    · refine ⟨2, fun k hk => ?_⟩
      obtain ⟨k, rfl⟩ : ∃ m, k = m + 1 + 1 := ⟨k - 2, by omega⟩
      simp only [land_Validate.l0, land_Validate.j2]
      rw [if_pos (by omega), if_pos (by omega), if_pos (by omega)]
      by_cases h2 : rd L i < 0
      · rw [if_pos h2, if_pos trivial]
      · rw [if_neg h2, if_pos (by simp; omega)]
theorem m0_ok {W H : Int} {L : List Int} {r : Int} (hn : (L.length : Int) ≤ 1089) (hg : Ev (fun k => hinterlandref02_Validate.l1 k L (L.length : Int) 0 W H L) r) : ∀ (d : Nat) (i : Int), 0 ≤ i → i + d = L.length → (∀ j, i ≤ j → j < (L.length : Int) → 0 ≤ rd L j ∧ rd L j ≤ 15) → Ev (fun k => hinterlandref02_Validate.l0 k L (L.length : Int) i W H L) r := by
  intro d; induction d with
  | zero =>
    intro i h0 hd hh
    refine Ev.step (f := fun k => hinterlandref02_Validate.l1 k L (L.length : Int) 0 W H L) (fun k => ?_) hg
    simp only [hinterlandref02_Validate.l0]; rw [if_neg (by omega)]
  | succ d ih =>
    intro i h0 hd hh
    have h1 := hh i (by omega) (by omega)
    obtain ⟨K, hK⟩ := ih (i + 1) (by omega) (by omega) (fun j a b => hh j (by omega) b)
    refine ⟨K + 2, fun k hk => ?_⟩
    obtain ⟨k, rfl⟩ : ∃ m, k = m + 1 + 1 := ⟨k - 2, by omega⟩
    simp only [hinterlandref02_Validate.l0, hinterlandref02_Validate.j2]
    rw [if_pos (by omega), if_pos (by omega), if_pos (by omega), if_neg (by omega), if_neg (by simp; omega), w64_in (by omega) (by omega)]
    exact hK k (by omega)
theorem m0_no {W H : Int} {L : List Int} (hn : (L.length : Int) ≤ 1089) : ∀ (d : Nat) (i : Int), 0 ≤ i → i + d = L.length → (∃ j, i ≤ j ∧ j < (L.length : Int) ∧ ¬ (0 ≤ rd L j ∧ rd L j ≤ 15)) → Ev (fun k => hinterlandref02_Validate.l0 k L (L.length : Int) i W H L) 1 := by
  intro d; induction d with
  | zero => intro i h0 hd hh; obtain ⟨j, a, b, _⟩ := hh; omega
  | succ d ih =>
    intro i h0 hd hh
    by_cases h1 : 0 ≤ rd L i ∧ rd L i ≤ 15
    · obtain ⟨K, hK⟩ := ih (i + 1) (by omega) (by omega) (by
        obtain ⟨j, a, b, c⟩ := hh
        refine ⟨j, ?_, b, c⟩
        by_cases e : j = i
        · subst e; exact absurd h1 c
        · omega)
      refine ⟨K + 2, fun k hk => ?_⟩
      obtain ⟨k, rfl⟩ : ∃ m, k = m + 1 + 1 := ⟨k - 2, by omega⟩
      simp only [hinterlandref02_Validate.l0, hinterlandref02_Validate.j2]
      rw [if_pos (by omega), if_pos (by omega), if_pos (by omega), if_neg (by omega), if_neg (by simp; omega), w64_in (by omega) (by omega)]
      exact hK k (by omega)
    · refine ⟨2, fun k hk => ?_⟩
      obtain ⟨k, rfl⟩ : ∃ m, k = m + 1 + 1 := ⟨k - 2, by omega⟩
      simp only [hinterlandref02_Validate.l0, hinterlandref02_Validate.j2]
      rw [if_pos (by omega), if_pos (by omega), if_pos (by omega)]
      by_cases h2 : rd L i < 0
      · rw [if_pos h2, if_pos trivial]
      · rw [if_neg h2, if_pos (by simp; omega)]
theorem row_ok {W H : Int} {L : List Int} (s : Sides W H L) (hh : Hts L) {y : Int} (y0 : 0 ≤ y) (y1 : y ≤ H) {P : Prop} (hn : Res (fun k => land_Validate.l1 k (y + 1) W H L) P) : ∀ (d : Nat) (x : Int), 0 ≤ x → x + d = W + 1 → Res (fun k => land_Validate.l2 k y x W H L) ((∀ x', x ≤ x' → x' ≤ W → cell W H L y x') ∧ P) := by
  obtain ⟨a, b, c, e, f⟩ := id s
  obtain ⟨l0, l1⟩ := len_le s
  obtain ⟨p0, p1⟩ := row_in (m := W + 1) y0 y1 (by omega)
  intro d; induction d with
  | zero =>
    intro x h0 hd
    obtain ⟨r, ⟨K, hK⟩, hr, hi⟩ := hn
    refine ⟨r, ⟨K + 1, fun k hk => ?_⟩, hr, by rw [hi]; exact ⟨fun h => ⟨fun x' h1 h2 => by omega, h⟩, fun h => h.2⟩⟩
    obtain ⟨k, rfl⟩ : ∃ m, k = m + 1 := ⟨k - 1, by omega⟩
    simp only [land_Validate.l2]
    rw [if_neg (by omega), w64_in (by omega) (by omega)]
    exact hK k (by omega)
  | succ d ih =>
    intro x h0 hd
    obtain ⟨r, ⟨K, hK⟩, hr, hi⟩ := ih (x + 1) (by omega) (by omega)
    have ep : (y + 1) * (W + 1) = y * (W + 1) + (W + 1) := by rw [Int.add_mul, Int.one_mul]
    have hc : cell W H L y x ↔ ((x < W → near (rd L (y * (W + 1) + x)) (rd L (y * (W + 1) + x + 1))) ∧ (y < H → near (rd L (y * (W + 1) + x)) (rd L (y * (W + 1) + (W + 1) + x)))) := by unfold cell; rw [ep]
    have hq : y < H → y * (W + 1) + (W + 1) + (W + 1) ≤ (H + 1) * (W + 1) := fun h => by
      have := (row_in (m := W + 1) (show 0 ≤ y + 1 by omega) (show y + 1 ≤ H by omega) (by omega)).2; omega
    have go : ∀ k, land_Validate.l2 (k + 1 + 1) y x W H L = if cell W H L y x then land_Validate.l2 k y (x + 1) W H L else some 5 := by
      intro k
      simp only [land_Validate.l2, land_Validate.j5]
      rw [w64_in (x := W + 1) (by omega) (by omega), w64_in (x := y + 1) (by omega) (by omega), ep]
      generalize y * (W + 1) = p at *
      rw [w64_in (x := p) (by omega) (by omega), w64_in (x := p + (W + 1)) (by omega) (by omega), w64_in (x := p + (W + 1) + x) (by omega) (by omega), w64_in (x := p + x) (by omega) (by omega), w64_in (x := p + x + 1) (by omega) (by omega), w64_in (x := x + 1) (by omega) (by omega)]
      rw [if_pos (by omega), if_pos (by omega), if_pos (by omega)]
      by_cases hx : x < W
      · rw [if_pos hx, if_pos (by omega), if_pos (by omega), apart_ok (hh _ (by omega) (by omega)) (hh _ (by omega) (by omega))]
        simp only [Option.bind_some]
        by_cases h1 : near (rd L (p + x)) (rd L (p + x + 1))
        · rw [if_neg (by simpa using h1)]
          by_cases hy : y < H
          · have := hq hy
            rw [if_pos hy, if_pos (by omega), if_pos (by omega), apart_ok (hh _ (by omega) (by omega)) (hh _ (by omega) (by omega))]
            simp only [Option.bind_some]
            by_cases h2 : near (rd L (p + x)) (rd L (p + (W + 1) + x))
            · rw [if_neg (by simpa using h2), if_pos (hc.2 ⟨fun _ => h1, fun _ => h2⟩)]
            · rw [if_pos (by simpa using h2), if_neg (fun h => h2 ((hc.1 h).2 hy))]
          · rw [if_neg hy, if_neg (by simp), if_pos (hc.2 ⟨fun _ => h1, fun h => absurd h hy⟩)]
        · rw [if_pos (by simpa using h1), if_pos trivial, if_neg (fun h => h1 ((hc.1 h).1 hx))]
      · rw [if_neg hx]
        by_cases hy : y < H
        · have := hq hy
          rw [if_pos hy, if_pos (by omega), if_pos (by omega), apart_ok (hh _ (by omega) (by omega)) (hh _ (by omega) (by omega))]
          simp only [Option.bind_some]
          by_cases h2 : near (rd L (p + x)) (rd L (p + (W + 1) + x))
          · rw [if_neg (by simpa using h2), if_pos (hc.2 ⟨fun h => absurd h hx, fun _ => h2⟩)]
          · rw [if_pos (by simpa using h2), if_neg (fun h => h2 ((hc.1 h).2 hy))]
        · rw [if_neg hy, if_neg (by simp), if_pos (hc.2 ⟨fun h => absurd h hx, fun h => absurd h hy⟩)]
    by_cases hcell : cell W H L y x
    · refine ⟨r, ⟨K + 2, fun k hk => ?_⟩, hr, ?_⟩
      · obtain ⟨k, rfl⟩ : ∃ m, k = m + 1 + 1 := ⟨k - 2, by omega⟩
        show land_Validate.l2 (k + 1 + 1) y x W H L = _
        rw [go, if_pos hcell]; exact hK k (by omega)
      · rw [hi]
        refine ⟨fun h => ⟨fun x' h1 h2 => ?_, h.2⟩, fun h => ⟨fun x' h1 h2 => h.1 x' (by omega) h2, h.2⟩⟩
        by_cases e : x' = x
        · subst e; exact hcell
        · exact h.1 x' (by omega) h2
    · refine ⟨5, ⟨2, fun k hk => ?_⟩, Or.inr rfl, ?_⟩
      · obtain ⟨k, rfl⟩ : ∃ m, k = m + 1 + 1 := ⟨k - 2, by omega⟩
        show land_Validate.l2 (k + 1 + 1) y x W H L = _
        rw [go, if_neg hcell]
      · exact ⟨fun h => absurd h (by decide), fun h => absurd (h.1 x (by omega) (by omega)) hcell⟩
theorem rows_ok {W H : Int} {L : List Int} (s : Sides W H L) (hh : Hts L) : ∀ (d : Nat) (y : Int), 0 ≤ y → y + d = H + 1 → Res (fun k => land_Validate.l1 k y W H L) (∀ y' x', y ≤ y' → y' ≤ H → 0 ≤ x' → x' ≤ W → cell W H L y' x') := by
  obtain ⟨a, b, c, e, f⟩ := id s
  intro d; induction d with
  | zero =>
    intro y h0 hd
    refine ⟨0, ⟨1, fun k hk => ?_⟩, Or.inl rfl, ⟨fun _ y' x' h1 h2 => by omega, fun _ => rfl⟩⟩
    obtain ⟨k, rfl⟩ : ∃ m, k = m + 1 := ⟨k - 1, by omega⟩
    simp only [land_Validate.l1]
    rw [if_neg (by omega)]
  | succ d ih =>
    intro y h0 hd
    obtain ⟨r, ⟨K, hK⟩, hr, hi⟩ := row_ok s hh h0 (by omega) (ih (y + 1) (by omega) (by omega)) (W + 1).toNat 0 (by omega) (by omega)
    refine ⟨r, ⟨K + 1, fun k hk => ?_⟩, hr, ?_⟩
    · obtain ⟨k, rfl⟩ : ∃ m, k = m + 1 := ⟨k - 1, by omega⟩
      simp only [land_Validate.l1]
      rw [if_pos (by omega)]
      exact hK k (by omega)
    · rw [hi]
      refine ⟨fun h y' x' h1 h2 h3 h4 => ?_, fun h => ⟨fun x' h1 h2 => h y x' (by omega) (by omega) h1 h2, fun y' x' h1 h2 h3 h4 => h y' x' (by omega) h2 h3 h4⟩⟩
      by_cases e : y' = y
      · subst e; exact h.1 x' h3 h4
      · exact h.2 y' x' (by omega) h2 h3 h4
theorem mx_le {a b : Int} : mx (a - b) (b - a) > 1 ↔ ¬ near a b := by unfold mx near; split <;> omega
theorem places_ok {W H : Int} {L : List Int} (s : Sides W H L) (hh : Hts L) : ∀ (d : Nat) (i : Int), 0 ≤ i → i + d = L.length → Res (fun k => hinterlandref02_Validate.l1 k L (L.length : Int) i W H L) (∀ j, i ≤ j → j < (L.length : Int) → place W L j) := by
  obtain ⟨a, b, c, e, f⟩ := id s
  obtain ⟨l0, l1⟩ := len_le s
  intro d; induction d with
  | zero =>
    intro i h0 hd
    refine ⟨0, ⟨1, fun k hk => ?_⟩, Or.inl rfl, ⟨fun _ j h1 h2 => by omega, fun _ => rfl⟩⟩
    obtain ⟨k, rfl⟩ : ∃ m, k = m + 1 := ⟨k - 1, by omega⟩
    simp only [hinterlandref02_Validate.l1]
    rw [if_neg (by omega)]
  | succ d ih =>
    intro i h0 hd
    obtain ⟨r, ⟨K, hK⟩, hr, hi⟩ := ih (i + 1) (by omega) (by omega)
    have hm : i % (W + 1) ≤ i := by
      have h1 := Int.mul_ediv_add_emod i (W + 1)
      have h2 := Int.mul_nonneg (show 0 ≤ W + 1 by omega) (Int.ediv_nonneg h0 (show 0 ≤ W + 1 by omega))
      omega
    have ap : ∀ u v, 0 ≤ u → u < (L.length : Int) → 0 ≤ v → v < (L.length : Int) → hinterlandref02_Apart.f (rd L u) (rd L v) = some (mx (rd L u - rd L v) (rd L v - rd L u)) := fun u v h1 h2 h3 h4 => Apart_ok (by have := hh u h1 h2; omega) (by have := hh v h3 h4; omega)
    have go : ∀ k, hinterlandref02_Validate.l1 (k + 1 + 1) L (L.length : Int) i W H L = if place W L i then hinterlandref02_Validate.l1 k L (L.length : Int) (i + 1) W H L else some 5 := by
      intro k
      simp only [hinterlandref02_Validate.l1, hinterlandref02_Validate.j4]
      rw [w64_in (x := W + 1) (by omega) (by omega), w64_in (x := i - W) (by omega) (by omega), w64_in (x := i - W - 1) (by omega) (by omega), w64_in (x := i - 1) (by omega) (by omega), w64_in (x := i + 1) (by omega) (by omega)]
      rw [Int.tmod_eq_emod_of_nonneg h0, if_pos (by omega), if_pos (by omega), if_pos (by omega), if_neg (by omega)]
      by_cases hx : 0 < i % (W + 1)
      · rw [if_pos hx, if_pos (by omega), if_pos (by omega), ap _ _ (by omega) (by omega) (by omega) (by omega)]
        simp only [Option.bind_some]
        by_cases h1 : near (rd L i) (rd L (i - 1))
        · rw [if_neg (fun h => mx_le.1 h h1)]
          by_cases hy : W < i
          · rw [if_pos hy, if_pos (by omega), if_pos (by omega), ap _ _ (by omega) (by omega) (by omega) (by omega)]
            simp only [Option.bind_some]
            by_cases h2 : near (rd L i) (rd L (i - W - 1))
            · rw [if_neg (by simpa using fun h => mx_le.1 h h2), if_pos ⟨fun _ => h1, fun _ => h2⟩]
            · rw [if_pos (by simpa using mx_le.2 h2), if_neg (fun h => h2 (h.2 hy))]
          · rw [if_neg hy, if_neg (by simp), if_pos ⟨fun _ => h1, fun h => absurd h hy⟩]
        · rw [if_pos (mx_le.2 h1), if_pos trivial, if_neg (fun h => h1 (h.1 hx))]
      · rw [if_neg hx]
        by_cases hy : W < i
        · rw [if_pos hy, if_pos (by omega), if_pos (by omega), ap _ _ (by omega) (by omega) (by omega) (by omega)]
          simp only [Option.bind_some]
          by_cases h2 : near (rd L i) (rd L (i - W - 1))
          · rw [if_neg (by simpa using fun h => mx_le.1 h h2), if_pos ⟨fun h => absurd h hx, fun _ => h2⟩]
          · rw [if_pos (by simpa using mx_le.2 h2), if_neg (fun h => h2 (h.2 hy))]
        · rw [if_neg hy, if_neg (by simp), if_pos ⟨fun h => absurd h hx, fun h => absurd h hy⟩]
    by_cases hcell : place W L i
    · refine ⟨r, ⟨K + 2, fun k hk => ?_⟩, hr, ?_⟩
      · obtain ⟨k, rfl⟩ : ∃ m, k = m + 1 + 1 := ⟨k - 2, by omega⟩
        show hinterlandref02_Validate.l1 (k + 1 + 1) L (L.length : Int) i W H L = _
        rw [go, if_pos hcell]; exact hK k (by omega)
      · rw [hi]
        refine ⟨fun h x' h1 h2 => ?_, fun h x' h1 h2 => h x' (by omega) h2⟩
        by_cases e : x' = i
        · subst e; exact hcell
        · exact h x' (by omega) h2
    · refine ⟨5, ⟨2, fun k hk => ?_⟩, Or.inr rfl, ?_⟩
      · obtain ⟨k, rfl⟩ : ∃ m, k = m + 1 + 1 := ⟨k - 2, by omega⟩
        show hinterlandref02_Validate.l1 (k + 1 + 1) L (L.length : Int) i W H L = _
        rw [go, if_neg hcell]
      · exact ⟨fun h => absurd h (by decide), fun h => absurd (h i (by omega) (by omega)) hcell⟩
theorem near_comm {a b : Int} : near a b ↔ near b a := by unfold near; omega
theorem steps_places {W H : Int} {L : List Int} (s : Sides W H L) : (∀ y' x', 0 ≤ y' → y' ≤ H → 0 ≤ x' → x' ≤ W → cell W H L y' x') ↔ (∀ j, 0 ≤ j → j < (L.length : Int) → place W L j) := by
  obtain ⟨a, b, c, e, f⟩ := id s
  constructor
  · intro h j j0 j1
    have hx0 := Int.emod_nonneg j (show W + 1 ≠ 0 by omega)
    have hx1 := Int.emod_lt_of_pos j (show 0 < W + 1 by omega)
    have hd := Int.mul_ediv_add_emod j (W + 1)
    have hy0 : 0 ≤ j / (W + 1) := Int.ediv_nonneg j0 (by omega)
    have hy1 : j / (W + 1) ≤ H := by
      have : j / (W + 1) < H + 1 := Int.ediv_lt_of_lt_mul (by omega) (by omega)
      omega
    rw [Int.mul_comm] at hd
    generalize hy : j / (W + 1) = y at *
    generalize hx : j % (W + 1) = x at *
    have ep : (y - 1) * (W + 1) = y * (W + 1) - (W + 1) := by rw [Int.sub_mul, Int.one_mul]
    refine ⟨fun g => ?_, fun g => ?_⟩
    · rw [hx] at g
      have := (h y (x - 1) hy0 hy1 (by omega) (by omega)).1 (by omega)
      rw [show y * (W + 1) + (x - 1) = j - 1 by omega, show j - 1 + 1 = j by omega] at this
      exact near_comm.1 this
    · have hyp : 1 ≤ y := by
        by_cases h0 : y = 0
        · subst h0; omega
        · omega
      have := (h (y - 1) x (by omega) (by omega) (by omega) (by omega)).2 (by omega)
      rw [ep, show y - 1 + 1 = y by omega, show y * (W + 1) - (W + 1) + x = j - W - 1 by omega, show y * (W + 1) + x = j by omega] at this
      exact near_comm.1 this
  · intro h y x y0 y1 x0 x1
    have ep : (y + 1) * (W + 1) = y * (W + 1) + (W + 1) := by rw [Int.add_mul, Int.one_mul]
    obtain ⟨p0, p1⟩ := row_in (m := W + 1) y0 y1 (by omega)
    refine ⟨fun g => ?_, fun g => ?_⟩
    · have := (h (y * (W + 1) + x + 1) (by omega) (by omega)).1 (by
        rw [show y * (W + 1) + x + 1 = (x + 1) + y * (W + 1) by omega, Int.add_mul_emod_self_right, Int.emod_eq_of_lt (by omega) (by omega)]; omega)
      rw [show y * (W + 1) + x + 1 - 1 = y * (W + 1) + x by omega] at this
      exact near_comm.1 this
    · have q := (row_in (m := W + 1) (show 0 ≤ y + 1 by omega) (show y + 1 ≤ H by omega) (by omega)).2
      have := (h ((y + 1) * (W + 1) + x) (by omega) (by omega)).2 (by omega)
      rw [show (y + 1) * (W + 1) + x - W - 1 = y * (W + 1) + x by omega] at this
      exact near_comm.1 this
/-- Both say the same of a land, and 0 just of a valid one. -/
theorem validate_ok (W H : Int) (L : List Int) : ∃ r, Ev (fun k => land_Validate.f k W H L) r ∧ Ev (fun k => hinterlandref02_Validate.f k W H L) r ∧ (r = 0 ↔ Valid W H L) := by
  by_cases s : Sides W H L
  · obtain ⟨a, b, c, e, f⟩ := id s
    obtain ⟨n0, n1⟩ := len_le s
    have hlen : wrap64 (wrap64 (W + 1) * wrap64 (H + 1)) = (L.length : Int) := by
      rw [w64_in (x := W + 1) (by omega) (by omega), w64_in (x := H + 1) (by omega) (by omega), Int.mul_comm, ← f]
      exact w64_in (by omega) (by omega)
    have hA : ∀ k, land_Validate.f (k + 1) W H L = land_Validate.l0 k L (L.length : Int) 0 W H L := by
      intro k
      unfold land_Validate.f
      rw [if_neg (by omega), if_neg (by omega), if_neg (by omega), if_neg (by omega), hlen]
      simp only [land_Validate.j0]
      rw [if_neg (by simp)]
    have hB : ∀ k, hinterlandref02_Validate.f (k + 1) W H L = hinterlandref02_Validate.l0 k L (L.length : Int) 0 W H L := by
      intro k
      unfold hinterlandref02_Validate.f hinterlandref02_side.f
      rw [if_pos (by omega), if_pos (by omega), hlen]
      simp only [Option.bind_some]
      rw [if_pos (by simp; omega), if_pos (by simp; omega)]
      simp only [hinterlandref02_Validate.j0]
      rw [if_neg (by simp)]
    by_cases hh : Hts L
    · obtain ⟨r, h1, h2, h3⟩ := rows_ok s hh (H + 1).toNat 0 (by omega) (by omega)
      obtain ⟨r', h1', h2', h3'⟩ := places_ok s hh L.length 0 (by omega) (by omega)
      have hs := steps_places s
      have er : r = r' := by
        have : r = 0 ↔ r' = 0 := by rw [h3, h3', hs]
        omega
      subst er
      refine ⟨r, Ev.step hA (l0_ok n1 h1 L.length 0 (by omega) (by omega) (fun j => hh j)), Ev.step hB (m0_ok n1 h1' L.length 0 (by omega) (by omega) (fun j => hh j)), ?_⟩
      rw [h3]
      exact ⟨fun h => ⟨s, hh, fun y x a b c d => h y x a b c d⟩, fun h => fun y x a b c d => h.2.2 y x a b c d⟩
    · have hx : ∃ j, 0 ≤ j ∧ j < (L.length : Int) ∧ ¬ (0 ≤ rd L j ∧ rd L j ≤ 15) := by
        refine Classical.byContradiction fun h => hh fun i h0 h1 => ?_
        exact Classical.byContradiction fun h' => h ⟨i, h0, h1, h'⟩
      exact ⟨1, Ev.step hA (l0_no n1 L.length 0 (by omega) (by omega) hx), Ev.step hB (m0_no n1 L.length 0 (by omega) (by omega) hx), ⟨fun h => absurd h (by decide), fun h => absurd h.2.1 hh⟩⟩
  · refine ⟨1, ⟨1, fun k hk => ?_⟩, ⟨1, fun k hk => ?_⟩, ⟨fun h => absurd h (by decide), fun h => absurd h.1 s⟩⟩
    · obtain ⟨k, rfl⟩ : ∃ m, k = m + 1 := ⟨k - 1, by omega⟩
      unfold land_Validate.f
      simp only [land_Validate.j0]
      by_cases h1 : W < 4
      · rw [if_pos h1, if_pos trivial]
      by_cases h2 : W > 32
      · rw [if_neg h1, if_pos h2, if_pos trivial]
      by_cases h3 : H < 4
      · rw [if_neg h1, if_neg h2, if_pos h3, if_pos trivial]
      by_cases h4 : H > 32
      · rw [if_neg h1, if_neg h2, if_neg h3, if_pos h4, if_pos trivial]
      rw [if_neg h1, if_neg h2, if_neg h3, if_neg h4, if_pos]
      simp only [bne_iff_ne]
      intro h5
      refine s ⟨by omega, by omega, by omega, by omega, ?_⟩
      rw [h5, w64_in (x := W + 1) (by omega) (by omega), w64_in (x := H + 1) (by omega) (by omega), Int.mul_comm]
      have := Int.mul_le_mul (show H + 1 ≤ 33 by omega) (show W + 1 ≤ 33 by omega) (by omega) (by omega)
      have := Int.mul_nonneg (show 0 ≤ H + 1 by omega) (show 0 ≤ W + 1 by omega)
      exact w64_in (by omega) (by omega)
    · obtain ⟨k, rfl⟩ : ∃ m, k = m + 1 := ⟨k - 1, by omega⟩
      unfold hinterlandref02_Validate.f hinterlandref02_side.f
      simp only [hinterlandref02_Validate.j0]
      by_cases h1 : W ≥ 4
      · by_cases h2 : W ≤ 32
        · by_cases h3 : H ≥ 4
          · by_cases h4 : H ≤ 32
            · simp only [h1, h2, h3, h4, if_true, Option.bind_some, decide_true]
              rw [if_pos]
              simp only [bne_iff_ne]
              intro h5
              refine s ⟨by omega, by omega, by omega, by omega, ?_⟩
              rw [h5, w64_in (x := W + 1) (by omega) (by omega), w64_in (x := H + 1) (by omega) (by omega), Int.mul_comm]
              have := Int.mul_le_mul (show H + 1 ≤ 33 by omega) (show W + 1 ≤ 33 by omega) (by omega) (by omega)
              have := Int.mul_nonneg (show 0 ≤ H + 1 by omega) (show 0 ≤ W + 1 by omega)
              exact w64_in (by omega) (by omega)
            · simp [h1, h2, h3, h4]
          · simp [h1, h2, h3]
        · simp [h1, h2]
      · simp [h1]
end Go.Proofs.Ytchflcnegpnkkaa.Val
namespace Go.Proofs.Ytchflcnegpnkkaa.Known
open Go.RowKit Go.Proofs.YtchflcnegpnkkaaOwn Go.Proofs.Ytchflcnegpnkkaa.Q Go.Proofs.YtchflcnegpnkkaaW.PrintWords Go.Proofs.YtchflcnegpnkkaaW.PrintLast
theorem known_ev : Ev (fun k => hinterlandlaw02_known.f k) true := Ev.of hinterlandlaw02_known.mono (k := 200) (by decide +kernel)
end Go.Proofs.Ytchflcnegpnkkaa.Known
namespace Go.Proofs.Ytchflcnegpnkkaa.Til
open Go.RowKit Go.Proofs.YtchflcnegpnkkaaOwn Go.Proofs.Ytchflcnegpnkkaa.Q Go.Proofs.Ytchflcnegpnkkaa.Val Go.Proofs.YtchflcnegpnkkaaW.PrintWords Go.Proofs.YtchflcnegpnkkaaW.PrintLast
def isT (W H t : Int) : Prop := 0 ≤ t ∧ t < W * H
instance (W H t : Int) : Decidable (isT W H t) := by unfold isT; infer_instance
def pl (W t : Int) : Int := t / W * (W + 1) + t % W
theorem tile_xy {W H : Int} {L : List Int} (s : Sides W H L) {t : Int} (ht : isT W H t) : 0 ≤ t / W ∧ t / W < H ∧ 0 ≤ t % W ∧ t % W < W ∧ t / W * W + t % W = t := by
  obtain ⟨a, b, c, e, f⟩ := s
  obtain ⟨h0, h1⟩ := ht
  refine ⟨Int.ediv_nonneg h0 (by omega), Int.ediv_lt_of_lt_mul (by omega) (by rw [Int.mul_comm]; exact h1), Int.emod_nonneg t (by omega), Int.emod_lt_of_pos t (by omega), ?_⟩
  rw [Int.mul_comm]; exact Int.mul_ediv_add_emod t W
theorem pl_in {W H : Int} {L : List Int} (s : Sides W H L) {t : Int} (ht : isT W H t) : 0 ≤ pl W t ∧ pl W t + W + 2 < (L.length : Int) := by
  obtain ⟨y0, y1, x0, x1, _⟩ := tile_xy s ht
  obtain ⟨a, b, c, e, f⟩ := s
  unfold pl
  have h1 := row_in (m := W + 1) (show 0 ≤ t / W + 1 by omega) (show t / W + 1 ≤ H by omega) (by omega)
  have h2 := row_in (m := W + 1) y0 (show t / W ≤ H by omega) (by omega)
  have ep : (t / W + 1) * (W + 1) = t / W * (W + 1) + (W + 1) := by rw [Int.add_mul, Int.one_mul]
  omega
theorem pl_wrap {W H : Int} {L : List Int} (s : Sides W H L) {t : Int} (ht : isT W H t) : wrap64 (wrap64 (wrap64 (Int.tdiv t W) * wrap64 (W + 1)) + Int.tmod t W) = pl W t := by
  obtain ⟨y0, y1, x0, x1, _⟩ := tile_xy s ht
  obtain ⟨i0, i1⟩ := pl_in s ht
  obtain ⟨l0, l1⟩ := len_le s
  obtain ⟨a, b, c, e, f⟩ := s
  have h2 := row_in (m := W + 1) y0 (show t / W ≤ H by omega) (by omega)
  rw [Int.tdiv_eq_ediv_of_nonneg ht.1, Int.tmod_eq_emod_of_nonneg ht.1, w64_in (x := t / W) (by omega) (by omega), w64_in (x := W + 1) (by omega) (by omega), w64_in (x := t / W * (W + 1)) (by omega) (by omega)]
  exact w64_in (x := pl W t) (by omega) (by omega)
theorem places_ok {W H : Int} {L : List Int} (s : Sides W H L) {t : Int} (ht : isT W H t) : hinterlandref02_Places.f W H L t = some (pl W t, pl W t + 1, pl W t + W + 2, pl W t + W + 1) := by
  have hw := pl_wrap s ht
  obtain ⟨i0, i1⟩ := pl_in s ht
  obtain ⟨l0, l1⟩ := len_le s
  obtain ⟨a, b, c, e, f⟩ := s
  unfold hinterlandref02_Places.f
  rw [if_neg (by omega), hw, w64_in (x := pl W t + 1) (by omega) (by omega), w64_in (x := pl W t + W) (by omega) (by omega), w64_in (x := pl W t + W + 2) (by omega) (by omega), w64_in (x := pl W t + W + 1) (by omega) (by omega)]
end Go.Proofs.Ytchflcnegpnkkaa.Til
namespace Go.Proofs.Ytchflcnegpnkkaa.Shi
open Go.RowKit Go.Proofs.YtchflcnegpnkkaaOwn Go.Proofs.Ytchflcnegpnkkaa.Q Go.Proofs.Ytchflcnegpnkkaa.Val Go.Proofs.Ytchflcnegpnkkaa.Til Go.Proofs.YtchflcnegpnkkaaW.PrintWords Go.Proofs.YtchflcnegpnkkaaW.PrintLast
abbrev R := Int × Int × List Int × (List (S36)) × Int × Int
/-- The steps between two corners. -/
def dist (W x y i : Int) : Int := mx (x - i % (W + 1)) (i % (W + 1) - x) + mx (y - i / (W + 1)) (i / (W + 1) - y)
/-- What a corner becomes. -/
def nv (W x y z : Int) (up : Bool) (L : List Int) (i : Int) : Int := if up = true then mx (rd L i) (z - dist W x y i) else mn (rd L i) (z + dist W x y i)
/-- What was changed, as the lists tell it. -/
structure Told (W : Int) (ch : Int → Prop) (C : List S36) (i : Int) : Prop where
  len : (C.length : Int) ≤ i
  each : ∀ j : Int, 0 ≤ j → j < (C.length : Int) → ∃ q : Int, 0 ≤ q ∧ q < i ∧ ch q ∧ (rd_T36 C j).f0 = q % (W + 1) ∧ (rd_T36 C j).f1 = q / (W + 1)
  all : ∀ q : Int, 0 ≤ q → q < i → ch q → ∃ j : Int, 0 ≤ j ∧ j < (C.length : Int) ∧ (rd_T36 C j).f0 = q % (W + 1) ∧ (rd_T36 C j).f1 = q / (W + 1)
theorem Told.same {W : Int} {ch : Int → Prop} {C : List S36} {i : Int} (t : Told W ch C i) (h : ¬ ch i) : Told W ch C (i + 1) := by
  refine ⟨by have := t.len; omega, fun j a b => ?_, fun q a b c => ?_⟩
  · obtain ⟨q, q0, q1, r⟩ := t.each j a b; exact ⟨q, q0, by omega, r⟩
  · by_cases e : q = i
    · subst e; exact absurd c h
    · exact t.all q a (by omega) c
theorem rd_app {N : List Int} {v j : Int} (h0 : 0 ≤ j) (h : j < (N.length : Int)) : rd (N ++ [v]) j = rd N j := by
  unfold rd
  rw [List.getD_eq_getElem?_getD, List.getD_eq_getElem?_getD, List.getElem?_append_left (by omega)]
theorem rd_end {N : List Int} {v : Int} : rd (N ++ [v]) (N.length : Int) = v := by unfold rd; simp
theorem drop_at {L : List Int} {i : Int} (h0 : 0 ≤ i) (h : i < (L.length : Int)) : L.drop i.toNat = rd L i :: L.drop (i.toNat + 1) := by
  unfold rd
  rw [List.drop_eq_getElem_cons (by omega), List.getD_eq_getElem?_getD, List.getElem?_eq_getElem (by omega)]; rfl
end Go.Proofs.Ytchflcnegpnkkaa.Shi
namespace Go.Proofs.Ytchflcnegpnkkaa.Pure
open Go.RowKit Go.Proofs.YtchflcnegpnkkaaOwn Go.Proofs.Ytchflcnegpnkkaa.Q Go.Proofs.Ytchflcnegpnkkaa.Val Go.Proofs.Ytchflcnegpnkkaa.Known Go.Proofs.Ytchflcnegpnkkaa.Til Go.Proofs.Ytchflcnegpnkkaa.Shi Go.Proofs.YtchflcnegpnkkaaW.PrintWords Go.Proofs.YtchflcnegpnkkaaW.PrintLast
theorem large1 (a b : Int) (L h : List Int) : Ev (fun k => hinterlandlaw02_large.f k a b L [h]) (decide (mx (L.length : Int) h.length > 4000)) := by
  unfold hinterlandlaw02_large.f
  refine ⟨2, fun k hk => ?_⟩
  obtain ⟨k, rfl⟩ : ∃ m, k = m + 1 + 1 := ⟨k - 2, by omega⟩
  simp only [hinterlandlaw02_large.l0]
  rw [if_pos (by simp), if_pos (by omega), if_pos (by simp), if_neg (by rw [w64_in (by omega) (by omega)]; simp)]
  rfl
end Go.Proofs.Ytchflcnegpnkkaa.Pure
namespace Go.Proofs.Ytchflcnegpnkkaa.Tile
open Go.RowKit Go.Proofs.YtchflcnegpnkkaaOwn Go.Proofs.Ytchflcnegpnkkaa.Q Go.Proofs.Ytchflcnegpnkkaa.Val Go.Proofs.YtchflcnegpnkkaaW.PrintWords Go.Proofs.YtchflcnegpnkkaaW.PrintLast
def isT (W H t : Int) : Prop := 0 ≤ t ∧ t < W * H
instance (W H t : Int) : Decidable (isT W H t) := by unfold isT; infer_instance
def pl (W t : Int) : Int := t / W * (W + 1) + t % W
theorem tile_xy {W H : Int} {L : List Int} (s : Sides W H L) {t : Int} (ht : isT W H t) : 0 ≤ t / W ∧ t / W < H ∧ 0 ≤ t % W ∧ t % W < W ∧ t / W * W + t % W = t := by
  obtain ⟨a, b, c, e, f⟩ := s
  obtain ⟨h0, h1⟩ := ht
  refine ⟨Int.ediv_nonneg h0 (by omega), Int.ediv_lt_of_lt_mul (by omega) (by rw [Int.mul_comm]; exact h1), Int.emod_nonneg t (by omega), Int.emod_lt_of_pos t (by omega), ?_⟩
  rw [Int.mul_comm]; exact Int.mul_ediv_add_emod t W
theorem pl_in {W H : Int} {L : List Int} (s : Sides W H L) {t : Int} (ht : isT W H t) : 0 ≤ pl W t ∧ pl W t + W + 2 < (L.length : Int) := by
  obtain ⟨y0, y1, x0, x1, _⟩ := tile_xy s ht
  obtain ⟨a, b, c, e, f⟩ := s
  unfold pl
  have h1 := row_in (m := W + 1) (show 0 ≤ t / W + 1 by omega) (show t / W + 1 ≤ H by omega) (by omega)
  have h2 := row_in (m := W + 1) y0 (show t / W ≤ H by omega) (by omega)
  have ep : (t / W + 1) * (W + 1) = t / W * (W + 1) + (W + 1) := by rw [Int.add_mul, Int.one_mul]
  omega
theorem pl_wrap {W H : Int} {L : List Int} (s : Sides W H L) {t : Int} (ht : isT W H t) : wrap64 (wrap64 (wrap64 (Int.tdiv t W) * wrap64 (W + 1)) + Int.tmod t W) = pl W t := by
  obtain ⟨y0, y1, x0, x1, _⟩ := tile_xy s ht
  obtain ⟨i0, i1⟩ := pl_in s ht
  obtain ⟨l0, l1⟩ := len_le s
  obtain ⟨a, b, c, e, f⟩ := s
  have h2 := row_in (m := W + 1) y0 (show t / W ≤ H by omega) (by omega)
  rw [Int.tdiv_eq_ediv_of_nonneg ht.1, Int.tmod_eq_emod_of_nonneg ht.1, w64_in (x := t / W) (by omega) (by omega), w64_in (x := W + 1) (by omega) (by omega), w64_in (x := t / W * (W + 1)) (by omega) (by omega)]
  exact w64_in (x := pl W t) (by omega) (by omega)
theorem places_ok {W H : Int} {L : List Int} (s : Sides W H L) {t : Int} (ht : isT W H t) : hinterlandref02_Places.f W H L t = some (pl W t, pl W t + 1, pl W t + W + 2, pl W t + W + 1) := by
  have hw := pl_wrap s ht
  obtain ⟨i0, i1⟩ := pl_in s ht
  obtain ⟨l0, l1⟩ := len_le s
  obtain ⟨a, b, c, e, f⟩ := s
  unfold hinterlandref02_Places.f
  rw [if_neg (by omega), hw, w64_in (x := pl W t + 1) (by omega) (by omega), w64_in (x := pl W t + W) (by omega) (by omega), w64_in (x := pl W t + W + 2) (by omega) (by omega), w64_in (x := pl W t + W + 1) (by omega) (by omega)]
/-- What one corner adds to a slope. -/
def nx (s i d : Int) : Int := let s' := if d > 0 then Go.bits .or .i64 s (shl .i64 1 i) else s; if d > 1 then Go.bits .or .i64 s' 16 else s'
end Go.Proofs.Ytchflcnegpnkkaa.Tile
namespace Go.Proofs.Ytchflcnegpnkkaa.Pure
open Go.RowKit Go.Proofs.YtchflcnegpnkkaaOwn Go.Proofs.Ytchflcnegpnkkaa.Q Go.Proofs.Ytchflcnegpnkkaa.Val Go.Proofs.Ytchflcnegpnkkaa.Known Go.Proofs.Ytchflcnegpnkkaa.Til Go.Proofs.Ytchflcnegpnkkaa.Shi Go.Proofs.YtchflcnegpnkkaaW.PrintWords Go.Proofs.YtchflcnegpnkkaaW.PrintLast
set_option linter.unusedVariables false
set_option linter.unusedSimpArgs false
theorem place_xy {W cx cy : Int} (hW : 0 ≤ W) (x0 : 0 ≤ cx) (x1 : cx ≤ W) : (cy * (W + 1) + cx) % (W + 1) = cx ∧ (cy * (W + 1) + cx) / (W + 1) = cy := by
  have e : cy * (W + 1) + cx = cx + (W + 1) * cy := by rw [Int.mul_comm]; omega
  rw [e, Int.add_mul_emod_self_left, Int.add_mul_ediv_left _ _ (by omega), Int.emod_eq_of_lt x0 (by omega), Int.ediv_eq_zero_of_lt x0 (by omega)]
  exact ⟨rfl, by omega⟩
theorem dist_at {W x y cx cy : Int} (hW : 0 ≤ W) (x0 : 0 ≤ cx) (x1 : cx ≤ W) : dist W x y (cy * (W + 1) + cx) = mx (x - cx) (cx - x) + mx (y - cy) (cy - y) := by
  unfold dist
  rw [(place_xy hW x0 x1).1, (place_xy hW x0 x1).2]
theorem dist_self {W cx cy : Int} (hW : 0 ≤ W) (x0 : 0 ≤ cx) (x1 : cx ≤ W) : dist W cx cy (cy * (W + 1) + cx) = 0 := by
  rw [dist_at hW x0 x1]; unfold mx; split <;> split <;> omega
theorem dist_pos (W x y q : Int) : 0 ≤ dist W x y q := by unfold dist mx; split <;> split <;> omega
theorem near_nv {a b z da db : Int} (up : Bool) (h : near a b) (hd : near da db) : near (if up = true then mx a (z - da) else mn a (z + da)) (if up = true then mx b (z - db) else mn b (z + db)) := by
  unfold near mx mn at *
  cases up with
  | true => simp only [if_true]; split <;> split <;> omega
  | false => simp only [Bool.false_eq_true, if_false]; split <;> split <;> omega
/-- A land that was shifted is a land. -/
theorem nv_valid {W H : Int} {L M : List Int} (v : Valid W H L) {x y z : Int} (z0 : 0 ≤ z ∧ z ≤ 15) (up : Bool) (hm : M.length = L.length) (hv : ∀ q : Int, 0 ≤ q → q < (L.length : Int) → rd M q = nv W x y z up L q) : Valid W H M := by
  obtain ⟨s, hh, st⟩ := v
  obtain ⟨sa, sb, sc, se, sf⟩ := id s
  refine ⟨⟨sa, sb, sc, se, by rw [hm]; exact sf⟩, ?_, ?_⟩
  · intro q q0 q1
    have hq := hh q q0 (by omega)
    have hd := dist_pos W x y q
    rw [hv q q0 (by omega)]
    unfold nv mx mn; split <;> split <;> omega
  · intro cy cx y0 y1 x0 x1
    obtain ⟨c1, c2⟩ := st cy cx y0 y1 x0 x1
    obtain ⟨r0, r1⟩ := row_in (m := W + 1) y0 y1 (by omega)
    have e0 := hv (cy * (W + 1) + cx) (by omega) (by omega)
    have d0 := dist_at (W := W) (x := x) (y := y) (cx := cx) (cy := cy) (by omega) x0 x1
    unfold nv at e0
    rw [d0] at e0
    refine ⟨fun hx => ?_, fun hy => ?_⟩
    · have e1 := hv (cy * (W + 1) + cx + 1) (by omega) (by omega)
      have d1 := dist_at (W := W) (x := x) (y := y) (cx := cx + 1) (cy := cy) (by omega) (by omega) (by omega)
      rw [← Int.add_assoc] at d1
      unfold nv at e1
      rw [d1] at e1
      rw [e0, e1]
      refine near_nv up (c1 hx) ?_
      unfold near mx; split <;> split <;> split <;> omega
    · obtain ⟨r2, r3⟩ := row_in (y := cy + 1) (H := H) (m := W + 1) (by omega) (by omega) (by omega)
      have e1 := hv ((cy + 1) * (W + 1) + cx) (by omega) (by omega)
      have d1 := dist_at (W := W) (x := x) (y := y) (cx := cx) (cy := cy + 1) (by omega) x0 x1
      unfold nv at e1
      rw [d1] at e1
      rw [e0, e1]
      refine near_nv up (c2 hy) ?_
      unfold near mx; split <;> split <;> split <;> omega
end Go.Proofs.Ytchflcnegpnkkaa.Pure
namespace Go.Proofs.Ytchflcnegpnkkaa.Pure
open Go.RowKit Go.Proofs.YtchflcnegpnkkaaOwn Go.Proofs.Ytchflcnegpnkkaa.Q Go.Proofs.Ytchflcnegpnkkaa.Val Go.Proofs.Ytchflcnegpnkkaa.Known Go.Proofs.Ytchflcnegpnkkaa.Til Go.Proofs.Ytchflcnegpnkkaa.Shi Go.Proofs.YtchflcnegpnkkaaW.PrintWords Go.Proofs.YtchflcnegpnkkaaW.PrintLast
set_option linter.unusedVariables false
set_option linter.unusedSimpArgs false
theorem mxs (a b : Int) : a - b ≤ mx (a - b) (b - a) ∧ b - a ≤ mx (a - b) (b - a) ∧ (mx (a - b) (b - a) = a - b ∨ mx (a - b) (b - a) = b - a) := by unfold mx; split <;> omega
theorem lip {W H : Int} {L : List Int} (v : Valid W H L) {x y : Int} (x0 : 0 ≤ x ∧ x ≤ W) (y0 : 0 ≤ y ∧ y ≤ H) : ∀ (d : Nat) (cx cy : Int), 0 ≤ cx → cx ≤ W → 0 ≤ cy → cy ≤ H → mx (x - cx) (cx - x) + mx (y - cy) (cy - y) = d → rd L (y * (W + 1) + x) - rd L (cy * (W + 1) + cx) ≤ d ∧ rd L (cy * (W + 1) + cx) - rd L (y * (W + 1) + x) ≤ d := by
  obtain ⟨s, hh, st⟩ := v
  intro d; induction d with
  | zero =>
    intro cx cy a0 a1 b0 b1 hd
    have m1 := mxs x cx
    have m2 := mxs y cy
    have e1 : cx = x := by omega
    have e2 : cy = y := by omega
    rw [e1, e2]; omega
  | succ d ih =>
    intro cx cy a0 a1 b0 b1 hd
    have m1 := mxs x cx
    have m2 := mxs y cy
    by_cases h1 : cx < x
    · have hn := (st cy cx b0 b1 a0 a1).1 (by omega)
      have := ih (cx + 1) cy (by omega) (by omega) b0 b1 (by have m3 := mxs x (cx + 1); omega)
      rw [← Int.add_assoc] at this
      unfold near at hn; omega
    by_cases h2 : x < cx
    · have hn := (st cy (cx - 1) b0 b1 (by omega) (by omega)).1 (by omega)
      have := ih (cx - 1) cy (by omega) (by omega) b0 b1 (by have m3 := mxs x (cx - 1); omega)
      rw [show cy * (W + 1) + (cx - 1) + 1 = cy * (W + 1) + cx by omega] at hn
      unfold near at hn; omega
    by_cases h3 : cy < y
    · have hn := (st cy cx b0 b1 a0 a1).2 (by omega)
      have := ih cx (cy + 1) a0 a1 (by omega) (by omega) (by have m3 := mxs y (cy + 1); omega)
      unfold near at hn; omega
    · have h4 : y < cy := by omega
      have hn := (st (cy - 1) cx (by omega) (by omega) a0 a1).2 (by omega)
      have := ih cx (cy - 1) a0 a1 (by omega) (by omega) (by have m3 := mxs y (cy - 1); omega)
      rw [show cy - 1 + 1 = cy by omega] at hn
      unfold near at hn; omega
theorem lip_q {W H : Int} {L : List Int} (v : Valid W H L) {x y : Int} (x0 : 0 ≤ x ∧ x ≤ W) (y0 : 0 ≤ y ∧ y ≤ H) {q : Int} (q0 : 0 ≤ q) (q1 : q < (L.length : Int)) : rd L (y * (W + 1) + x) - rd L q ≤ dist W x y q ∧ rd L q - rd L (y * (W + 1) + x) ≤ dist W x y q := by
  obtain ⟨sa, sb, sc, se, sf⟩ := v.1
  have m0 := Int.emod_nonneg q (show W + 1 ≠ 0 by omega)
  have m1 := Int.emod_lt_of_pos q (show 0 < W + 1 by omega)
  have d0 := Int.ediv_nonneg q0 (show 0 ≤ W + 1 by omega)
  have d1 : q / (W + 1) < H + 1 := Int.ediv_lt_of_lt_mul (by omega) (by omega)
  have e : q / (W + 1) * (W + 1) + q % (W + 1) = q := Int.ediv_mul_add_emod q (W + 1)
  have hp := dist_pos W x y q
  have := lip v x0 y0 (dist W x y q).toNat (q % (W + 1)) (q / (W + 1)) m0 (by omega) d0 (by omega) (by unfold dist at hp ⊢; omega)
  rw [e] at this
  omega
/-- The way that a shift goes. -/
def way (up : Bool) : Int := if up = true then 1 else -1
theorem nv_one {W H : Int} {L : List Int} (v : Valid W H L) {x y : Int} (x0 : 0 ≤ x ∧ x ≤ W) (y0 : 0 ≤ y ∧ y ≤ H) (up : Bool) {q : Int} (q0 : 0 ≤ q) (q1 : q < (L.length : Int)) : nv W x y (rd L (y * (W + 1) + x) + way up) up L q = rd L q ∨ nv W x y (rd L (y * (W + 1) + x) + way up) up L q = rd L q + way up := by
  have h := lip_q v x0 y0 q0 q1
  unfold nv way
  cases up with
  | true => simp only [if_true]; unfold mx; split <;> omega
  | false => simp only [Bool.false_eq_true, if_false]; unfold mn; split <;> omega
/-- The corners that are changed, of the first i. -/
def chg (W : Int) (L : List Int) (f : Int → Int) : Nat → List S36
  | 0 => []
  | i + 1 => if f (i : Int) = rd L (i : Int) then chg W L f i else chg W L f i ++ [⟨(i : Int) % (W + 1), (i : Int) / (W + 1), f (i : Int)⟩]
theorem chg_len (W : Int) (L : List Int) (f : Int → Int) : ∀ i, (chg W L f i).length ≤ i := by
  intro i; induction i with
  | zero => simp [chg]
  | succ i ih =>
    show (if f (i : Int) = rd L (i : Int) then chg W L f i else chg W L f i ++ [⟨(i : Int) % (W + 1), (i : Int) / (W + 1), f (i : Int)⟩]).length ≤ i + 1
    split
    · omega
    · simp only [List.length_append, List.length_cons, List.length_nil]; omega
theorem chg_pre (W : Int) (L : List Int) (f : Int → Int) : ∀ (d i : Nat), ∃ t, chg W L f (i + d) = chg W L f i ++ t := by
  intro d; induction d with
  | zero => intro i; exact ⟨[], by simp⟩
  | succ d ih =>
    intro i
    obtain ⟨t, ht⟩ := ih i
    rw [show i + (d + 1) = (i + d) + 1 by omega]
    show ∃ t, (if f ((i + d : Nat) : Int) = rd L ((i + d : Nat) : Int) then chg W L f (i + d) else chg W L f (i + d) ++ [⟨((i + d : Nat) : Int) % (W + 1), ((i + d : Nat) : Int) / (W + 1), f ((i + d : Nat) : Int)⟩]) = chg W L f i ++ t
    split
    · exact ⟨t, ht⟩
    · exact ⟨t ++ [⟨((i + d : Nat) : Int) % (W + 1), ((i + d : Nat) : Int) / (W + 1), f ((i + d : Nat) : Int)⟩], by rw [ht, List.append_assoc]⟩
theorem chg_at (W : Int) (L : List Int) (f : Int → Int) {i n : Nat} (hi : i < n) (h : ¬ f (i : Int) = rd L (i : Int)) : rd_T36 (chg W L f n) ((chg W L f i).length : Int) = ⟨(i : Int) % (W + 1), (i : Int) / (W + 1), f (i : Int)⟩ ∧ (chg W L f i).length < (chg W L f n).length := by
  obtain ⟨t, ht⟩ := chg_pre W L f (n - (i + 1)) (i + 1)
  rw [show i + 1 + (n - (i + 1)) = n by omega] at ht
  have e : chg W L f (i + 1) = chg W L f i ++ [⟨(i : Int) % (W + 1), (i : Int) / (W + 1), f (i : Int)⟩] := by
    show (if f (i : Int) = rd L (i : Int) then _ else _) = _
    rw [if_neg h]
  rw [ht, e]
  refine ⟨?_, by simp⟩
  unfold rd_T36
  rw [List.append_assoc]
  simp [List.getD_eq_getElem?_getD]
theorem cost_more {a b c n : Int} (hx : mx (a - b) (b - a) = 1) (ha : -1 ≤ a ∧ a ≤ 16) (hb : 0 ≤ b ∧ b ≤ 15) (hc : 0 ≤ c ∧ c ≤ 2000) (hn : n = c + 1) : wrap64 (250 * c + wrap64 (mx (wrap64 (a - b)) (wrap64 (b - a)) * 250)) = 250 * n := by
  rw [w64_in (x := a - b) (by omega) (by omega), w64_in (x := b - a) (by omega) (by omega), hx, w64_in (x := 1 * 250) (by omega) (by omega), w64_in (by omega) (by omega)]; omega
theorem tell_loop {W H : Int} {L : List Int} (v : Valid W H L) {x y : Int} (x0 : 0 ≤ x ∧ x ≤ W) (y0 : 0 ≤ y ∧ y ≤ H) (up : Bool) {z : Int} (hz : z = rd L (y * (W + 1) + x) + way up) (z0 : 0 ≤ z ∧ z ≤ 15) : ∀ (d i : Nat) (N : List Int), i + d = L.length → N.length = i → (∀ q : Int, 0 ≤ q → q < (i : Int) → rd N q = nv W x y z up L q) → ∃ (M : List Int), Ev (fun k => land_Shift.l0 k x y up [] z (chg W L (nv W x y z up L) i) (250 * ((chg W L (nv W x y z up L) i).length : Int)) L (L.length : Int) (i : Int) W H L W H (N ++ L.drop i)) (W, H, M, chg W L (nv W x y z up L) L.length, 250 * ((chg W L (nv W x y z up L) L.length).length : Int), 0) ∧ M.length = L.length ∧ (∀ q : Int, 0 ≤ q → q < (L.length : Int) → rd M q = nv W x y z up L q) := by
  have s := v.1
  obtain ⟨n0, n1⟩ := len_le s
  obtain ⟨sa, sb, sc, se, sf⟩ := id s
  intro d; induction d with
  | zero =>
    intro i N hd hN hv
    have hi : i = L.length := by omega
    subst hi
    have hnot : ¬ (L.length : Int) < (L.length : Int) := by omega
    rw [List.drop_length, List.append_nil]
    refine ⟨N, Ev.step (fun _ => rfl) ?_, hN, hv⟩
    simp only [land_Shift.l0, hnot, if_false]
    refine Ev.step (fun _ => rfl) ?_
    simp only [land_Shift.l1, show ¬ (0 : Int) < (([] : List Int).length : Int) by simp, if_false]; exact Ev.now _
  | succ d ih =>
    intro i N hd hN hv
    have hi : (i : Int) < (L.length : Int) := by omega
    have i0 : (0 : Int) ≤ (i : Int) := by omega
    have hnew : ∀ q : Int, 0 ≤ q → q < ((i + 1 : Nat) : Int) → rd (N ++ [nv W x y z up L i]) q = nv W x y z up L q := by
      intro q q0 q1
      by_cases e : q < (i : Int)
      · rw [rd_app q0 (by omega)]; exact hv q q0 e
      · have : q = (N.length : Int) := by omega
        rw [this, rd_end, hN]
    have hlen : (N ++ [nv W x y z up L i]).length = i + 1 := by simp; omega
    have cl := chg_len W L (nv W x y z up L) i
    have hcl : (0 : Int) ≤ ((chg W L (nv W x y z up L) i).length : Int) ∧ ((chg W L (nv W x y z up L) i).length : Int) ≤ 2000 := by omega
    have hCn : (chg W L (nv W x y z up L) i).length < 5864062014805 := by omega
    have hML : (i : Int) < ((N ++ L.drop i).length : Int) := by simp; omega
    have hzero : i - N.length = 0 := by omega
    have hle : N.length ≤ i := by omega
    have hz' := v.2.1 (i : Int) i0 hi
    have w1 : wrap64 ((i : Int) + 1) = ((i + 1 : Nat) : Int) := by rw [w64_in (by omega) (by omega)]; omega
    have wW : wrap64 (W + 1) = W + 1 := w64_in (by omega) (by omega)
    have wN : ¬ W + 1 = 0 := by omega
    have m0 := Int.emod_nonneg (i : Int) (show W + 1 ≠ 0 by omega)
    have m1 := Int.emod_lt_of_pos (i : Int) (show 0 < W + 1 by omega)
    have d0 := Int.ediv_nonneg i0 (show 0 ≤ W + 1 by omega)
    have d1 : (i : Int) / (W + 1) < H + 1 := Int.ediv_lt_of_lt_mul (by omega) (by omega)
    have tm : Int.tmod (i : Int) (W + 1) = (i : Int) % (W + 1) := Int.tmod_eq_emod_of_nonneg i0
    have td : wrap64 (Int.tdiv (i : Int) (W + 1)) = (i : Int) / (W + 1) := by rw [Int.tdiv_eq_ediv_of_nonneg i0, w64_in (by omega) (by omega)]
    have hdist : 0 ≤ dist W x y i ∧ dist W x y i ≤ 70 := by unfold dist mx; split <;> split <;> omega
    have hfar : land_far.f x y ((i : Int) % (W + 1)) ((i : Int) / (W + 1)) = some (dist W x y i) := by
      unfold land_far.f
      rw [w64_in (x := x - (i : Int) % (W + 1)) (by omega) (by omega), w64_in (x := (i : Int) % (W + 1) - x) (by omega) (by omega), w64_in (x := y - (i : Int) / (W + 1)) (by omega) (by omega), w64_in (x := (i : Int) / (W + 1) - y) (by omega) (by omega)]
      exact congrArg some (w64_in (x := dist W x y i) (by omega) (by omega))
    have zm : wrap64 (z - dist W x y i) = z - dist W x y i := w64_in (by omega) (by omega)
    have zp : wrap64 (z + dist W x y i) = z + dist W x y i := w64_in (by omega) (by omega)
    have one := nv_one v x0 y0 up i0 hi
    rw [← hz] at one
    have la : ∀ (k : Nat) (C : List S36) (S : Int), land_Shift.l0 (k + 1) x y up [] z C S L (L.length : Int) (i : Int) W H L W H (N ++ L.drop i) = land_Shift.j4 k x y up [] z C S (i : Int) (rd L i) ((i : Int) % (W + 1)) ((i : Int) / (W + 1)) (nv W x y z up L i) L (L.length : Int) (i : Int) W H L W H (N ++ L.drop i) := by
      intro k C S
      simp only [land_Shift.l0, wW, tm, td, hfar, Option.bind_some, zm, zp]
      rw [if_pos hi, if_pos i0, if_pos hi, if_neg wN]
      unfold nv
      split <;> rfl
    have dr : L.drop i = rd L (i : Int) :: L.drop (i + 1) := by
      have := drop_at (L := L) i0 hi
      simpa using this
    obtain ⟨M, e1, e2⟩ := ih (i + 1) (N ++ [nv W x y z up L i]) (by omega) hlen hnew
    by_cases hc : nv W x y z up L i = rd L i
    · have ce : chg W L (nv W x y z up L) (i + 1) = chg W L (nv W x y z up L) i := by
        show (if nv W x y z up L (i : Int) = rd L (i : Int) then _ else _) = _
        rw [if_pos hc]
      refine ⟨M, Ev.step (fun k => la k _ _) (Ev.step (fun _ => rfl) ?_), e2⟩
      simp only [land_Shift.j4, hc, if_true, w1]
      rw [ce, hc, List.append_assoc, List.singleton_append, ← dr] at e1
      exact e1
    · have ce : chg W L (nv W x y z up L) (i + 1) = chg W L (nv W x y z up L) i ++ [⟨(i : Int) % (W + 1), (i : Int) / (W + 1), nv W x y z up L (i : Int)⟩] := by
        show (if nv W x y z up L (i : Int) = rd L (i : Int) then _ else _) = _
        rw [if_neg hc]
      have hx : mx (nv W x y z up L i - rd L i) (rd L i - nv W x y z up L i) = 1 := by
        have ho : nv W x y z up L i = rd L i + way up := one.resolve_left hc
        rw [ho]; unfold way mx
        cases up with
        | true => simp only [if_true]; split <;> omega
        | false => simp only [Bool.false_eq_true, if_false]; split <;> omega
      have nb : -1 ≤ nv W x y z up L i ∧ nv W x y z up L i ≤ 16 := by
        rcases one with h | h
        · omega
        · rw [h]; unfold way; split <;> omega
      have hS2 : wrap64 (250 * ((chg W L (nv W x y z up L) i).length : Int) + wrap64 (mx (wrap64 (nv W x y z up L i - rd L i)) (wrap64 (rd L i - nv W x y z up L i)) * 250)) = 250 * ((chg W L (nv W x y z up L) (i + 1)).length : Int) := cost_more hx nb hz' hcl (by rw [ce, List.length_append]; simp)
      have hset : (N ++ L.drop i).set (i : Int).toNat (nv W x y z up L i) = N ++ [nv W x y z up L i] ++ L.drop (i + 1) := by
        rw [Int.toNat_natCast, dr, List.append_assoc, List.singleton_append, List.set_append_right _ _ hle, show i - N.length = 0 from hzero]
        rfl
      refine ⟨M, Ev.step (fun k => la k _ _) (Ev.step (fun _ => rfl) ?_), e2⟩
      simp only [land_Shift.j4, hc, if_false, i0, hML, hCn, if_true, w1, hset, hS2, ← ce]
      exact e1
theorem shift_tell {W H : Int} {L : List Int} (v : Valid W H L) {x y : Int} (x0 : 0 ≤ x ∧ x ≤ W) (y0 : 0 ≤ y ∧ y ≤ H) (up : Bool) {z : Int} (hz : z = rd L (y * (W + 1) + x) + way up) (z0 : 0 ≤ z ∧ z ≤ 15) : ∃ (M : List Int), Ev (fun k => land_Shift.f k W H L x y up []) (W, H, M, chg W L (nv W x y z up L) L.length, 250 * ((chg W L (nv W x y z up L) L.length).length : Int), 0) ∧ M.length = L.length ∧ (∀ q : Int, 0 ≤ q → q < (L.length : Int) → rd M q = nv W x y z up L q) := by
  obtain ⟨e, v1, v2, v3⟩ := validate_ok W H L
  have he := v3.2 v
  rw [he] at v1
  have s := v.1
  obtain ⟨n0, n1⟩ := len_le s
  obtain ⟨sa, sb, sc, se, sf⟩ := id s
  obtain ⟨p0, p1⟩ := row_in (m := W + 1) y0.1 y0.2 (by omega)
  have hp : wrap64 (wrap64 (y * wrap64 (W + 1)) + x) = y * (W + 1) + x := by
    rw [w64_in (x := W + 1) (by omega) (by omega), w64_in (x := y * (W + 1)) (by omega) (by omega), w64_in (by omega) (by omega)]
  have q0 : 0 ≤ y * (W + 1) + x := by omega
  have q1 : y * (W + 1) + x < (L.length : Int) := by omega
  have hzz := v.2.1 _ q0 q1
  have w1 : wrap64 (rd L (y * (W + 1) + x) - 1) = rd L (y * (W + 1) + x) - 1 := w64_in (by omega) (by omega)
  have w2 : wrap64 (rd L (y * (W + 1) + x) - 1 + 2) = rd L (y * (W + 1) + x) + 1 := by rw [w64_in (by omega) (by omega)]; omega
  obtain ⟨M, e1, e2⟩ := tell_loop v x0 y0 up hz z0 L.length 0 [] (by omega) rfl (fun q a b => by omega)
  have hlen : ([] : List Int).length + L.length < 17592186044416 := by simp; omega
  refine ⟨M, ?_, e2⟩
  unfold land_Shift.f
  refine Ev.bind v1 ?_
  simp only [if_true, show ¬ x < 0 by omega, show ¬ x > W by omega, show ¬ y < 0 by omega, show ¬ y > H by omega, if_false, decide_false]
  have tail : Ev (fun k => land_Shift.j1 k x y up [] z W H L) (W, H, M, chg W L (nv W x y z up L) L.length, 250 * ((chg W L (nv W x y z up L) L.length).length : Int), 0) := by
    refine Ev.step (fun _ => rfl) ?_
    simp only [land_Shift.j1, show ¬ z < 0 by omega, show ¬ z > 15 by omega, if_false, decide_false]
    refine Ev.step (fun _ => rfl) ?_
    simp only [land_Shift.j2, Bool.false_eq_true, if_false, hlen, if_true]
    simpa [chg] using e1
  refine Ev.step (fun _ => rfl) ?_
  simp only [land_Shift.j0, Bool.false_eq_true, if_false, hp, q0, q1, if_true, w1, w2]
  cases up with
  | true => simp only [if_true]; rw [show rd L (y * (W + 1) + x) + 1 = z by rw [hz]; rfl]; exact tail
  | false => simp only [Bool.false_eq_true, if_false]; rw [show rd L (y * (W + 1) + x) - 1 = z by rw [hz]; rfl]; exact tail
theorem shift_err {W H : Int} {L : List Int} {x y : Int} (up : Bool) (h : ¬ (Valid W H L ∧ (0 ≤ x ∧ x ≤ W) ∧ (0 ≤ y ∧ y ≤ H) ∧ 0 ≤ rd L (y * (W + 1) + x) + way up ∧ rd L (y * (W + 1) + x) + way up ≤ 15)) : ∃ e, ¬ e = 0 ∧ Ev (fun k => land_Shift.f k W H L x y up []) ((0, 0, [], [], 0, e) : Shi.R) := by
  obtain ⟨e, v1, v2, v3⟩ := validate_ok W H L
  unfold land_Shift.f
  by_cases he : e = 0
  · have v := v3.1 he
    rw [he] at v1
    have s := v.1
    obtain ⟨n0, n1⟩ := len_le s
    obtain ⟨sa, sb, sc, se, sf⟩ := id s
    have bad : Ev (fun k => land_Shift.j0 k x y up [] true W H L) ((0, 0, [], [], 0, 2) : Shi.R) := by
      refine Ev.step (fun _ => rfl) ?_
      simp only [land_Shift.j0, if_true]; exact Ev.now _
    by_cases c1 : x < 0
    · refine ⟨2, by omega, Ev.bind v1 ?_⟩
      simp only [if_true, c1]; exact bad
    by_cases c2 : x > W
    · refine ⟨2, by omega, Ev.bind v1 ?_⟩
      simp only [if_true, c1, c2, if_false]; exact bad
    by_cases c3 : y < 0
    · refine ⟨2, by omega, Ev.bind v1 ?_⟩
      simp only [if_true, c1, c2, c3, if_false]; exact bad
    by_cases c4 : y > H
    · refine ⟨2, by omega, Ev.bind v1 ?_⟩
      simp only [if_true, c1, c2, c3, c4, if_false, decide_true]; exact bad
    obtain ⟨p0, p1⟩ := row_in (m := W + 1) (show 0 ≤ y by omega) (show y ≤ H by omega) (by omega)
    have hp : wrap64 (wrap64 (y * wrap64 (W + 1)) + x) = y * (W + 1) + x := by
      rw [w64_in (x := W + 1) (by omega) (by omega), w64_in (x := y * (W + 1)) (by omega) (by omega), w64_in (by omega) (by omega)]
    have q0 : 0 ≤ y * (W + 1) + x := by omega
    have q1 : y * (W + 1) + x < (L.length : Int) := by omega
    have hzz := v.2.1 _ q0 q1
    have w1 : wrap64 (rd L (y * (W + 1) + x) - 1) = rd L (y * (W + 1) + x) - 1 := w64_in (by omega) (by omega)
    have w2 : wrap64 (rd L (y * (W + 1) + x) - 1 + 2) = rd L (y * (W + 1) + x) + 1 := by rw [w64_in (by omega) (by omega)]; omega
    have hb : ¬ (0 ≤ rd L (y * (W + 1) + x) + way up ∧ rd L (y * (W + 1) + x) + way up ≤ 15) := fun c => h ⟨v, by omega, by omega, c⟩
    have tail : ∀ z : Int, z = rd L (y * (W + 1) + x) + way up → Ev (fun k => land_Shift.j1 k x y up [] z W H L) ((0, 0, [], [], 0, 6) : Shi.R) := by
      intro z hz
      rw [← hz] at hb
      have stop : Ev (fun k => land_Shift.j2 k x y up [] z true W H L) ((0, 0, [], [], 0, 6) : Shi.R) := by
        refine Ev.step (fun _ => rfl) ?_
        simp only [land_Shift.j2, if_true]; exact Ev.now _
      refine Ev.step (fun _ => rfl) ?_
      by_cases d1 : z < 0
      · simp only [land_Shift.j1, d1, if_true]; exact stop
      · have d2 : z > 15 := by omega
        simp only [land_Shift.j1, d1, d2, if_false, decide_true]; exact stop
    refine ⟨6, by omega, Ev.bind v1 ?_⟩
    simp only [if_true, c1, c2, c3, c4, if_false, decide_false]
    refine Ev.step (fun _ => rfl) ?_
    simp only [land_Shift.j0, Bool.false_eq_true, if_false, hp, q0, q1, if_true, w1, w2]
    cases up with
    | true => simp only [if_true]; exact tail _ rfl
    | false => simp only [Bool.false_eq_true, if_false]; exact tail _ rfl
  · refine ⟨e, he, Ev.bind v1 ?_⟩
    simp only [he, if_false]; exact Ev.now _
/-- Another land lies so far beyond. -/
def Fit (W H p w : Int) (L M O : List Int) (i : Int) : Prop := Valid W H O ∧ 0 ≤ (rd O p - rd M p) * w ∧ ∀ j : Int, 0 ≤ j → j < i → 0 ≤ (rd O j - rd L j) * w
theorem way_t : way true = 1 := rfl
theorem way_f : way false = -1 := rfl
theorem way_mul (up : Bool) {a : Int} (h : -1000 ≤ a ∧ a ≤ 1000) : wrap64 (wrap64 a * way up) = a * way up ∧ (up = true → a * way up = a) ∧ (up = false → a * way up = -a) := by
  cases up with
  | true =>
    rw [way_t, w64_in (x := a) (by omega) (by omega), w64_in (by omega) (by omega)]
    exact ⟨rfl, fun _ => by omega, fun h => absurd h (by simp)⟩
  | false =>
    rw [way_f, w64_in (x := a) (by omega) (by omega), w64_in (by omega) (by omega)]
    exact ⟨rfl, fun h => absurd h (by simp), fun _ => by omega⟩
section
variable {W H p : Int} {L M O : List Int} {C : List S36} {up : Bool}
theorem l0_fit (v : Valid W H L) (cont : ∀ b : Bool, (b = true → Fit W H p (way up) L M O (L.length : Int)) → Ev (fun k => hinterlandlaw02_LandShiftsLeast.l1 k O C (way up) b 0 (L.length : Int) 0 W H L W H M) true) : ∀ (d : Nat) (i : Int) (b : Bool), 0 ≤ i → i + d = L.length → (b = true → Fit W H p (way up) L M O i) → Ev (fun k => hinterlandlaw02_LandShiftsLeast.l0 k O C (way up) b (L.length : Int) i W H L W H M) true := by
  obtain ⟨n0, n1⟩ := len_le v.1
  intro d; induction d with
  | zero =>
    intro i b i0 hd hb
    have hi : i = (L.length : Int) := by omega
    refine Ev.step (fun _ => rfl) ?_
    simp only [hinterlandlaw02_LandShiftsLeast.l0, show ¬ i < (L.length : Int) by omega, if_false]
    exact cont b (by rw [hi] at hb; exact hb)
  | succ d ih =>
    intro i b i0 hd hb
    have hi : i < (L.length : Int) := by omega
    have wi : wrap64 (i + 1) = i + 1 := w64_in (by omega) (by omega)
    have next : ∀ b' : Bool, (b' = true → Fit W H p (way up) L M O (i + 1)) → Ev (fun k => hinterlandlaw02_LandShiftsLeast.j5 k O C (way up) b' (L.length : Int) i W H L W H M) true := by
      intro b' hb'
      refine Ev.step (fun _ => rfl) ?_
      simp only [hinterlandlaw02_LandShiftsLeast.j5, wi]
      exact ih (i + 1) b' (by omega) (by omega) hb'
    refine Ev.step (fun _ => rfl) ?_
    cases b with
    | false => simp only [hinterlandlaw02_LandShiftsLeast.l0, hi, if_true, Bool.false_eq_true, if_false]; exact next false (by simp)
    | true =>
      obtain ⟨vo, f1, f2⟩ := hb rfl
      have lo : (O.length : Int) = (L.length : Int) := by have := vo.1.2.2.2.2; have := v.1.2.2.2.2; omega
      have ho := vo.2.1 i i0 (by omega)
      have hl := v.2.1 i i0 hi
      have wm := way_mul up (a := rd O i - rd L i) (by omega)
      simp only [hinterlandlaw02_LandShiftsLeast.l0, hi, if_true, i0, show i < (O.length : Int) by omega, wm.1]
      refine next _ (fun h => ⟨vo, f1, fun j a b => ?_⟩)
      by_cases e : j = i
      · rw [e]; have := of_decide_eq_true h; omega
      · exact f2 j a (by omega)
theorem l1_fit (v : Valid W H L) {f : Int → Int} (hC : C = chg W L f L.length) (hm : M.length = L.length) (hM : ∀ q : Int, 0 ≤ q → q < (L.length : Int) → rd M q = f q) (bM : ∀ q : Int, 0 ≤ q → q < (L.length : Int) → 0 ≤ rd M q ∧ rd M q ≤ 15) (one : ∀ q : Int, 0 ≤ q → q < (L.length : Int) → rd M q = rd L q ∨ rd M q = rd L q + way up) {b : Bool} (hb : b = true → Valid W H O ∧ ∀ q : Int, 0 ≤ q → q < (L.length : Int) → 0 ≤ (rd O q - rd M q) * way up) : ∀ (d i : Nat), i + d = L.length → Ev (fun k => hinterlandlaw02_LandShiftsLeast.l1 k O C (way up) b ((chg W L f i).length : Int) (L.length : Int) (i : Int) W H L W H M) true := by
  obtain ⟨n0, n1⟩ := len_le v.1
  obtain ⟨sa, sb, sc, se, sf⟩ := v.1
  intro d; induction d with
  | zero =>
    intro i hd
    have hi : i = L.length := by omega
    refine Ev.step (fun _ => rfl) ?_
    simp only [hinterlandlaw02_LandShiftsLeast.l1, show ¬ (i : Int) < (L.length : Int) by omega, if_false]
    rw [hC, hi]
    simp only [if_true]
    exact Ev.bind known_ev (Ev.now _)
  | succ d ih =>
    intro i hd
    have hi : (i : Int) < (L.length : Int) := by omega
    have i0 : (0 : Int) ≤ (i : Int) := by omega
    have im : (i : Int) < (M.length : Int) := by omega
    have wi : wrap64 ((i : Int) + 1) = ((i + 1 : Nat) : Int) := by rw [w64_in (by omega) (by omega)]; omega
    have nx := ih (i + 1) (by omega)
    have m9 : ∀ c : Int, Ev (fun k => hinterlandlaw02_LandShiftsLeast.l1 k O C (way up) b c (L.length : Int) ((i + 1 : Nat) : Int) W H L W H M) true → Ev (fun k => hinterlandlaw02_LandShiftsLeast.j8 k O C (way up) b c (i : Int) (L.length : Int) (i : Int) W H L W H M) true := by
      intro c hn
      have t9 : Ev (fun k => hinterlandlaw02_LandShiftsLeast.j9 k O C (way up) b c (L.length : Int) (i : Int) false W H L W H M) true := by
        refine Ev.step (fun _ => rfl) ?_
        simp only [hinterlandlaw02_LandShiftsLeast.j9, Bool.false_eq_true, if_false, wi]; exact hn
      refine Ev.step (fun _ => rfl) ?_
      cases hbb : b with
      | false =>
        rw [hbb] at t9
        simp only [hinterlandlaw02_LandShiftsLeast.j8, Bool.false_eq_true, if_false]; exact t9
      | true =>
        rw [hbb] at t9
        obtain ⟨vo, g⟩ := hb hbb
        have lo : (O.length : Int) = (L.length : Int) := by have := vo.1.2.2.2.2; omega
        have ho := vo.2.1 (i : Int) i0 (by omega)
        have hmm := bM (i : Int) i0 hi
        have wm := way_mul up (a := rd O (i : Int) - rd M (i : Int)) (by omega)
        have gi := g (i : Int) i0 hi
        simp only [hinterlandlaw02_LandShiftsLeast.j8, if_true, i0, show (i : Int) < (O.length : Int) by omega, im, wm.1, show ¬ (rd O (i : Int) - rd M (i : Int)) * way up < 0 by omega, decide_false]
        exact t9
    refine Ev.step (fun _ => rfl) ?_
    by_cases he : rd M (i : Int) = rd L (i : Int)
    · have ce : chg W L f (i + 1) = chg W L f i := by
        show (if f (i : Int) = rd L (i : Int) then _ else _) = _
        rw [if_pos (by rw [← hM (i : Int) i0 hi]; exact he)]
      rw [ce] at nx
      simp only [hinterlandlaw02_LandShiftsLeast.l1, hi, i0, im, he, if_true]
      exact m9 _ nx
    · have hf : ¬ f (i : Int) = rd L (i : Int) := by rw [← hM (i : Int) i0 hi]; exact he
      have ce : chg W L f (i + 1) = chg W L f i ++ [⟨(i : Int) % (W + 1), (i : Int) / (W + 1), f (i : Int)⟩] := by
        show (if f (i : Int) = rd L (i : Int) then _ else _) = _
        rw [if_neg hf]
      obtain ⟨ca, cb⟩ := chg_at W L f (show i < L.length by omega) hf
      have cl := chg_len W L f i
      have hl := v.2.1 (i : Int) i0 hi
      have ho := (one (i : Int) i0 hi).resolve_left he
      have hw : wrap64 (rd L (i : Int) + way up) = rd L (i : Int) + way up := by unfold way; split <;> exact w64_in (by omega) (by omega)
      have wW : wrap64 (W + 1) = W + 1 := w64_in (by omega) (by omega)
      have wN : ¬ W + 1 = 0 := by omega
      have d0 := Int.ediv_nonneg i0 (show 0 ≤ W + 1 by omega)
      have d1 := Int.ediv_le_self (W + 1) i0
      have tm : Int.tmod (i : Int) (W + 1) = (i : Int) % (W + 1) := Int.tmod_eq_emod_of_nonneg i0
      have td : wrap64 (Int.tdiv (i : Int) (W + 1)) = (i : Int) / (W + 1) := by rw [Int.tdiv_eq_ediv_of_nonneg i0, w64_in (by omega) (by omega)]
      have wk : wrap64 (((chg W L f i).length : Int) + 1) = ((chg W L f (i + 1)).length : Int) := by
        rw [ce, List.length_append, w64_in (by omega) (by omega)]; simp
      have c0 : (0 : Int) ≤ ((chg W L f i).length : Int) := by omega
      have c1 : ((chg W L f i).length : Int) < (C.length : Int) := by rw [hC]; omega
      have t7 : Ev (fun k => hinterlandlaw02_LandShiftsLeast.j7 k O C (way up) b ((chg W L f i).length : Int) (i : Int) (L.length : Int) (i : Int) false W H L W H M) true := by
        refine Ev.step (fun _ => rfl) ?_
        simp only [hinterlandlaw02_LandShiftsLeast.j7, Bool.false_eq_true, if_false, wk]
        exact m9 _ nx
      have rc : rd_T36 C ((chg W L f i).length : Int) = ⟨(i : Int) % (W + 1), (i : Int) / (W + 1), rd M (i : Int)⟩ := by rw [hC, ca, hM (i : Int) i0 hi]
      have he' : ¬ rd L (i : Int) + way up = rd L (i : Int) := by rw [← ho]; exact he
      simp only [hinterlandlaw02_LandShiftsLeast.l1, hi, i0, im, if_true, he, if_false, hw, ho, he', show ¬ ((chg W L f i).length : Int) ≥ (C.length : Int) by omega, c0, c1, wW, wN, tm, td, rc, beq_self_eq_true, Bool.not_true, Bool.or_self]
      exact t7
end
theorem LandShiftsLeast : hinterlandlaw02_LandShiftsLeast.Pure := by
  intro W H L x y up O _ _ _ _ _ _ _
  refine Ev.rounds ?_
  unfold hinterlandlaw02_LandShiftsLeast.f
  refine Ev.bind (large1 W H L O) ?_
  by_cases hg : decide (mx (L.length : Int) O.length > 4000) = true
  · simp only [hg, if_true]
    exact Ev.bind known_ev (Ev.now _)
  · simp only [hg, if_false]
    by_cases hc : Valid W H L ∧ (0 ≤ x ∧ x ≤ W) ∧ (0 ≤ y ∧ y ≤ H) ∧ 0 ≤ rd L (y * (W + 1) + x) + way up ∧ rd L (y * (W + 1) + x) + way up ≤ 15
    · obtain ⟨v, x0, y0, z0⟩ := hc
      have s := v.1
      obtain ⟨n0, n1⟩ := len_le s
      obtain ⟨sa, sb, sc, se, sf⟩ := id s
      obtain ⟨p0, p1⟩ := row_in (m := W + 1) y0.1 y0.2 (by omega)
      have hp : wrap64 (wrap64 (y * wrap64 (W + 1)) + x) = y * (W + 1) + x := by
        rw [w64_in (x := W + 1) (by omega) (by omega), w64_in (x := y * (W + 1)) (by omega) (by omega), w64_in (by omega) (by omega)]
      have q0 : 0 ≤ y * (W + 1) + x := by omega
      have q1 : y * (W + 1) + x < (L.length : Int) := by omega
      obtain ⟨M, e1, hm, hM⟩ := shift_tell v x0 y0 up rfl z0
      have vM := nv_valid v z0 up hm hM
      obtain ⟨r, u1, u2, u3⟩ := validate_ok W H M
      have hr := u3.2 vM
      rw [hr] at u1
      have one : ∀ q : Int, 0 ≤ q → q < (L.length : Int) → rd M q = rd L q ∨ rd M q = rd L q + way up := fun q a b => by rw [hM q a b]; exact nv_one v x0 y0 up a b
      have cl := chg_len W L (nv W x y (rd L (y * (W + 1) + x) + way up) up L) L.length
      have hMp : rd M (y * (W + 1) + x) = rd L (y * (W + 1) + x) + way up := by
        rw [hM _ q0 q1]
        unfold nv
        rw [dist_self (by omega) x0.1 x0.2]
        unfold way
        cases up with
        | true => simp only [if_true]; unfold mx; split <;> omega
        | false => simp only [Bool.false_eq_true, if_false]; unfold mn; split <;> omega
      have hlp := v.2.1 _ q0 q1
      have bM : ∀ q : Int, 0 ≤ q → q < (L.length : Int) → 0 ≤ rd M q ∧ rd M q ≤ 15 := fun q a b => vM.2.1 q a (by omega)
      have qm : y * (W + 1) + x < (M.length : Int) := by omega
      have key : Ev (fun k => hinterlandlaw02_LandShiftsLeast.j1 k x y O (chg W L (nv W x y (rd L (y * (W + 1) + x) + way up) up L) L.length) (250 * ((chg W L (nv W x y (rd L (y * (W + 1) + x) + way up) up L) L.length).length : Int)) (way up) W H L W H M) true := by
        have fin : ∀ b : Bool, (b = true → Fit W H (y * (W + 1) + x) (way up) L M O 0) → Ev (fun k => hinterlandlaw02_LandShiftsLeast.j3 k O (chg W L (nv W x y (rd L (y * (W + 1) + x) + way up) up L) L.length) (way up) b W H L W H M) true := by
          intro b hb
          refine Ev.step (fun _ => rfl) ?_
          simp only [hinterlandlaw02_LandShiftsLeast.j3]
          refine l0_fit v (fun b' hb' => ?_) L.length 0 b (by omega) (by omega) hb
          have := l1_fit (O := O) (up := up) (b := b') v rfl hm hM bM one (fun h => ?_) L.length 0 (by omega)
          · simpa [chg] using this
          · obtain ⟨vo, f1, f2⟩ := hb' h
            refine ⟨vo, fun q a b => ?_⟩
            have lo : (O.length : Int) = (L.length : Int) := by have := vo.1.2.2.2.2; omega
            have lp := lip_q vo x0 y0 a (by omega : q < (O.length : Int))
            have fq := f2 q a b
            rw [hMp] at f1
            rw [hM q a b]
            unfold nv
            cases up with
            | true =>
              simp only [way, if_true] at f1 fq ⊢
              unfold mx; split <;> omega
            | false =>
              simp only [way, Bool.false_eq_true, if_false] at f1 fq ⊢
              unfold mn; split <;> omega
        refine Ev.step (fun _ => rfl) ?_
        simp only [hinterlandlaw02_LandShiftsLeast.j1]
        refine Ev.bind u1 ?_
        have w250 : wrap64 (250 * ((chg W L (nv W x y (rd L (y * (W + 1) + x) + way up) up L) L.length).length : Int)) = 250 * ((chg W L (nv W x y (rd L (y * (W + 1) + x) + way up) up L) L.length).length : Int) := w64_in (by omega) (by omega)
        have ww : wrap64 (rd L (y * (W + 1) + x) + way up) = rd L (y * (W + 1) + x) + way up := w64_in (by omega) (by omega)
        have ne : (rd L (y * (W + 1) + x) + way up != rd L (y * (W + 1) + x) + way up) = false := by simp
        simp only [if_true, w250, hp, q0, q1, qm, hMp, ww, ne]
        refine Ev.step (fun _ => rfl) ?_
        simp only [hinterlandlaw02_LandShiftsLeast.j2, Bool.false_eq_true, if_false]
        obtain ⟨ro, o1, o2, o3⟩ := validate_ok W H O
        refine Ev.bind o1 ?_
        by_cases hro : ro = 0
        · have vo := o3.1 hro
          have lo : (O.length : Int) = (L.length : Int) := by have := vo.1.2.2.2.2; omega
          have ho := vo.2.1 _ q0 (by omega : y * (W + 1) + x < (O.length : Int))
          have hmq := bM _ q0 q1
          have wm := way_mul up (a := rd O (y * (W + 1) + x) - rd M (y * (W + 1) + x)) (by omega)
          simp only [hro, if_true, q0, show y * (W + 1) + x < (O.length : Int) by omega, qm, wm.1]
          exact fin _ (fun h => ⟨vo, by have := of_decide_eq_true h; omega, fun j a b => by omega⟩)
        · simp only [hro, if_false]
          exact fin false (by simp)
      refine Ev.bind e1 ?_
      cases up with
      | true => simp only [if_true]; exact key
      | false => simp only [if_true, Bool.false_eq_true, if_false]; exact key
    · obtain ⟨e, he, e1⟩ := shift_err up hc
      refine Ev.bind e1 ?_
      simp only [he, if_false, List.length_nil, Int.ofNat_zero, show ((0 : Nat) : Int) = 0 from rfl, if_true]
      refine Ev.bind known_ev ?_
      exact Ev.step (fun _ => rfl) (by simp only [hinterlandlaw02_LandShiftsLeast.j0]; exact Ev.now _)
end Go.Proofs.Ytchflcnegpnkkaa.Pure

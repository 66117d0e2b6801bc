/- What is proved: law LandLevelsFlat of this seat, all in one text (laid by prune.py). -/
import Derived.Test.YtchflcnegpnkkaaOpen
import Derived.OpenShut
import Derived.Test.YtchflcnegpnkkaaQ3
import Derived.Test.YtchflcnegpnkkaaQ4
import Derived.Test.YtchflcnegpnkkaaQ5
import Derived.Test.YtchflcnegpnkkaaQ6
import Derived.Test.YtchflcnegpnkkaaQ7
import Derived.Test.YtchflcnegpnkkaaQ8
import Derived.Test.YtchflcnegpnkkaaQ10
import Derived.Test.YtchflcnegpnkkaaQ11
import Derived.Test.YtchflcnegpnkkaaQ12
import Derived.Test.YtchflcnegpnkkaaQ14
import Derived.Test.YtchflcnegpnkkaaQ22
import Derived.Test.YtchflcnegpnkkaaQ28
import Derived.Test.YtchflcnegpnkkaaQ29
import Derived.Test.YtchflcnegpnkkaaQ55
namespace Go.Proofs.YtchflcnegpnkkaaOwn
open Go.RowKit Go.Proofs.YtchflcnegpnkkaaW.PrintWords
theorem w64_in {x : Int} (h0 : -9223372036854775808 ≤ x) (h1 : x ≤ 9223372036854775807) : wrap64 x = x := by unfold wrap64; omega
end Go.Proofs.YtchflcnegpnkkaaOwn
namespace Go.Proofs.Ytchflcnegpnkkaa.Val
open Go.RowKit Go.Proofs.YtchflcnegpnkkaaOwn Go.Proofs.Ytchflcnegpnkkaa.Q Go.Proofs.YtchflcnegpnkkaaW.PrintWords Go.Proofs.YtchflcnegpnkkaaW.PrintLast
/-- Two heights lie within one step. -/
def near (a b : Int) : Prop := a - b ≤ 1 ∧ b - a ≤ 1
instance (a b : Int) : Decidable (near a b) := by unfold near; infer_instance
def Hts (L : List Int) : Prop := ∀ i : Int, 0 ≤ i → i < (L.length : Int) → 0 ≤ rd L i ∧ rd L i ≤ 15
def cell (W H : Int) (L : List Int) (y x : Int) : Prop := (x < W → near (rd L (y * (W + 1) + x)) (rd L (y * (W + 1) + x + 1))) ∧ (y < H → near (rd L (y * (W + 1) + x)) (rd L ((y + 1) * (W + 1) + x)))
def place (W : Int) (L : List Int) (i : Int) : Prop := (0 < i % (W + 1) → near (rd L i) (rd L (i - 1))) ∧ (W < i → near (rd L i) (rd L (i - W - 1)))
instance (W H : Int) (L : List Int) (y x : Int) : Decidable (cell W H L y x) := by unfold cell; infer_instance
instance (W : Int) (L : List Int) (i : Int) : Decidable (place W L i) := by unfold place; infer_instance
def Steps (W H : Int) (L : List Int) : Prop := ∀ y x : Int, 0 ≤ y → y ≤ H → 0 ≤ x → x ≤ W → cell W H L y x
def Sides (W H : Int) (L : List Int) : Prop := 4 ≤ W ∧ W ≤ 32 ∧ 4 ≤ H ∧ H ≤ 32 ∧ (L.length : Int) = (H + 1) * (W + 1)
def Valid (W H : Int) (L : List Int) : Prop := Sides W H L ∧ Hts L ∧ Steps W H L
def Res (g : Nat → Option Int) (P : Prop) : Prop := ∃ r, Ev g r ∧ (r = 0 ∨ r = 5) ∧ (r = 0 ↔ P)
theorem row_in {y H m : Int} (h0 : 0 ≤ y) (h1 : y ≤ H) (hm : 0 ≤ m) : 0 ≤ y * m ∧ y * m + m ≤ (H + 1) * m := by
  constructor
  · exact Int.mul_nonneg h0 hm
  · have := Int.mul_le_mul_of_nonneg_right (show y + 1 ≤ H + 1 by omega) hm
    rw [Int.add_mul y 1 m, Int.one_mul] at this; exact this
theorem len_le {W H : Int} {L : List Int} (s : Sides W H L) : 25 ≤ (L.length : Int) ∧ (L.length : Int) ≤ 1089 := by
  obtain ⟨a, b, c, d, e⟩ := s
  have h1 := Int.mul_le_mul (show H + 1 ≤ 33 by omega) (show W + 1 ≤ 33 by omega) (by omega) (by omega)
  have h2 := Int.mul_le_mul (show 5 ≤ H + 1 by omega) (show 5 ≤ W + 1 by omega) (by omega) (by omega)
  omega
theorem apart_ok {a b : Int} (ha : 0 ≤ a ∧ a ≤ 15) (hb : 0 ≤ b ∧ b ≤ 15) : land_apart.f a b = some (!decide (near a b)) := by
  unfold land_apart.f
  rw [w64_in (by omega) (by omega), w64_in (by omega) (by omega)]
  by_cases h : a - b > 1
  · rw [if_pos h, decide_eq_false (p := near a b) (by unfold near; omega)]; rfl
  · rw [if_neg h]
    by_cases h2 : b - a > 1
    · rw [decide_eq_true h2, decide_eq_false (p := near a b) (by unfold near; omega)]; rfl
    · rw [decide_eq_false h2, decide_eq_true (p := near a b) (by unfold near; omega)]; rfl
theorem Apart_ok {a b : Int} (ha : -4000 ≤ a ∧ a ≤ 4000) (hb : -4000 ≤ b ∧ b ≤ 4000) : hinterlandref02_Apart.f a b = some (mx (a - b) (b - a)) := by
  unfold hinterlandref02_Apart.f mx
  rw [w64_in (by omega) (by omega), w64_in (by omega) (by omega)]
  by_cases h : a < b
  · rw [if_pos h]; congr 1; split <;> omega
  · rw [if_neg h]; congr 1; split <;> omega
theorem l0_ok {W H : Int} {L : List Int} {r : Int} (hn : (L.length : Int) ≤ 1089) (hg : Ev (fun k => land_Validate.l1 k 0 W H L) r) : ∀ (d : Nat) (i : Int), 0 ≤ i → i + d = L.length → (∀ j, i ≤ j → j < (L.length : Int) → 0 ≤ rd L j ∧ rd L j ≤ 15) → Ev (fun k => land_Validate.l0 k L (L.length : Int) i W H L) r := by
  intro d; induction d with
  | zero =>
    intro i h0 hd hh
    refine Ev.step (f := fun k => land_Validate.l1 k 0 W H L) (fun k => ?_) hg
    simp only [land_Validate.l0]; rw [if_neg (by omega)]
  | succ d ih =>
    intro i h0 hd hh
    have h1 := hh i (by omega) (by omega)
    obtain ⟨K, hK⟩ := ih (i + 1) (by omega) (by omega) (fun j a b => hh j (by omega) b)
    refine ⟨K + 2, fun k hk => ?_⟩
    obtain ⟨k, rfl⟩ : ∃ m, k = m + 1 + 1 := ⟨k - 2, by omega⟩
    simp only [land_Validate.l0, land_Validate.j2]
    rw [if_pos (by omega), if_pos (by omega), if_pos (by omega), if_neg (by omega), if_neg (by simp; omega), w64_in (by omega) (by omega)]
    exact hK k (by omega)
theorem l0_no {W H : Int} {L : List Int} (hn : (L.length : Int) ≤ 1089) : ∀ (d : Nat) (i : Int), 0 ≤ i → i + d = L.length → (∃ j, i ≤ j ∧ j < (L.length : Int) ∧ ¬ (0 ≤ rd L j ∧ rd L j ≤ 15)) → Ev (fun k => land_Validate.l0 k L (L.length : Int) i W H L) 1 := by
  intro d; induction d with
  | zero => intro i h0 hd hh; obtain ⟨j, a, b, _⟩ := hh; omega
  | succ d ih =>
    intro i h0 hd hh
    by_cases h1 : 0 ≤ rd L i ∧ rd L i ≤ 15
    · obtain ⟨K, hK⟩ := ih (i + 1) (by omega) (by omega) (by
        obtain ⟨j, a, b, c⟩ := hh
        refine ⟨j, ?_, b, c⟩
        by_cases e : j = i
        · subst e; exact absurd h1 c
        · omega)
      refine ⟨K + 2, fun k hk => ?_⟩
      obtain ⟨k, rfl⟩ : ∃ m, k = m + 1 + 1 := ⟨k - 2, by omega⟩
      simp only [land_Validate.l0, land_Validate.j2]
      rw [if_pos (by omega), if_pos (by omega), if_pos (by omega), if_neg (by omega), if_neg (by simp; omega), w64_in (by omega) (by omega)]
      exact hK k (by omega)
    · refine ⟨2, fun k hk => ?_⟩
      obtain ⟨k, rfl⟩ : ∃ m, k = m + 1 + 1 := ⟨k - 2, by omega⟩
      simp only [land_Validate.l0, land_Validate.j2]
      rw [if_pos (by omega), if_pos (by omega), if_pos (by omega)]
      by_cases h2 : rd L i < 0
      · rw [if_pos h2, if_pos trivial]
      · rw [if_neg h2, if_pos (by simp; omega)]
theorem m0_ok {W H : Int} {L : List Int} {r : Int} (hn : (L.length : Int) ≤ 1089) (hg : Ev (fun k => hinterlandref02_Validate.l1 k L (L.length : Int) 0 W H L) r) : ∀ (d : Nat) (i : Int), 0 ≤ i → i + d = L.length → (∀ j, i ≤ j → j < (L.length : Int) → 0 ≤ rd L j ∧ rd L j ≤ 15) → Ev (fun k => hinterlandref02_Validate.l0 k L (L.length : Int) i W H L) r := by
  intro d; induction d with
  | zero =>
    intro i h0 hd hh
    refine Ev.step (f := fun k => hinterlandref02_Validate.l1 k L (L.length : Int) 0 W H L) (fun k => ?_) hg
    simp only [hinterlandref02_Validate.l0]; rw [if_neg (by omega)]
  | succ d ih =>
    intro i h0 hd hh
    have h1 := hh i (by omega) (by omega)
    obtain ⟨K, hK⟩ := ih (i + 1) (by omega) (by omega) (fun j a b => hh j (by omega) b)
    refine ⟨K + 2, fun k hk => ?_⟩
    obtain ⟨k, rfl⟩ : ∃ m, k = m + 1 + 1 := ⟨k - 2, by omega⟩
    simp only [hinterlandref02_Validate.l0, hinterlandref02_Validate.j2]
    rw [if_pos (by omega), if_pos (by omega), if_pos (by omega), if_neg (by omega), if_neg (by simp; omega), w64_in (by omega) (by omega)]
    exact hK k (by omega)
theorem m0_no {W H : Int} {L : List Int} (hn : (L.length : Int) ≤ 1089) : ∀ (d : Nat) (i : Int), 0 ≤ i → i + d = L.length → (∃ j, i ≤ j ∧ j < (L.length : Int) ∧ ¬ (0 ≤ rd L j ∧ rd L j ≤ 15)) → Ev (fun k => hinterlandref02_Validate.l0 k L (L.length : Int) i W H L) 1 := by
  intro d; induction d with
  | zero => intro i h0 hd hh; obtain ⟨j, a, b, _⟩ := hh; omega
  | succ d ih =>
    intro i h0 hd hh
    by_cases h1 : 0 ≤ rd L i ∧ rd L i ≤ 15
    · obtain ⟨K, hK⟩ := ih (i + 1) (by omega) (by omega) (by
        obtain ⟨j, a, b, c⟩ := hh
        refine ⟨j, ?_, b, c⟩
        by_cases e : j = i
        · subst e; exact absurd h1 c
        · omega)
      refine ⟨K + 2, fun k hk => ?_⟩
      obtain ⟨k, rfl⟩ : ∃ m, k = m + 1 + 1 := ⟨k - 2, by omega⟩
      simp only [hinterlandref02_Validate.l0, hinterlandref02_Validate.j2]
      rw [if_pos (by omega), if_pos (by omega), if_pos (by omega), if_neg (by omega), if_neg (by simp; omega), w64_in (by omega) (by omega)]
      exact hK k (by omega)
    · refine ⟨2, fun k hk => ?_⟩
      obtain ⟨k, rfl⟩ : ∃ m, k = m + 1 + 1 := ⟨k - 2, by omega⟩
      simp only [hinterlandref02_Validate.l0, hinterlandref02_Validate.j2]
      rw [if_pos (by omega), if_pos (by omega), if_pos (by omega)]
      by_cases h2 : rd L i < 0
      · rw [if_pos h2, if_pos trivial]
      · rw [if_neg h2, if_pos (by simp; omega)]
theorem row_ok {W H : Int} {L : List Int} (s : Sides W H L) (hh : Hts L) {y : Int} (y0 : 0 ≤ y) (y1 : y ≤ H) {P : Prop} (hn : Res (fun k => land_Validate.l1 k (y + 1) W H L) P) : ∀ (d : Nat) (x : Int), 0 ≤ x → x + d = W + 1 → Res (fun k => land_Validate.l2 k y x W H L) ((∀ x', x ≤ x' → x' ≤ W → cell W H L y x') ∧ P) := by
  obtain ⟨a, b, c, e, f⟩ := id s
  obtain ⟨l0, l1⟩ := len_le s
  obtain ⟨p0, p1⟩ := row_in (m := W + 1) y0 y1 (by omega)
  intro d; induction d with
  | zero =>
    intro x h0 hd
    obtain ⟨r, ⟨K, hK⟩, hr, hi⟩ := hn
    refine ⟨r, ⟨K + 1, fun k hk => ?_⟩, hr, by rw [hi]; exact ⟨fun h => ⟨fun x' h1 h2 => by omega, h⟩, fun h => h.2⟩⟩
    obtain ⟨k, rfl⟩ : ∃ m, k = m + 1 := ⟨k - 1, by omega⟩
    simp only [land_Validate.l2]
    rw [if_neg (by omega), w64_in (by omega) (by omega)]
    exact hK k (by omega)
  | succ d ih =>
    intro x h0 hd
    obtain ⟨r, ⟨K, hK⟩, hr, hi⟩ := ih (x + 1) (by omega) (by omega)
    have ep : (y + 1) * (W + 1) = y * (W + 1) + (W + 1) := by rw [Int.add_mul, Int.one_mul]
    have hc : cell W H L y x ↔ ((x < W → near (rd L (y * (W + 1) + x)) (rd L (y * (W + 1) + x + 1))) ∧ (y < H → near (rd L (y * (W + 1) + x)) (rd L (y * (W + 1) + (W + 1) + x)))) := by unfold cell; rw [ep]
    have hq : y < H → y * (W + 1) + (W + 1) + (W + 1) ≤ (H + 1) * (W + 1) := fun h => by
      have := (row_in (m := W + 1) (show 0 ≤ y + 1 by omega) (show y + 1 ≤ H by omega) (by omega)).2; omega
    have go : ∀ k, land_Validate.l2 (k + 1 + 1) y x W H L = if cell W H L y x then land_Validate.l2 k y (x + 1) W H L else some 5 := by
      intro k
      simp only [land_Validate.l2, land_Validate.j5]
      rw [w64_in (x := W + 1) (by omega) (by omega), w64_in (x := y + 1) (by omega) (by omega), ep]
      generalize y * (W + 1) = p at *
      rw [w64_in (x := p) (by omega) (by omega), w64_in (x := p + (W + 1)) (by omega) (by omega), w64_in (x := p + (W + 1) + x) (by omega) (by omega), w64_in (x := p + x) (by omega) (by omega), w64_in (x := p + x + 1) (by omega) (by omega), w64_in (x := x + 1) (by omega) (by omega)]
      rw [if_pos (by omega), if_pos (by omega), if_pos (by omega)]
      by_cases hx : x < W
      · rw [if_pos hx, if_pos (by omega), if_pos (by omega), apart_ok (hh _ (by omega) (by omega)) (hh _ (by omega) (by omega))]
        simp only [Option.bind_some]
        by_cases h1 : near (rd L (p + x)) (rd L (p + x + 1))
        · rw [if_neg (by simpa using h1)]
          by_cases hy : y < H
          · have := hq hy
            rw [if_pos hy, if_pos (by omega), if_pos (by omega), apart_ok (hh _ (by omega) (by omega)) (hh _ (by omega) (by omega))]
            simp only [Option.bind_some]
            by_cases h2 : near (rd L (p + x)) (rd L (p + (W + 1) + x))
            · rw [if_neg (by simpa using h2), if_pos (hc.2 ⟨fun _ => h1, fun _ => h2⟩)]
            · rw [if_pos (by simpa using h2), if_neg (fun h => h2 ((hc.1 h).2 hy))]
          · rw [if_neg hy, if_neg (by simp), if_pos (hc.2 ⟨fun _ => h1, fun h => absurd h hy⟩)]
        · rw [if_pos (by simpa using h1), if_pos trivial, if_neg (fun h => h1 ((hc.1 h).1 hx))]
      · rw [if_neg hx]
        by_cases hy : y < H
        · have := hq hy
          rw [if_pos hy, if_pos (by omega), if_pos (by omega), apart_ok (hh _ (by omega) (by omega)) (hh _ (by omega) (by omega))]
          simp only [Option.bind_some]
          by_cases h2 : near (rd L (p + x)) (rd L (p + (W + 1) + x))
          · rw [if_neg (by simpa using h2), if_pos (hc.2 ⟨fun h => absurd h hx, fun _ => h2⟩)]
          · rw [if_pos (by simpa using h2), if_neg (fun h => h2 ((hc.1 h).2 hy))]
        · rw [if_neg hy, if_neg (by simp), if_pos (hc.2 ⟨fun h => absurd h hx, fun h => absurd h hy⟩)]
    by_cases hcell : cell W H L y x
    · refine ⟨r, ⟨K + 2, fun k hk => ?_⟩, hr, ?_⟩
      · obtain ⟨k, rfl⟩ : ∃ m, k = m + 1 + 1 := ⟨k - 2, by omega⟩
        show land_Validate.l2 (k + 1 + 1) y x W H L = _
        rw [go, if_pos hcell]; exact hK k (by omega)
      · rw [hi]
        refine ⟨fun h => ⟨fun x' h1 h2 => ?_, h.2⟩, fun h => ⟨fun x' h1 h2 => h.1 x' (by omega) h2, h.2⟩⟩
        by_cases e : x' = x
        · subst e; exact hcell
        · exact h.1 x' (by omega) h2
    · refine ⟨5, ⟨2, fun k hk => ?_⟩, Or.inr rfl, ?_⟩
      · obtain ⟨k, rfl⟩ : ∃ m, k = m + 1 + 1 := ⟨k - 2, by omega⟩
        show land_Validate.l2 (k + 1 + 1) y x W H L = _
        rw [go, if_neg hcell]
      · exact ⟨fun h => absurd h (by decide), fun h => absurd (h.1 x (by omega) (by omega)) hcell⟩
theorem rows_ok {W H : Int} {L : List Int} (s : Sides W H L) (hh : Hts L) : ∀ (d : Nat) (y : Int), 0 ≤ y → y + d = H + 1 → Res (fun k => land_Validate.l1 k y W H L) (∀ y' x', y ≤ y' → y' ≤ H → 0 ≤ x' → x' ≤ W → cell W H L y' x') := by
  obtain ⟨a, b, c, e, f⟩ := id s
  intro d; induction d with
  | zero =>
    intro y h0 hd
    refine ⟨0, ⟨1, fun k hk => ?_⟩, Or.inl rfl, ⟨fun _ y' x' h1 h2 => by omega, fun _ => rfl⟩⟩
    obtain ⟨k, rfl⟩ : ∃ m, k = m + 1 := ⟨k - 1, by omega⟩
    simp only [land_Validate.l1]
    rw [if_neg (by omega)]
  | succ d ih =>
    intro y h0 hd
    obtain ⟨r, ⟨K, hK⟩, hr, hi⟩ := row_ok s hh h0 (by omega) (ih (y + 1) (by omega) (by omega)) (W + 1).toNat 0 (by omega) (by omega)
    refine ⟨r, ⟨K + 1, fun k hk => ?_⟩, hr, ?_⟩
    · obtain ⟨k, rfl⟩ : ∃ m, k = m + 1 := ⟨k - 1, by omega⟩
      simp only [land_Validate.l1]
      rw [if_pos (by omega)]
      exact hK k (by omega)
    · rw [hi]
      refine ⟨fun h y' x' h1 h2 h3 h4 => ?_, fun h => ⟨fun x' h1 h2 => h y x' (by omega) (by omega) h1 h2, fun y' x' h1 h2 h3 h4 => h y' x' (by omega) h2 h3 h4⟩⟩
      by_cases e : y' = y
      · subst e; exact h.1 x' h3 h4
      · exact h.2 y' x' (by omega) h2 h3 h4
theorem mx_le {a b : Int} : mx (a - b) (b - a) > 1 ↔ ¬ near a b := by unfold mx near; split <;> omega
theorem places_ok {W H : Int} {L : List Int} (s : Sides W H L) (hh : Hts L) : ∀ (d : Nat) (i : Int), 0 ≤ i → i + d = L.length → Res (fun k => hinterlandref02_Validate.l1 k L (L.length : Int) i W H L) (∀ j, i ≤ j → j < (L.length : Int) → place W L j) := by
  obtain ⟨a, b, c, e, f⟩ := id s
  obtain ⟨l0, l1⟩ := len_le s
  intro d; induction d with
  | zero =>
    intro i h0 hd
    refine ⟨0, ⟨1, fun k hk => ?_⟩, Or.inl rfl, ⟨fun _ j h1 h2 => by omega, fun _ => rfl⟩⟩
    obtain ⟨k, rfl⟩ : ∃ m, k = m + 1 := ⟨k - 1, by omega⟩
    simp only [hinterlandref02_Validate.l1]
    rw [if_neg (by omega)]
  | succ d ih =>
    intro i h0 hd
    obtain ⟨r, ⟨K, hK⟩, hr, hi⟩ := ih (i + 1) (by omega) (by omega)
    have hm : i % (W + 1) ≤ i := by
      have h1 := Int.mul_ediv_add_emod i (W + 1)
      have h2 := Int.mul_nonneg (show 0 ≤ W + 1 by omega) (Int.ediv_nonneg h0 (show 0 ≤ W + 1 by omega))
      omega
    have ap : ∀ u v, 0 ≤ u → u < (L.length : Int) → 0 ≤ v → v < (L.length : Int) → hinterlandref02_Apart.f (rd L u) (rd L v) = some (mx (rd L u - rd L v) (rd L v - rd L u)) := fun u v h1 h2 h3 h4 => Apart_ok (by have := hh u h1 h2; omega) (by have := hh v h3 h4; omega)
    have go : ∀ k, hinterlandref02_Validate.l1 (k + 1 + 1) L (L.length : Int) i W H L = if place W L i then hinterlandref02_Validate.l1 k L (L.length : Int) (i + 1) W H L else some 5 := by
      intro k
      simp only [hinterlandref02_Validate.l1, hinterlandref02_Validate.j4]
      rw [w64_in (x := W + 1) (by omega) (by omega), w64_in (x := i - W) (by omega) (by omega), w64_in (x := i - W - 1) (by omega) (by omega), w64_in (x := i - 1) (by omega) (by omega), w64_in (x := i + 1) (by omega) (by omega)]
      rw [Int.tmod_eq_emod_of_nonneg h0, if_pos (by omega), if_pos (by omega), if_pos (by omega), if_neg (by omega)]
      by_cases hx : 0 < i % (W + 1)
      · rw [if_pos hx, if_pos (by omega), if_pos (by omega), ap _ _ (by omega) (by omega) (by omega) (by omega)]
        simp only [Option.bind_some]
        by_cases h1 : near (rd L i) (rd L (i - 1))
        · rw [if_neg (fun h => mx_le.1 h h1)]
          by_cases hy : W < i
          · rw [if_pos hy, if_pos (by omega), if_pos (by omega), ap _ _ (by omega) (by omega) (by omega) (by omega)]
            simp only [Option.bind_some]
            by_cases h2 : near (rd L i) (rd L (i - W - 1))
            · rw [if_neg (by simpa using fun h => mx_le.1 h h2), if_pos ⟨fun _ => h1, fun _ => h2⟩]
            · rw [if_pos (by simpa using mx_le.2 h2), if_neg (fun h => h2 (h.2 hy))]
          · rw [if_neg hy, if_neg (by simp), if_pos ⟨fun _ => h1, fun h => absurd h hy⟩]
        · rw [if_pos (mx_le.2 h1), if_pos trivial, if_neg (fun h => h1 (h.1 hx))]
      · rw [if_neg hx]
        by_cases hy : W < i
        · rw [if_pos hy, if_pos (by omega), if_pos (by omega), ap _ _ (by omega) (by omega) (by omega) (by omega)]
          simp only [Option.bind_some]
          by_cases h2 : near (rd L i) (rd L (i - W - 1))
          · rw [if_neg (by simpa using fun h => mx_le.1 h h2), if_pos ⟨fun h => absurd h hx, fun _ => h2⟩]
          · rw [if_pos (by simpa using mx_le.2 h2), if_neg (fun h => h2 (h.2 hy))]
        · rw [if_neg hy, if_neg (by simp), if_pos ⟨fun h => absurd h hx, fun h => absurd h hy⟩]
    by_cases hcell : place W L i
    · refine ⟨r, ⟨K + 2, fun k hk => ?_⟩, hr, ?_⟩
      · obtain ⟨k, rfl⟩ : ∃ m, k = m + 1 + 1 := ⟨k - 2, by omega⟩
        show hinterlandref02_Validate.l1 (k + 1 + 1) L (L.length : Int) i W H L = _
        rw [go, if_pos hcell]; exact hK k (by omega)
      · rw [hi]
        refine ⟨fun h x' h1 h2 => ?_, fun h x' h1 h2 => h x' (by omega) h2⟩
        by_cases e : x' = i
        · subst e; exact hcell
        · exact h x' (by omega) h2
    · refine ⟨5, ⟨2, fun k hk => ?_⟩, Or.inr rfl, ?_⟩
      · obtain ⟨k, rfl⟩ : ∃ m, k = m + 1 + 1 := ⟨k - 2, by omega⟩
        show hinterlandref02_Validate.l1 (k + 1 + 1) L (L.length : Int) i W H L = _
        rw [go, if_neg hcell]
      · exact ⟨fun h => absurd h (by decide), fun h => absurd (h i (by omega) (by omega)) hcell⟩
theorem near_comm {a b : Int} : near a b ↔ near b a := by unfold near; omega
theorem steps_places {W H : Int} {L : List Int} (s : Sides W H L) : (∀ y' x', 0 ≤ y' → y' ≤ H → 0 ≤ x' → x' ≤ W → cell W H L y' x') ↔ (∀ j, 0 ≤ j → j < (L.length : Int) → place W L j) := by
  obtain ⟨a, b, c, e, f⟩ := id s
  constructor
  · intro h j j0 j1
    have hx0 := Int.emod_nonneg j (show W + 1 ≠ 0 by omega)
    have hx1 := Int.emod_lt_of_pos j (show 0 < W + 1 by omega)
    have hd := Int.mul_ediv_add_emod j (W + 1)
    have hy0 : 0 ≤ j / (W + 1) := Int.ediv_nonneg j0 (by omega)
    have hy1 : j / (W + 1) ≤ H := by
      have : j / (W + 1) < H + 1 := Int.ediv_lt_of_lt_mul (by omega) (by omega)
      omega
    rw [Int.mul_comm] at hd
    generalize hy : j / (W + 1) = y at *
    generalize hx : j % (W + 1) = x at *
    have ep : (y - 1) * (W + 1) = y * (W + 1) - (W + 1) := by rw [Int.sub_mul, Int.one_mul]
    refine ⟨fun g => ?_, fun g => ?_⟩
    · rw [hx] at g
      have := (h y (x - 1) hy0 hy1 (by omega) (by omega)).1 (by omega)
      rw [show y * (W + 1) + (x - 1) = j - 1 by omega, show j - 1 + 1 = j by omega] at this
      exact near_comm.1 this
    · have hyp : 1 ≤ y := by
        by_cases h0 : y = 0
        · subst h0; omega
        · omega
      have := (h (y - 1) x (by omega) (by omega) (by omega) (by omega)).2 (by omega)
      rw [ep, show y - 1 + 1 = y by omega, show y * (W + 1) - (W + 1) + x = j - W - 1 by omega, show y * (W + 1) + x = j by omega] at this
      exact near_comm.1 this
  · intro h y x y0 y1 x0 x1
    have ep : (y + 1) * (W + 1) = y * (W + 1) + (W + 1) := by rw [Int.add_mul, Int.one_mul]
    obtain ⟨p0, p1⟩ := row_in (m := W + 1) y0 y1 (by omega)
    refine ⟨fun g => ?_, fun g => ?_⟩
    · have := (h (y * (W + 1) + x + 1) (by omega) (by omega)).1 (by
        rw [show y * (W + 1) + x + 1 = (x + 1) + y * (W + 1) by omega, Int.add_mul_emod_self_right, Int.emod_eq_of_lt (by omega) (by omega)]; omega)
      rw [show y * (W + 1) + x + 1 - 1 = y * (W + 1) + x by omega] at this
      exact near_comm.1 this
    · have q := (row_in (m := W + 1) (show 0 ≤ y + 1 by omega) (show y + 1 ≤ H by omega) (by omega)).2
      have := (h ((y + 1) * (W + 1) + x) (by omega) (by omega)).2 (by omega)
      rw [show (y + 1) * (W + 1) + x - W - 1 = y * (W + 1) + x by omega] at this
      exact near_comm.1 this
/-- Both say the same of a land, and 0 just of a valid one. -/
theorem validate_ok (W H : Int) (L : List Int) : ∃ r, Ev (fun k => land_Validate.f k W H L) r ∧ Ev (fun k => hinterlandref02_Validate.f k W H L) r ∧ (r = 0 ↔ Valid W H L) := by
  by_cases s : Sides W H L
  · obtain ⟨a, b, c, e, f⟩ := id s
    obtain ⟨n0, n1⟩ := len_le s
    have hlen : wrap64 (wrap64 (W + 1) * wrap64 (H + 1)) = (L.length : Int) := by
      rw [w64_in (x := W + 1) (by omega) (by omega), w64_in (x := H + 1) (by omega) (by omega), Int.mul_comm, ← f]
      exact w64_in (by omega) (by omega)
    have hA : ∀ k, land_Validate.f (k + 1) W H L = land_Validate.l0 k L (L.length : Int) 0 W H L := by
      intro k
      unfold land_Validate.f
      rw [if_neg (by omega), if_neg (by omega), if_neg (by omega), if_neg (by omega), hlen]
      simp only [land_Validate.j0]
      rw [if_neg (by simp)]
    have hB : ∀ k, hinterlandref02_Validate.f (k + 1) W H L = hinterlandref02_Validate.l0 k L (L.length : Int) 0 W H L := by
      intro k
      unfold hinterlandref02_Validate.f hinterlandref02_side.f
      rw [if_pos (by omega), if_pos (by omega), hlen]
      simp only [Option.bind_some]
      rw [if_pos (by simp; omega), if_pos (by simp; omega)]
      simp only [hinterlandref02_Validate.j0]
      rw [if_neg (by simp)]
    by_cases hh : Hts L
    · obtain ⟨r, h1, h2, h3⟩ := rows_ok s hh (H + 1).toNat 0 (by omega) (by omega)
      obtain ⟨r', h1', h2', h3'⟩ := places_ok s hh L.length 0 (by omega) (by omega)
      have hs := steps_places s
      have er : r = r' := by
        have : r = 0 ↔ r' = 0 := by rw [h3, h3', hs]
        omega
      subst er
      refine ⟨r, Ev.step hA (l0_ok n1 h1 L.length 0 (by omega) (by omega) (fun j => hh j)), Ev.step hB (m0_ok n1 h1' L.length 0 (by omega) (by omega) (fun j => hh j)), ?_⟩
      rw [h3]
      exact ⟨fun h => ⟨s, hh, fun y x a b c d => h y x a b c d⟩, fun h => fun y x a b c d => h.2.2 y x a b c d⟩
    · have hx : ∃ j, 0 ≤ j ∧ j < (L.length : Int) ∧ ¬ (0 ≤ rd L j ∧ rd L j ≤ 15) := by
        refine Classical.byContradiction fun h => hh fun i h0 h1 => ?_
        exact Classical.byContradiction fun h' => h ⟨i, h0, h1, h'⟩
      exact ⟨1, Ev.step hA (l0_no n1 L.length 0 (by omega) (by omega) hx), Ev.step hB (m0_no n1 L.length 0 (by omega) (by omega) hx), ⟨fun h => absurd h (by decide), fun h => absurd h.2.1 hh⟩⟩
  · refine ⟨1, ⟨1, fun k hk => ?_⟩, ⟨1, fun k hk => ?_⟩, ⟨fun h => absurd h (by decide), fun h => absurd h.1 s⟩⟩
    · obtain ⟨k, rfl⟩ : ∃ m, k = m + 1 := ⟨k - 1, by omega⟩
      unfold land_Validate.f
      simp only [land_Validate.j0]
      by_cases h1 : W < 4
      · rw [if_pos h1, if_pos trivial]
      by_cases h2 : W > 32
      · rw [if_neg h1, if_pos h2, if_pos trivial]
      by_cases h3 : H < 4
      · rw [if_neg h1, if_neg h2, if_pos h3, if_pos trivial]
      by_cases h4 : H > 32
      · rw [if_neg h1, if_neg h2, if_neg h3, if_pos h4, if_pos trivial]
      rw [if_neg h1, if_neg h2, if_neg h3, if_neg h4, if_pos]
      simp only [bne_iff_ne]
      intro h5
      refine s ⟨by omega, by omega, by omega, by omega, ?_⟩
      rw [h5, w64_in (x := W + 1) (by omega) (by omega), w64_in (x := H + 1) (by omega) (by omega), Int.mul_comm]
      have := Int.mul_le_mul (show H + 1 ≤ 33 by omega) (show W + 1 ≤ 33 by omega) (by omega) (by omega)
      have := Int.mul_nonneg (show 0 ≤ H + 1 by omega) (show 0 ≤ W + 1 by omega)
      exact w64_in (by omega) (by omega)
    · obtain ⟨k, rfl⟩ : ∃ m, k = m + 1 := ⟨k - 1, by omega⟩
      unfold hinterlandref02_Validate.f hinterlandref02_side.f
      simp only [hinterlandref02_Validate.j0]
      by_cases h1 : W ≥ 4
      · by_cases h2 : W ≤ 32
        · by_cases h3 : H ≥ 4
          · by_cases h4 : H ≤ 32
            · simp only [h1, h2, h3, h4, if_true, Option.bind_some, decide_true]
              rw [if_pos]
              simp only [bne_iff_ne]
              intro h5
              refine s ⟨by omega, by omega, by omega, by omega, ?_⟩
              rw [h5, w64_in (x := W + 1) (by omega) (by omega), w64_in (x := H + 1) (by omega) (by omega), Int.mul_comm]
              have := Int.mul_le_mul (show H + 1 ≤ 33 by omega) (show W + 1 ≤ 33 by omega) (by omega) (by omega)
              have := Int.mul_nonneg (show 0 ≤ H + 1 by omega) (show 0 ≤ W + 1 by omega)
              exact w64_in (by omega) (by omega)
            · simp [h1, h2, h3, h4]
          · simp [h1, h2, h3]
        · simp [h1, h2]
      · simp [h1]
end Go.Proofs.Ytchflcnegpnkkaa.Val
namespace Go.Proofs.Ytchflcnegpnkkaa.Known
open Go.RowKit Go.Proofs.YtchflcnegpnkkaaOwn Go.Proofs.Ytchflcnegpnkkaa.Q Go.Proofs.YtchflcnegpnkkaaW.PrintWords Go.Proofs.YtchflcnegpnkkaaW.PrintLast
theorem known_ev : Ev (fun k => hinterlandlaw02_known.f k) true := Ev.of hinterlandlaw02_known.mono (k := 200) (by decide +kernel)
theorem large0 (a b : Int) (L : List Int) : ∀ k, hinterlandlaw02_large.f (k + 1) a b L ([] : List (List Int)) = some (decide ((L.length : Int) > 4000)) := by
  intro k
  unfold hinterlandlaw02_large.f
  simp only [hinterlandlaw02_large.l0]
  rw [if_neg (by simp)]
theorem large0_ev (a b : Int) (L : List Int) : Ev (fun k => hinterlandlaw02_large.f k a b L ([] : List (List Int))) (decide ((L.length : Int) > 4000)) := Ev.step (large0 a b L) (Ev.now _)
end Go.Proofs.Ytchflcnegpnkkaa.Known
namespace Go.Proofs.Ytchflcnegpnkkaa.Til
open Go.RowKit Go.Proofs.YtchflcnegpnkkaaOwn Go.Proofs.Ytchflcnegpnkkaa.Q Go.Proofs.Ytchflcnegpnkkaa.Val Go.Proofs.YtchflcnegpnkkaaW.PrintWords Go.Proofs.YtchflcnegpnkkaaW.PrintLast
def isT (W H t : Int) : Prop := 0 ≤ t ∧ t < W * H
instance (W H t : Int) : Decidable (isT W H t) := by unfold isT; infer_instance
def pl (W t : Int) : Int := t / W * (W + 1) + t % W
theorem area {W H : Int} {L : List Int} (s : Sides W H L) : wrap64 (W * H) = W * H := by
  obtain ⟨a, b, c, e, f⟩ := s
  have h1 := Int.mul_le_mul b e (by omega) (by omega)
  have h2 := Int.mul_nonneg (show 0 ≤ W by omega) (show 0 ≤ H by omega)
  exact w64_in (by omega) (by omega)
theorem isTile_ok {W H : Int} {L : List Int} (s : Sides W H L) (t : Int) : land_isTile.f W H L t = some (decide (isT W H t)) := by
  unfold land_isTile.f
  rw [area s]
  by_cases h : t ≥ 0
  · rw [if_pos h]; exact congrArg some (decide_eq_decide.mpr ⟨fun a => ⟨h, a⟩, fun a => a.2⟩)
  · rw [if_neg h]; exact congrArg some (decide_eq_false (fun a => h a.1)).symm
theorem Is_ok {W H : Int} {L : List Int} (s : Sides W H L) (t : Int) : hinterlandref02_Is.f W H L t = some (decide (isT W H t)) := isTile_ok s t
theorem tile_xy {W H : Int} {L : List Int} (s : Sides W H L) {t : Int} (ht : isT W H t) : 0 ≤ t / W ∧ t / W < H ∧ 0 ≤ t % W ∧ t % W < W ∧ t / W * W + t % W = t := by
  obtain ⟨a, b, c, e, f⟩ := s
  obtain ⟨h0, h1⟩ := ht
  refine ⟨Int.ediv_nonneg h0 (by omega), Int.ediv_lt_of_lt_mul (by omega) (by rw [Int.mul_comm]; exact h1), Int.emod_nonneg t (by omega), Int.emod_lt_of_pos t (by omega), ?_⟩
  rw [Int.mul_comm]; exact Int.mul_ediv_add_emod t W
theorem pl_in {W H : Int} {L : List Int} (s : Sides W H L) {t : Int} (ht : isT W H t) : 0 ≤ pl W t ∧ pl W t + W + 2 < (L.length : Int) := by
  obtain ⟨y0, y1, x0, x1, _⟩ := tile_xy s ht
  obtain ⟨a, b, c, e, f⟩ := s
  unfold pl
  have h1 := row_in (m := W + 1) (show 0 ≤ t / W + 1 by omega) (show t / W + 1 ≤ H by omega) (by omega)
  have h2 := row_in (m := W + 1) y0 (show t / W ≤ H by omega) (by omega)
  have ep : (t / W + 1) * (W + 1) = t / W * (W + 1) + (W + 1) := by rw [Int.add_mul, Int.one_mul]
  omega
theorem pl_wrap {W H : Int} {L : List Int} (s : Sides W H L) {t : Int} (ht : isT W H t) : wrap64 (wrap64 (wrap64 (Int.tdiv t W) * wrap64 (W + 1)) + Int.tmod t W) = pl W t := by
  obtain ⟨y0, y1, x0, x1, _⟩ := tile_xy s ht
  obtain ⟨i0, i1⟩ := pl_in s ht
  obtain ⟨l0, l1⟩ := len_le s
  obtain ⟨a, b, c, e, f⟩ := s
  have h2 := row_in (m := W + 1) y0 (show t / W ≤ H by omega) (by omega)
  rw [Int.tdiv_eq_ediv_of_nonneg ht.1, Int.tmod_eq_emod_of_nonneg ht.1, w64_in (x := t / W) (by omega) (by omega), w64_in (x := W + 1) (by omega) (by omega), w64_in (x := t / W * (W + 1)) (by omega) (by omega)]
  exact w64_in (x := pl W t) (by omega) (by omega)
theorem places_ok {W H : Int} {L : List Int} (s : Sides W H L) {t : Int} (ht : isT W H t) : hinterlandref02_Places.f W H L t = some (pl W t, pl W t + 1, pl W t + W + 2, pl W t + W + 1) := by
  have hw := pl_wrap s ht
  obtain ⟨i0, i1⟩ := pl_in s ht
  obtain ⟨l0, l1⟩ := len_le s
  obtain ⟨a, b, c, e, f⟩ := s
  unfold hinterlandref02_Places.f
  rw [if_neg (by omega), hw, w64_in (x := pl W t + 1) (by omega) (by omega), w64_in (x := pl W t + W) (by omega) (by omega), w64_in (x := pl W t + W + 2) (by omega) (by omega), w64_in (x := pl W t + W + 1) (by omega) (by omega)]
theorem four_ok {W H : Int} {L M : List Int} (s : Sides W H L) (hm : M.length = L.length) {t : Int} (ht : isT W H t) : land_four.f W H M t = some (rd M (pl W t), rd M (pl W t + 1), rd M (pl W t + W + 2), rd M (pl W t + W + 1)) := by
  have hw := pl_wrap s ht
  obtain ⟨i0, i1⟩ := pl_in s ht
  obtain ⟨l0, l1⟩ := len_le s
  obtain ⟨a, b, c, e, f⟩ := s
  unfold land_four.f
  rw [if_neg (by omega), hw, w64_in (x := pl W t + 1) (by omega) (by omega), w64_in (x := pl W t + W) (by omega) (by omega), w64_in (x := pl W t + W + 2) (by omega) (by omega), w64_in (x := pl W t + W + 1) (by omega) (by omega), hm]
  rw [if_pos (by omega), if_pos (by omega), if_pos (by omega), if_pos (by omega), if_pos (by omega), if_pos (by omega), if_pos (by omega), if_pos (by omega)]
end Go.Proofs.Ytchflcnegpnkkaa.Til
namespace Go.Proofs.Ytchflcnegpnkkaa.Shi
open Go.RowKit Go.Proofs.YtchflcnegpnkkaaOwn Go.Proofs.Ytchflcnegpnkkaa.Q Go.Proofs.Ytchflcnegpnkkaa.Val Go.Proofs.Ytchflcnegpnkkaa.Til Go.Proofs.YtchflcnegpnkkaaW.PrintWords Go.Proofs.YtchflcnegpnkkaaW.PrintLast
/-- The steps between two corners. -/
def dist (W x y i : Int) : Int := mx (x - i % (W + 1)) (i % (W + 1) - x) + mx (y - i / (W + 1)) (i / (W + 1) - y)
/-- What a corner becomes. -/
def nv (W x y z : Int) (up : Bool) (L : List Int) (i : Int) : Int := if up = true then mx (rd L i) (z - dist W x y i) else mn (rd L i) (z + dist W x y i)
/-- What was changed, as the lists tell it. -/
structure Told (W : Int) (ch : Int → Prop) (C : List S36) (i : Int) : Prop where
  len : (C.length : Int) ≤ i
  each : ∀ j : Int, 0 ≤ j → j < (C.length : Int) → ∃ q : Int, 0 ≤ q ∧ q < i ∧ ch q ∧ (rd_T36 C j).f0 = q % (W + 1) ∧ (rd_T36 C j).f1 = q / (W + 1)
  all : ∀ q : Int, 0 ≤ q → q < i → ch q → ∃ j : Int, 0 ≤ j ∧ j < (C.length : Int) ∧ (rd_T36 C j).f0 = q % (W + 1) ∧ (rd_T36 C j).f1 = q / (W + 1)
theorem Told.same {W : Int} {ch : Int → Prop} {C : List S36} {i : Int} (t : Told W ch C i) (h : ¬ ch i) : Told W ch C (i + 1) := by
  refine ⟨by have := t.len; omega, fun j a b => ?_, fun q a b c => ?_⟩
  · obtain ⟨q, q0, q1, r⟩ := t.each j a b; exact ⟨q, q0, by omega, r⟩
  · by_cases e : q = i
    · subst e; exact absurd c h
    · exact t.all q a (by omega) c
theorem rd_app {N : List Int} {v j : Int} (h0 : 0 ≤ j) (h : j < (N.length : Int)) : rd (N ++ [v]) j = rd N j := by
  unfold rd
  rw [List.getD_eq_getElem?_getD, List.getD_eq_getElem?_getD, List.getElem?_append_left (by omega)]
theorem rd_end {N : List Int} {v : Int} : rd (N ++ [v]) (N.length : Int) = v := by unfold rd; simp
theorem drop_at {L : List Int} {i : Int} (h0 : 0 ≤ i) (h : i < (L.length : Int)) : L.drop i.toNat = rd L i :: L.drop (i.toNat + 1) := by
  unfold rd
  rw [List.drop_eq_getElem_cons (by omega), List.getD_eq_getElem?_getD, List.getElem?_eq_getElem (by omega)]; rfl
end Go.Proofs.Ytchflcnegpnkkaa.Shi
namespace Go.Proofs.Ytchflcnegpnkkaa.Tile
open Go.RowKit Go.Proofs.YtchflcnegpnkkaaOwn Go.Proofs.Ytchflcnegpnkkaa.Q Go.Proofs.Ytchflcnegpnkkaa.Val Go.Proofs.YtchflcnegpnkkaaW.PrintWords Go.Proofs.YtchflcnegpnkkaaW.PrintLast
def isT (W H t : Int) : Prop := 0 ≤ t ∧ t < W * H
instance (W H t : Int) : Decidable (isT W H t) := by unfold isT; infer_instance
def pl (W t : Int) : Int := t / W * (W + 1) + t % W
theorem area {W H : Int} {L : List Int} (s : Sides W H L) : wrap64 (W * H) = W * H := by
  obtain ⟨a, b, c, e, f⟩ := s
  have h1 := Int.mul_le_mul b e (by omega) (by omega)
  have h2 := Int.mul_nonneg (show 0 ≤ W by omega) (show 0 ≤ H by omega)
  exact w64_in (by omega) (by omega)
theorem isTile_ok {W H : Int} {L : List Int} (s : Sides W H L) (t : Int) : land_isTile.f W H L t = some (decide (isT W H t)) := by
  unfold land_isTile.f
  rw [area s]
  by_cases h : t ≥ 0
  · rw [if_pos h]; exact congrArg some (decide_eq_decide.mpr ⟨fun a => ⟨h, a⟩, fun a => a.2⟩)
  · rw [if_neg h]; exact congrArg some (decide_eq_false (fun a => h a.1)).symm
theorem Is_ok {W H : Int} {L : List Int} (s : Sides W H L) (t : Int) : hinterlandref02_Is.f W H L t = some (decide (isT W H t)) := isTile_ok s t
theorem tile_xy {W H : Int} {L : List Int} (s : Sides W H L) {t : Int} (ht : isT W H t) : 0 ≤ t / W ∧ t / W < H ∧ 0 ≤ t % W ∧ t % W < W ∧ t / W * W + t % W = t := by
  obtain ⟨a, b, c, e, f⟩ := s
  obtain ⟨h0, h1⟩ := ht
  refine ⟨Int.ediv_nonneg h0 (by omega), Int.ediv_lt_of_lt_mul (by omega) (by rw [Int.mul_comm]; exact h1), Int.emod_nonneg t (by omega), Int.emod_lt_of_pos t (by omega), ?_⟩
  rw [Int.mul_comm]; exact Int.mul_ediv_add_emod t W
theorem pl_in {W H : Int} {L : List Int} (s : Sides W H L) {t : Int} (ht : isT W H t) : 0 ≤ pl W t ∧ pl W t + W + 2 < (L.length : Int) := by
  obtain ⟨y0, y1, x0, x1, _⟩ := tile_xy s ht
  obtain ⟨a, b, c, e, f⟩ := s
  unfold pl
  have h1 := row_in (m := W + 1) (show 0 ≤ t / W + 1 by omega) (show t / W + 1 ≤ H by omega) (by omega)
  have h2 := row_in (m := W + 1) y0 (show t / W ≤ H by omega) (by omega)
  have ep : (t / W + 1) * (W + 1) = t / W * (W + 1) + (W + 1) := by rw [Int.add_mul, Int.one_mul]
  omega
theorem pl_wrap {W H : Int} {L : List Int} (s : Sides W H L) {t : Int} (ht : isT W H t) : wrap64 (wrap64 (wrap64 (Int.tdiv t W) * wrap64 (W + 1)) + Int.tmod t W) = pl W t := by
  obtain ⟨y0, y1, x0, x1, _⟩ := tile_xy s ht
  obtain ⟨i0, i1⟩ := pl_in s ht
  obtain ⟨l0, l1⟩ := len_le s
  obtain ⟨a, b, c, e, f⟩ := s
  have h2 := row_in (m := W + 1) y0 (show t / W ≤ H by omega) (by omega)
  rw [Int.tdiv_eq_ediv_of_nonneg ht.1, Int.tmod_eq_emod_of_nonneg ht.1, w64_in (x := t / W) (by omega) (by omega), w64_in (x := W + 1) (by omega) (by omega), w64_in (x := t / W * (W + 1)) (by omega) (by omega)]
  exact w64_in (x := pl W t) (by omega) (by omega)
theorem places_ok {W H : Int} {L : List Int} (s : Sides W H L) {t : Int} (ht : isT W H t) : hinterlandref02_Places.f W H L t = some (pl W t, pl W t + 1, pl W t + W + 2, pl W t + W + 1) := by
  have hw := pl_wrap s ht
  obtain ⟨i0, i1⟩ := pl_in s ht
  obtain ⟨l0, l1⟩ := len_le s
  obtain ⟨a, b, c, e, f⟩ := s
  unfold hinterlandref02_Places.f
  rw [if_neg (by omega), hw, w64_in (x := pl W t + 1) (by omega) (by omega), w64_in (x := pl W t + W) (by omega) (by omega), w64_in (x := pl W t + W + 2) (by omega) (by omega), w64_in (x := pl W t + W + 1) (by omega) (by omega)]
theorem four_ok {W H : Int} {L M : List Int} (s : Sides W H L) (hm : M.length = L.length) {t : Int} (ht : isT W H t) : land_four.f W H M t = some (rd M (pl W t), rd M (pl W t + 1), rd M (pl W t + W + 2), rd M (pl W t + W + 1)) := by
  have hw := pl_wrap s ht
  obtain ⟨i0, i1⟩ := pl_in s ht
  obtain ⟨l0, l1⟩ := len_le s
  obtain ⟨a, b, c, e, f⟩ := s
  unfold land_four.f
  rw [if_neg (by omega), hw, w64_in (x := pl W t + 1) (by omega) (by omega), w64_in (x := pl W t + W) (by omega) (by omega), w64_in (x := pl W t + W + 2) (by omega) (by omega), w64_in (x := pl W t + W + 1) (by omega) (by omega), hm]
  rw [if_pos (by omega), if_pos (by omega), if_pos (by omega), if_pos (by omega), if_pos (by omega), if_pos (by omega), if_pos (by omega), if_pos (by omega)]
theorem check_ok (W H : Int) (L : List Int) (t : Int) : ∃ r, Ev (fun k => hinterlandref02_Validate.f k W H L) r ∧ (r = 0 ↔ Valid W H L) ∧ Ev (fun k => land_check.f k W H L t) (if r = 0 then (if isT W H t then 0 else 2) else r) := by
  obtain ⟨r, h1, h2, h3⟩ := validate_ok W H L
  refine ⟨r, h2, h3, ?_⟩
  unfold land_check.f
  refine Ev.bind h1 ?_
  by_cases hr : r = 0
  · have v := h3.1 hr
    simp only [hr, if_true, isTile_ok v.1, Option.bind_some]
    by_cases ht : isT W H t <;> simp [ht] <;> exact Ev.now _
  · simp only [hr, if_false]; exact Ev.now _
/-- What one corner adds to a slope. -/
def nx (s i d : Int) : Int := let s' := if d > 0 then Go.bits .or .i64 s (shl .i64 1 i) else s; if d > 1 then Go.bits .or .i64 s' 16 else s'
theorem sl0 {b s i z0 z1 z2 z3 : Int} (hb : 0 ≤ b ∧ b ≤ 15) (hi : 0 ≤ i ∧ i < 4) (k : Nat) : land_Slope.l0 (k + 1 + 1) b s i z0 z1 z2 z3 = land_Slope.l0 k b (nx s i (rd [z0, z1, z2, z3] i - b)) (i + 1) z0 z1 z2 z3 := by
  simp only [land_Slope.l0, land_Slope.j1]
  rw [if_pos hi.2, if_pos hi.1, w64_in (x := b + 1) (by omega) (by omega), w64_in (x := i + 1) (by omega) (by omega)]
  generalize rd [z0, z1, z2, z3] i = z
  unfold nx
  by_cases h1 : z > b
  · rw [if_pos h1, if_pos (show z - b > 0 by omega)]
    by_cases h2 : z > b + 1
    · rw [if_pos h2, if_pos (show z - b > 1 by omega)]
    · rw [if_neg h2, if_neg (show ¬ z - b > 1 by omega)]
  · rw [if_neg h1, if_neg (show ¬ z - b > 0 by omega)]
    by_cases h2 : z > b + 1
    · omega
    · rw [if_neg h2, if_neg (show ¬ z - b > 1 by omega)]
theorem slope_loop {b z0 z1 z2 z3 : Int} (hb : 0 ≤ b ∧ b ≤ 15) : Ev (fun k => land_Slope.l0 k b 0 0 z0 z1 z2 z3) (nx (nx (nx (nx 0 0 (z0 - b)) 1 (z1 - b)) 2 (z2 - b)) 3 (z3 - b), b, 0) := by
  refine ⟨9, fun k hk => ?_⟩
  obtain ⟨k, rfl⟩ : ∃ m, k = m + 1 + 1 + 1 + 1 + 1 + 1 + 1 + 1 + 1 := ⟨k - 9, by omega⟩
  show land_Slope.l0 (k + 1 + 1 + 1 + 1 + 1 + 1 + 1 + 1 + 1) b 0 0 z0 z1 z2 z3 = _
  rw [sl0 hb (by omega), sl0 hb (by omega), sl0 hb (by omega), sl0 hb (by omega)]
  simp only [land_Slope.l0]
  rw [if_neg (by omega)]
  rfl
end Go.Proofs.Ytchflcnegpnkkaa.Tile
namespace Go.Proofs.Ytchflcnegpnkkaa.Pure
open Go.RowKit Go.Proofs.YtchflcnegpnkkaaOwn Go.Proofs.Ytchflcnegpnkkaa.Q Go.Proofs.Ytchflcnegpnkkaa.Val Go.Proofs.Ytchflcnegpnkkaa.Known Go.Proofs.Ytchflcnegpnkkaa.Til Go.Proofs.Ytchflcnegpnkkaa.Shi Go.Proofs.YtchflcnegpnkkaaW.PrintWords Go.Proofs.YtchflcnegpnkkaaW.PrintLast
set_option linter.unusedVariables false
set_option linter.unusedSimpArgs false
theorem place_xy {W cx cy : Int} (hW : 0 ≤ W) (x0 : 0 ≤ cx) (x1 : cx ≤ W) : (cy * (W + 1) + cx) % (W + 1) = cx ∧ (cy * (W + 1) + cx) / (W + 1) = cy := by
  have e : cy * (W + 1) + cx = cx + (W + 1) * cy := by rw [Int.mul_comm]; omega
  rw [e, Int.add_mul_emod_self_left, Int.add_mul_ediv_left _ _ (by omega), Int.emod_eq_of_lt x0 (by omega), Int.ediv_eq_zero_of_lt x0 (by omega)]
  exact ⟨rfl, by omega⟩
theorem dist_at {W x y cx cy : Int} (hW : 0 ≤ W) (x0 : 0 ≤ cx) (x1 : cx ≤ W) : dist W x y (cy * (W + 1) + cx) = mx (x - cx) (cx - x) + mx (y - cy) (cy - y) := by
  unfold dist
  rw [(place_xy hW x0 x1).1, (place_xy hW x0 x1).2]
theorem dist_self {W cx cy : Int} (hW : 0 ≤ W) (x0 : 0 ≤ cx) (x1 : cx ≤ W) : dist W cx cy (cy * (W + 1) + cx) = 0 := by
  rw [dist_at hW x0 x1]; unfold mx; split <;> split <;> omega
theorem dist_pos (W x y q : Int) : 0 ≤ dist W x y q := by unfold dist mx; split <;> split <;> omega
theorem near_nv {a b z da db : Int} (up : Bool) (h : near a b) (hd : near da db) : near (if up = true then mx a (z - da) else mn a (z + da)) (if up = true then mx b (z - db) else mn b (z + db)) := by
  unfold near mx mn at *
  cases up with
  | true => simp only [if_true]; split <;> split <;> omega
  | false => simp only [Bool.false_eq_true, if_false]; split <;> split <;> omega
/-- A land that was shifted is a land. -/
theorem nv_valid {W H : Int} {L M : List Int} (v : Valid W H L) {x y z : Int} (z0 : 0 ≤ z ∧ z ≤ 15) (up : Bool) (hm : M.length = L.length) (hv : ∀ q : Int, 0 ≤ q → q < (L.length : Int) → rd M q = nv W x y z up L q) : Valid W H M := by
  obtain ⟨s, hh, st⟩ := v
  obtain ⟨sa, sb, sc, se, sf⟩ := id s
  refine ⟨⟨sa, sb, sc, se, by rw [hm]; exact sf⟩, ?_, ?_⟩
  · intro q q0 q1
    have hq := hh q q0 (by omega)
    have hd := dist_pos W x y q
    rw [hv q q0 (by omega)]
    unfold nv mx mn; split <;> split <;> omega
  · intro cy cx y0 y1 x0 x1
    obtain ⟨c1, c2⟩ := st cy cx y0 y1 x0 x1
    obtain ⟨r0, r1⟩ := row_in (m := W + 1) y0 y1 (by omega)
    have e0 := hv (cy * (W + 1) + cx) (by omega) (by omega)
    have d0 := dist_at (W := W) (x := x) (y := y) (cx := cx) (cy := cy) (by omega) x0 x1
    unfold nv at e0
    rw [d0] at e0
    refine ⟨fun hx => ?_, fun hy => ?_⟩
    · have e1 := hv (cy * (W + 1) + cx + 1) (by omega) (by omega)
      have d1 := dist_at (W := W) (x := x) (y := y) (cx := cx + 1) (cy := cy) (by omega) (by omega) (by omega)
      rw [← Int.add_assoc] at d1
      unfold nv at e1
      rw [d1] at e1
      rw [e0, e1]
      refine near_nv up (c1 hx) ?_
      unfold near mx; split <;> split <;> split <;> omega
    · obtain ⟨r2, r3⟩ := row_in (y := cy + 1) (H := H) (m := W + 1) (by omega) (by omega) (by omega)
      have e1 := hv ((cy + 1) * (W + 1) + cx) (by omega) (by omega)
      have d1 := dist_at (W := W) (x := x) (y := y) (cx := cx) (cy := cy + 1) (by omega) x0 x1
      unfold nv at e1
      rw [d1] at e1
      rw [e0, e1]
      refine near_nv up (c2 hy) ?_
      unfold near mx; split <;> split <;> split <;> omega
theorem good_loop {W H : Int} {L : List Int} (s : Sides W H L) (hh : Hts L) {x y z : Int} (x0 : 0 ≤ x ∧ x ≤ W) (y0 : 0 ≤ y ∧ y ≤ H) (z0 : 0 ≤ z ∧ z ≤ 15) (up : Bool) : ∀ (d : Nat) (i : Int) (N : List Int) (C : List S36) (S : Int), 0 ≤ i → i + d = L.length → (N.length : Int) = i → (∀ q : Int, 0 ≤ q → q < i → rd N q = nv W x y z up L q) → (C.length : Int) ≤ i → (0 ≤ S ∧ S ≤ 30000 * i ∧ S % 250 = 0) → ∃ (M : List Int) (C2 : List S36) (S2 : Int), Ev (fun k => land_Shift.l0 k x y up [] z C S L (L.length : Int) i W H L W H (N ++ L.drop i.toNat)) (W, H, M, C2, S2, 0) ∧ M.length = L.length ∧ (∀ q : Int, 0 ≤ q → q < (L.length : Int) → rd M q = nv W x y z up L q) ∧ (0 ≤ S2 ∧ S2 ≤ 32670000 ∧ S2 % 250 = 0) := by
  obtain ⟨n0, n1⟩ := len_le s
  obtain ⟨sa, sb, sc, se, sf⟩ := id s
  intro d; induction d with
  | zero =>
    intro i N C S i0 hd hN hv hC hS
    have hnot : ¬ i < (L.length : Int) := by omega
    have hdr : L.drop i.toNat = [] := List.drop_eq_nil_of_le (by omega)
    rw [hdr, List.append_nil]
    refine ⟨N, C, S, Ev.step (fun _ => rfl) ?_, by omega, fun q a b => hv q a (by omega), by omega⟩
    simp only [land_Shift.l0, hnot, if_false]
    refine Ev.step (fun _ => rfl) ?_
    simp only [land_Shift.l1, show ¬ (0 : Int) < (([] : List Int).length : Int) by simp, if_false]; exact Ev.now _
  | succ d ih =>
    intro i N C S i0 hd hN hv hC hS
    have hi : i < (L.length : Int) := by omega
    have hz := hh i i0 hi
    have w1 : wrap64 (i + 1) = i + 1 := w64_in (by omega) (by omega)
    have wW : wrap64 (W + 1) = W + 1 := w64_in (by omega) (by omega)
    have wN : ¬ W + 1 = 0 := by omega
    have m0 := Int.emod_nonneg i (show W + 1 ≠ 0 by omega)
    have m1 := Int.emod_lt_of_pos i (show 0 < W + 1 by omega)
    have d0 := Int.ediv_nonneg i0 (show 0 ≤ W + 1 by omega)
    have d1 : i / (W + 1) < H + 1 := Int.ediv_lt_of_lt_mul (by omega) (by omega)
    have tm : Int.tmod i (W + 1) = i % (W + 1) := Int.tmod_eq_emod_of_nonneg i0
    have td : wrap64 (Int.tdiv i (W + 1)) = i / (W + 1) := by rw [Int.tdiv_eq_ediv_of_nonneg i0, w64_in (by omega) (by omega)]
    have hdist : 0 ≤ dist W x y i ∧ dist W x y i ≤ 70 := by unfold dist mx; split <;> split <;> omega
    have hfar : land_far.f x y (i % (W + 1)) (i / (W + 1)) = some (dist W x y i) := by
      unfold land_far.f
      rw [w64_in (x := x - i % (W + 1)) (by omega) (by omega), w64_in (x := i % (W + 1) - x) (by omega) (by omega), w64_in (x := y - i / (W + 1)) (by omega) (by omega), w64_in (x := i / (W + 1) - y) (by omega) (by omega)]
      exact congrArg some (w64_in (x := dist W x y i) (by omega) (by omega))
    have zm : wrap64 (z - dist W x y i) = z - dist W x y i := w64_in (by omega) (by omega)
    have zp : wrap64 (z + dist W x y i) = z + dist W x y i := w64_in (by omega) (by omega)
    have nb : 0 ≤ nv W x y z up L i ∧ nv W x y z up L i ≤ 15 := by unfold nv mx mn; split <;> split <;> omega
    have la : ∀ k, land_Shift.l0 (k + 1) x y up [] z C S L (L.length : Int) i W H L W H (N ++ L.drop i.toNat) = land_Shift.j4 k x y up [] z C S i (rd L i) (i % (W + 1)) (i / (W + 1)) (nv W x y z up L i) L (L.length : Int) i W H L W H (N ++ L.drop i.toNat) := by
      intro k
      simp only [land_Shift.l0, wW, tm, td, hfar, Option.bind_some, zm, zp]
      rw [if_pos hi, if_pos i0, if_pos hi, if_neg wN]
      unfold nv
      split <;> rfl
    have hnew : ∀ q : Int, 0 ≤ q → q < i + 1 → rd (N ++ [nv W x y z up L i]) q = nv W x y z up L q := by
      intro q q0 q1
      by_cases e : q < i
      · rw [rd_app q0 (by omega)]; exact hv q q0 e
      · have : q = i := by omega
        rw [this, ← hN, rd_end, hN]
    have hlen : ((N ++ [nv W x y z up L i]).length : Int) = i + 1 := by simp; omega
    have tn : (i + 1).toNat = i.toNat + 1 := by omega
    by_cases hc : nv W x y z up L i = rd L i
    · obtain ⟨M, C2, S2, e1, e2⟩ := ih (i + 1) (N ++ [nv W x y z up L i]) C S (by omega) (by omega) hlen hnew (by omega) (by omega)
      refine ⟨M, C2, S2, Ev.step la (Ev.step (fun _ => rfl) ?_), e2⟩
      simp only [land_Shift.j4, hc, if_true, w1]
      rw [tn, hc, List.append_assoc, List.singleton_append, ← drop_at i0 hi] at e1
      exact e1
    · have hx : 0 ≤ mx (nv W x y z up L i - rd L i) (rd L i - nv W x y z up L i) ∧ mx (nv W x y z up L i - rd L i) (rd L i - nv W x y z up L i) ≤ 15 := by unfold mx; split <;> omega
      have hS2 : wrap64 (S + wrap64 (mx (wrap64 (nv W x y z up L i - rd L i)) (wrap64 (rd L i - nv W x y z up L i)) * 250)) = S + mx (nv W x y z up L i - rd L i) (rd L i - nv W x y z up L i) * 250 := by
        rw [w64_in (x := nv W x y z up L i - rd L i) (by omega) (by omega), w64_in (x := rd L i - nv W x y z up L i) (by omega) (by omega), w64_in (x := mx (nv W x y z up L i - rd L i) (rd L i - nv W x y z up L i) * 250) (by omega) (by omega), w64_in (by omega) (by omega)]
      obtain ⟨M, C2, S2, e1, e2⟩ := ih (i + 1) (N ++ [nv W x y z up L i]) (C ++ [⟨i % (W + 1), i / (W + 1), nv W x y z up L i⟩]) (S + mx (nv W x y z up L i - rd L i) (rd L i - nv W x y z up L i) * 250) (by omega) (by omega) hlen hnew (by simp; omega) (by omega)
      have hCn : C.length < 5864062014805 := by omega
      have hML : i < ((N ++ L.drop i.toNat).length : Int) := by simp; omega
      have hset : (N ++ L.drop i.toNat).set i.toNat (nv W x y z up L i) = N ++ [nv W x y z up L i] ++ L.drop (i + 1).toNat := by
        rw [drop_at i0 hi, tn, List.append_assoc, List.singleton_append, List.set_append_right _ _ (by omega), show i.toNat - N.length = 0 by omega]
        rfl
      refine ⟨M, C2, S2, Ev.step la (Ev.step (fun _ => rfl) ?_), e2⟩
      simp only [land_Shift.j4, hc, if_false, i0, hML, hCn, if_true, w1, hset, hS2]
      exact e1
theorem shift_good {W H : Int} {L : List Int} (v : Valid W H L) {x y : Int} (x0 : 0 ≤ x ∧ x ≤ W) (y0 : 0 ≤ y ∧ y ≤ H) (up : Bool) {z : Int} (hzz : (if up = true then rd L (y * (W + 1) + x) + 1 else rd L (y * (W + 1) + x) - 1) = z) (z0 : 0 ≤ z ∧ z ≤ 15) : ∃ (M : List Int) (C2 : List S36) (S2 : Int), Ev (fun k => land_Shift.f k W H L x y up []) (W, H, M, C2, S2, 0) ∧ M.length = L.length ∧ (∀ q : Int, 0 ≤ q → q < (L.length : Int) → rd M q = nv W x y z up L q) ∧ (0 ≤ S2 ∧ S2 ≤ 32670000 ∧ S2 % 250 = 0) := by
  obtain ⟨e, v1, v2, v3⟩ := validate_ok W H L
  have he := v3.2 v
  rw [he] at v1
  have s := v.1
  obtain ⟨n0, n1⟩ := len_le s
  obtain ⟨sa, sb, sc, se, sf⟩ := id s
  obtain ⟨p0, p1⟩ := row_in (m := W + 1) y0.1 y0.2 (by omega)
  have hp : wrap64 (wrap64 (y * wrap64 (W + 1)) + x) = y * (W + 1) + x := by
    rw [w64_in (x := W + 1) (by omega) (by omega), w64_in (x := y * (W + 1)) (by omega) (by omega), w64_in (by omega) (by omega)]
  have q0 : 0 ≤ y * (W + 1) + x := by omega
  have q1 : y * (W + 1) + x < (L.length : Int) := by omega
  have hz := v.2.1 _ q0 q1
  have w1 : wrap64 (rd L (y * (W + 1) + x) - 1) = rd L (y * (W + 1) + x) - 1 := w64_in (by omega) (by omega)
  have w2 : wrap64 (rd L (y * (W + 1) + x) - 1 + 2) = rd L (y * (W + 1) + x) + 1 := by rw [w64_in (by omega) (by omega)]; omega
  obtain ⟨M, C2, S2, e1, e2⟩ := good_loop s v.2.1 x0 y0 z0 up L.length 0 [] [] 0 (by omega) (by omega) rfl (fun q a b => by omega) (by simp) (by omega)
  have hlen : ([] : List Int).length + L.length < 17592186044416 := by simp; omega
  refine ⟨M, C2, S2, ?_, e2⟩
  unfold land_Shift.f
  refine Ev.bind v1 ?_
  simp only [if_true, show ¬ x < 0 by omega, show ¬ x > W by omega, show ¬ y < 0 by omega, show ¬ y > H by omega, if_false, decide_false]
  have tail : Ev (fun k => land_Shift.j1 k x y up [] z W H L) (W, H, M, C2, S2, 0) := by
    refine Ev.step (fun _ => rfl) ?_
    simp only [land_Shift.j1, show ¬ z < 0 by omega, show ¬ z > 15 by omega, if_false, decide_false]
    refine Ev.step (fun _ => rfl) ?_
    simp only [land_Shift.j2, Bool.false_eq_true, if_false, hlen, if_true]
    exact e1
  refine Ev.step (fun _ => rfl) ?_
  simp only [land_Shift.j0, Bool.false_eq_true, if_false, hp, q0, q1, if_true, w1, w2]
  cases up with
  | true => simp only [if_true] at hzz ⊢; rw [hzz]; exact tail
  | false => simp only [Bool.false_eq_true, if_false] at hzz ⊢; rw [hzz]; exact tail
abbrev FL := Int × Int × List Int × Int × Int
def Fin (W H t ht : Int) (r : FL) : Prop := ∃ (N : List Int) (S : Int), r = (W, H, N, S, 0) ∧ Valid W H N ∧ (rd N (pl W t) = ht ∧ rd N (pl W t + 1) = ht ∧ rd N (pl W t + W + 2) = ht ∧ rd N (pl W t + W + 1) = ht) ∧ 0 ≤ S ∧ S ≤ 2000000000 ∧ S % 250 = 0
theorem flat_l3 {W H t ht : Int} (hh : 0 ≤ ht ∧ ht ≤ 15) {T : List Int} {L0 : List Int} {cx cy p B : Int} (s : Sides W H L0) (hB : 0 ≤ B ∧ B ≤ 1500000000) (x0 : 0 ≤ cx) (x1 : cx ≤ W) (y0 : 0 ≤ cy) (y1 : cy ≤ H) (hp : p = cy * (W + 1) + cx) (K : Int → Prop) (j ix q0 q1 q2 q3 q4 q5 q6 q7 : Int)
    (cont : ∀ (S : Int) (N : List Int), Valid W H N → rd N p = ht → (∀ q : Int, 0 ≤ q → q < (N.length : Int) → K q → rd N q = ht) → (0 ≤ S ∧ S ≤ B + 500000000 ∧ S % 250 = 0) → ∃ r, Ev (fun k => land_Level.l2 k ht [] S T (T.length : Int) j (wrap64 (ix + 1)) W H L0 W H N q0 q1 q2 q3 q4 q5 q6 q7) r ∧ Fin W H t ht r) :
    ∀ (d : Nat) (N : List Int) (S : Int), d ≤ 15 → Valid W H N → (∀ q : Int, 0 ≤ q → q < (N.length : Int) → K q → rd N q = ht) → (ht - rd N p).natAbs = d → (0 ≤ S ∧ S + 32670000 * d ≤ B + 500000000 ∧ S % 250 = 0) → ∃ r, Ev (fun k => land_Level.l3 k ht [] S T (T.length : Int) j ix W H L0 W H N cx cy q0 q1 q2 q3 q4 q5 q6 q7) r ∧ Fin W H t ht r := by
  obtain ⟨n0, n1⟩ := len_le s
  obtain ⟨sa, sb, sc, se, sf⟩ := id s
  obtain ⟨r0, r1⟩ := row_in (m := W + 1) y0 y1 (by omega)
  have pw : wrap64 (wrap64 (cy * wrap64 (W + 1)) + cx) = p := by
    rw [w64_in (x := W + 1) (by omega) (by omega), w64_in (x := cy * (W + 1)) (by omega) (by omega), w64_in (by omega) (by omega)]; exact hp.symm
  have pa : 0 ≤ p := by omega
  have pb : p < (L0.length : Int) := by omega
  intro d; induction d with
  | zero =>
    intro N S _ v hK hd hS
    have he : rd N p = ht := by omega
    have pc : p < (N.length : Int) := by have := v.1.2.2.2.2; omega
    obtain ⟨r, e1, e2⟩ := cont S N v he hK (by omega)
    refine ⟨r, Ev.step (fun _ => rfl) ?_, e2⟩
    simp only [land_Level.l3, pw, pa, pc, he, if_true]
    exact e1
  | succ d ih =>
    intro N S hd15 v hK hd hS
    have he : ¬ rd N p = ht := by omega
    have hNL : (N.length : Int) = (L0.length : Int) := by have := v.1.2.2.2.2; omega
    have pc : p < (N.length : Int) := by omega
    have hb := v.2.1 p pa pc
    have hz : 0 ≤ (if decide (rd N p < ht) = true then rd N p + 1 else rd N p - 1) ∧ (if decide (rd N p < ht) = true then rd N p + 1 else rd N p - 1) ≤ 15 := by
      by_cases h1 : rd N p < ht
      · simp only [h1, decide_true, if_true]; omega
      · simp only [h1, decide_false, Bool.false_eq_true, if_false]; omega
    obtain ⟨M, C2, S2, e1, m1, m2, m3⟩ := shift_good v ⟨x0, x1⟩ ⟨y0, y1⟩ (decide (rd N p < ht)) (z := if decide (rd N p < ht) = true then rd N p + 1 else rd N p - 1) (by rw [← hp]) hz
    have vM := nv_valid v hz (decide (rd N p < ht)) m1 m2
    have hM : rd M p = (if decide (rd N p < ht) = true then rd N p + 1 else rd N p - 1) := by
      rw [m2 p pa pc]
      unfold nv
      rw [hp, dist_self (by omega) x0 x1, ← hp]
      by_cases h1 : rd N p < ht
      · simp only [h1, decide_true, if_true]; unfold mx; split <;> omega
      · simp only [h1, decide_false, Bool.false_eq_true, if_false]; unfold mn; split <;> omega
    have kM : ∀ q : Int, 0 ≤ q → q < (M.length : Int) → K q → rd M q = ht := by
      intro q a b c
      have h0 := hK q a (by omega) c
      have hdp := dist_pos W cx cy q
      rw [m2 q a (by omega)]
      unfold nv
      rw [h0]
      by_cases h1 : rd N p < ht
      · simp only [h1, decide_true, if_true]; unfold mx; split <;> omega
      · simp only [h1, decide_false, Bool.false_eq_true, if_false]; unfold mn; split <;> omega
    have wS : wrap64 (S + S2) = S + S2 := w64_in (by omega) (by omega)
    obtain ⟨r, f1, f2⟩ := ih M (S + S2) (by omega) vM kM (by
      by_cases h1 : rd N p < ht
      · simp only [h1, decide_true, if_true] at hM; omega
      · simp only [h1, decide_false, Bool.false_eq_true, if_false] at hM; omega) (by omega)
    refine ⟨r, Ev.step (fun _ => rfl) ?_, f2⟩
    simp only [land_Level.l3, pw, pa, pc, he, if_true, if_false]
    refine Ev.bind e1 ?_
    simp only [if_true, wS]; exact f1
theorem level_flat {W H t ht : Int} {L : List Int} (v : Valid W H L) (tt : isT W H t) (hh : 0 ≤ ht ∧ ht ≤ 15) : ∃ r, Ev (fun k => land_Level.f k W H L [t] ht []) r ∧ Fin W H t ht r := by
  obtain ⟨e, v1, v2, v3⟩ := validate_ok W H L
  have he := v3.2 v
  rw [he] at v1
  have s := v.1
  obtain ⟨n0, n1⟩ := len_le s
  obtain ⟨sa, sb, sc, se, sf⟩ := id s
  obtain ⟨a0, a1, b0, b1, e'⟩ := tile_xy s tt
  have W0 : ¬ W = 0 := by omega
  have t0 := tt.1
  have tx : Int.tmod t W = t % W := Int.tmod_eq_emod_of_nonneg t0
  have ty : wrap64 (Int.tdiv t W) = t / W := by
    have : t < 1024 := by have := tt.2; have := Int.mul_le_mul sb se (by omega) (by omega); omega
    rw [Int.tdiv_eq_ediv_of_nonneg t0, w64_in (by omega) (by omega)]
  have tx1 : wrap64 (t % W + 1) = t % W + 1 := w64_in (by omega) (by omega)
  have ty1 : wrap64 (t / W + 1) = t / W + 1 := w64_in (by omega) (by omega)
  have hin := pl_in s tt
  have hpl : pl W t = t / W * (W + 1) + t % W := rfl
  have one : (([t] : List Int).length : Int) = 1 := rfl
  have rt : rd [t] 0 = t := rfl
  have w01 : wrap64 (0 + 1) = 1 := w64_in (by omega) (by omega)
  have hn : ∀ N : List Int, Valid W H N → (N.length : Int) = (L.length : Int) := fun N vn => by have := vn.1.2.2.2.2; omega
  have near15 : ∀ (N : List Int) (q : Int), Valid W H N → 0 ≤ q → q < (L.length : Int) → (ht - rd N q).natAbs ≤ 15 := fun N q vn a b => by have := vn.2.1 q a (by have := hn N vn; omega); omega
  generalize hX : t % W = X at *
  generalize hY : t / W = Y at *
  have last : ∀ (S : Int) (N : List Int), Valid W H N → rd N (pl W t + W + 1) = ht → (∀ q : Int, 0 ≤ q → q < (N.length : Int) → (q = pl W t ∨ q = pl W t + 1 ∨ q = pl W t + W + 2) → rd N q = ht) → (0 ≤ S ∧ S ≤ 1500000000 + 500000000 ∧ S % 250 = 0) → ∃ r, Ev (fun k => land_Level.l2 k ht [] S [t] (([t] : List Int).length : Int) 0 (wrap64 (3 + 1)) W H L W H N X Y (X + 1) Y (X + 1) (Y + 1) X (Y + 1)) r ∧ Fin W H t ht r := by
    intro S N vn h1 h2 hS
    have hl := hn N vn
    refine ⟨(W, H, N, S, 0), Ev.step (fun _ => rfl) ?_, N, S, rfl, vn, ⟨h2 _ (by omega) (by omega) (Or.inl rfl), h2 _ (by omega) (by omega) (Or.inr (Or.inl rfl)), h2 _ (by omega) (by omega) (Or.inr (Or.inr rfl)), h1⟩, by omega, by omega, by omega⟩
    rw [show wrap64 (3 + 1) = 4 from w64_in (by omega) (by omega)]
    simp only [land_Level.l2, show ¬ (4 : Int) < 4 by omega, if_false, w01]
    refine Ev.step (fun _ => rfl) ?_
    simp only [land_Level.l1, one, show ¬ (1 : Int) < 1 by omega, if_false]; exact Ev.now _
  have c3 : ∀ (S : Int) (N : List Int), Valid W H N → rd N (pl W t + W + 2) = ht → (∀ q : Int, 0 ≤ q → q < (N.length : Int) → (q = pl W t ∨ q = pl W t + 1) → rd N q = ht) → (0 ≤ S ∧ S ≤ 1000000000 + 500000000 ∧ S % 250 = 0) → ∃ r, Ev (fun k => land_Level.l2 k ht [] S [t] (([t] : List Int).length : Int) 0 (wrap64 (2 + 1)) W H L W H N X Y (X + 1) Y (X + 1) (Y + 1) X (Y + 1)) r ∧ Fin W H t ht r := by
    intro S N vn h1 h2 hS
    have n15 := near15 N (pl W t + W + 1) vn (by omega) (by omega)
    obtain ⟨r, f1, f2⟩ := flat_l3 (t := t) (T := [t]) hh (cx := X) (cy := Y + 1) (p := pl W t + W + 1) (B := 1500000000) s (by omega) (by omega) (by omega) (by omega) (by omega) (by rw [hpl, Int.add_mul]; omega) (fun q => q = pl W t ∨ q = pl W t + 1 ∨ q = pl W t + W + 2) 0 3 X Y (X + 1) Y (X + 1) (Y + 1) X (Y + 1) last _ N S n15 vn (fun q a b c => by
      rcases c with c | c | c
      · exact h2 q a b (Or.inl c)
      · exact h2 q a b (Or.inr c)
      · rw [c]; exact h1) rfl (by omega)
    refine ⟨r, Ev.step (fun _ => rfl) ?_, f2⟩
    rw [show wrap64 (2 + 1) = 3 from w64_in (by omega) (by omega)]
    simp only [land_Level.l2, show (3 : Int) < 4 by omega, show (0 : Int) ≤ 3 by omega, if_true]
    exact f1
  have c2 : ∀ (S : Int) (N : List Int), Valid W H N → rd N (pl W t + 1) = ht → (∀ q : Int, 0 ≤ q → q < (N.length : Int) → q = pl W t → rd N q = ht) → (0 ≤ S ∧ S ≤ 500000000 + 500000000 ∧ S % 250 = 0) → ∃ r, Ev (fun k => land_Level.l2 k ht [] S [t] (([t] : List Int).length : Int) 0 (wrap64 (1 + 1)) W H L W H N X Y (X + 1) Y (X + 1) (Y + 1) X (Y + 1)) r ∧ Fin W H t ht r := by
    intro S N vn h1 h2 hS
    have n15 := near15 N (pl W t + W + 2) vn (by omega) (by omega)
    obtain ⟨r, f1, f2⟩ := flat_l3 (t := t) (T := [t]) hh (cx := X + 1) (cy := Y + 1) (p := pl W t + W + 2) (B := 1000000000) s (by omega) (by omega) (by omega) (by omega) (by omega) (by rw [hpl, Int.add_mul]; omega) (fun q => q = pl W t ∨ q = pl W t + 1) 0 2 X Y (X + 1) Y (X + 1) (Y + 1) X (Y + 1) c3 _ N S n15 vn (fun q a b c => by
      rcases c with c | c
      · exact h2 q a b c
      · rw [c]; exact h1) rfl (by omega)
    refine ⟨r, Ev.step (fun _ => rfl) ?_, f2⟩
    rw [show wrap64 (1 + 1) = 2 from w64_in (by omega) (by omega)]
    simp only [land_Level.l2, show (2 : Int) < 4 by omega, show (0 : Int) ≤ 2 by omega, if_true]
    exact f1
  have c1 : ∀ (S : Int) (N : List Int), Valid W H N → rd N (pl W t) = ht → (∀ q : Int, 0 ≤ q → q < (N.length : Int) → False → rd N q = ht) → (0 ≤ S ∧ S ≤ 0 + 500000000 ∧ S % 250 = 0) → ∃ r, Ev (fun k => land_Level.l2 k ht [] S [t] (([t] : List Int).length : Int) 0 (wrap64 (0 + 1)) W H L W H N X Y (X + 1) Y (X + 1) (Y + 1) X (Y + 1)) r ∧ Fin W H t ht r := by
    intro S N vn h1 _ hS
    have n15 := near15 N (pl W t + 1) vn (by omega) (by omega)
    obtain ⟨r, f1, f2⟩ := flat_l3 (t := t) (T := [t]) hh (cx := X + 1) (cy := Y) (p := pl W t + 1) (B := 500000000) s (by omega) (by omega) (by omega) (by omega) (by omega) (by rw [hpl]; omega) (fun q => q = pl W t) 0 1 X Y (X + 1) Y (X + 1) (Y + 1) X (Y + 1) c2 _ N S n15 vn (fun q a b c => by rw [c]; exact h1) rfl (by omega)
    refine ⟨r, Ev.step (fun _ => rfl) ?_, f2⟩
    rw [w01]
    simp only [land_Level.l2, show (1 : Int) < 4 by omega, show (0 : Int) ≤ 1 by omega, if_true]
    exact f1
  have n15 := near15 L (pl W t) v (by omega) (by omega)
  obtain ⟨r, f1, f2⟩ := flat_l3 (t := t) (T := [t]) hh (cx := X) (cy := Y) (p := pl W t) (B := 0) s (by omega) (by omega) (by omega) (by omega) (by omega) hpl (fun _ => False) 0 0 X Y (X + 1) Y (X + 1) (Y + 1) X (Y + 1) c1 _ L 0 n15 v (fun q a b c => c.elim) rfl (by omega)
  have hlen : ([] : List Int).length + L.length < 17592186044416 := by simp; omega
  refine ⟨r, ?_, f2⟩
  unfold land_Level.f
  refine Ev.bind v1 ?_
  simp only [if_true, show ¬ ht < 0 by omega, show ¬ ht > 15 by omega, if_false, one, show ¬ (1 : Int) > 1000 by omega, decide_false]
  refine Ev.step (fun _ => rfl) ?_
  simp only [land_Level.j0, Bool.false_eq_true, if_false, one]
  refine Ev.step (fun _ => rfl) ?_
  simp only [land_Level.l0, one, show (0 : Int) < 1 by omega, show (0 : Int) ≤ 0 by omega, if_true, rt, isTile_ok s, tt, decide_true, Option.bind_some, w01]
  refine Ev.step (fun _ => rfl) ?_
  simp only [land_Level.l0, one, show ¬ (1 : Int) < 1 by omega, if_false, hlen, if_true, List.nil_append]
  refine Ev.step (fun _ => rfl) ?_
  simp only [land_Level.l1, one, show (0 : Int) < 1 by omega, show (0 : Int) ≤ 0 by omega, if_true, W0, if_false, rt, tx, ty, tx1, ty1]
  refine Ev.step (fun _ => rfl) ?_
  simp only [land_Level.l2, show (0 : Int) < 4 by omega, show (0 : Int) ≤ 0 by omega, if_true]
  exact f1
theorem level_bad {W H t ht : Int} {L : List Int} (h : ¬ (Valid W H L ∧ isT W H t ∧ 0 ≤ ht ∧ ht ≤ 15)) : ∃ e, ¬ e = 0 ∧ Ev (fun k => land_Level.f k W H L [t] ht []) ((0, 0, [], 0, e) : FL) := by
  obtain ⟨e, v1, v2, v3⟩ := validate_ok W H L
  have one : (([t] : List Int).length : Int) = 1 := rfl
  have rt : rd [t] 0 = t := rfl
  unfold land_Level.f
  by_cases he : e = 0
  · have v := v3.1 he
    rw [he] at v1
    have bad : Ev (fun k => land_Level.j0 k [t] ht [] true W H L) ((0, 0, [], 0, 1) : FL) := by
      refine Ev.step (fun _ => rfl) ?_
      simp only [land_Level.j0, if_true]; exact Ev.now _
    by_cases h1 : ht < 0
    · refine ⟨1, by omega, Ev.bind v1 ?_⟩
      simp only [if_true, h1]; exact bad
    by_cases h2 : ht > 15
    · refine ⟨1, by omega, Ev.bind v1 ?_⟩
      simp only [if_true, h1, h2, if_false]; exact bad
    · have nt : ¬ isT W H t := fun c => h ⟨v, c, by omega, by omega⟩
      refine ⟨2, by omega, Ev.bind v1 ?_⟩
      simp only [if_true, h1, h2, if_false, one, show ¬ (1 : Int) > 1000 by omega, decide_false]
      refine Ev.step (fun _ => rfl) ?_
      simp only [land_Level.j0, Bool.false_eq_true, if_false, one]
      refine Ev.step (fun _ => rfl) ?_
      simp only [land_Level.l0, one, show (0 : Int) < 1 by omega, show (0 : Int) ≤ 0 by omega, if_true, rt, isTile_ok v.1, nt, decide_false, Option.bind_some, Bool.false_eq_true, if_false]; exact Ev.now _
  · refine ⟨e, he, Ev.bind v1 ?_⟩
    simp only [he, if_false]; exact Ev.now _
theorem slope_flat {W H t ht : Int} {N : List Int} (v : Valid W H N) (tt : isT W H t) (hh : 0 ≤ ht ∧ ht ≤ 15) (h : rd N (pl W t) = ht ∧ rd N (pl W t + 1) = ht ∧ rd N (pl W t + W + 2) = ht ∧ rd N (pl W t + W + 1) = ht) : Ev (fun k => land_Slope.f k W H N t) (0, ht, 0) := by
  obtain ⟨r, h1, hv, h2⟩ := Tile.check_ok W H N t
  have hr := hv.2 v
  have tt' : Tile.isT W H t := tt
  simp only [hr, if_true, tt'] at h2
  have f4 : land_four.f W H N t = some (ht, ht, ht, ht) := by
    have := four_ok v.1 rfl tt
    rw [h.1, h.2.1, h.2.2.1, h.2.2.2] at this; exact this
  have mm : mn ht ht = ht := by unfold mn; split <;> rfl
  have sl := Tile.slope_loop (b := ht) (z0 := ht) (z1 := ht) (z2 := ht) (z3 := ht) hh
  have n0 : ∀ i : Int, Tile.nx 0 i (ht - ht) = 0 := fun i => by unfold Tile.nx; rw [Int.sub_self]; rfl
  rw [n0, n0, n0, n0] at sl
  unfold land_Slope.f
  refine Ev.bind h2 ?_
  simp only [if_true, f4, Option.bind_some, mm]
  exact sl
theorem LandLevelsFlat : hinterlandlaw02_LandLevelsFlat.Pure := by
  intro W H L t ht _ _ _ _ _
  refine Ev.rounds ?_
  unfold hinterlandlaw02_LandLevelsFlat.f
  refine Ev.bind (large0_ev W H L) ?_
  by_cases hg : (L.length : Int) > 4000
  · simp only [hg, decide_true, if_true]
    exact Ev.bind known_ev (Ev.now _)
  · simp only [hg, decide_false, Bool.false_eq_true, if_false]
    obtain ⟨e, v1, v2, v3⟩ := validate_ok W H L
    by_cases hc : Valid W H L ∧ isT W H t ∧ 0 ≤ ht ∧ ht ≤ 15
    · obtain ⟨v, tt, h0, h1⟩ := hc
      obtain ⟨r, f1, N, S, rfl, vn, z, s0, s1, s2⟩ := level_flat v tt ⟨h0, h1⟩
      refine Ev.bind f1 (Ev.bind v1 ?_)
      have he := v3.2 v
      simp only [he, if_true, Is_ok v.1, tt, decide_true, Option.bind_some, show ¬ ht < 0 by omega, show ¬ ht > 15 by omega, if_false, decide_false]
      refine Ev.step (fun _ => rfl) ?_
      simp only [hinterlandlaw02_LandLevelsFlat.j0, Bool.false_eq_true, if_false]
      refine Ev.bind (slope_flat vn tt ⟨h0, h1⟩ z) ?_
      simp only [if_true, show S ≥ 0 by omega, show Int.tmod S 250 = 0 by rw [Int.tmod_eq_emod_of_nonneg s0]; exact s2]
      exact Ev.bind known_ev (Ev.now _)
    · obtain ⟨x, hx, f1⟩ := level_bad hc
      refine Ev.bind f1 (Ev.bind v1 ?_)
      have bad : Ev (fun k => hinterlandlaw02_LandLevelsFlat.j0 k t ht 0 x true 0 0 []) true := by
        refine Ev.step (fun _ => rfl) ?_
        simp only [hinterlandlaw02_LandLevelsFlat.j0, if_true, hx, if_false]
        exact Ev.bind known_ev (Ev.now _)
      by_cases he : e = 0
      · have v := v3.1 he
        simp only [he, if_true, Is_ok v.1, Option.bind_some]
        by_cases tt : isT W H t
        · simp only [tt, decide_true, if_true]
          by_cases h1 : ht < 0
          · simp only [h1, if_true]; exact bad
          · have h2 : ht > 15 := by
              have : ¬ (0 ≤ ht ∧ ht ≤ 15) := fun c => hc ⟨v, tt, c⟩
              omega
            simp only [h1, if_false, h2, decide_true]; exact bad
        · simp only [tt, decide_false, Bool.false_eq_true, if_false]; exact bad
      · simp only [he, if_false]; exact bad
end Go.Proofs.Ytchflcnegpnkkaa.Pure

/- What is proved: law LandLevels of this seat, all in one text (laid by prune.py). -/
import Derived.Test.YtchflcnegpnkkaaOpen
import Derived.OpenShut
import Derived.Test.YtchflcnegpnkkaaQ3
import Derived.Test.YtchflcnegpnkkaaQ4
import Derived.Test.YtchflcnegpnkkaaQ5
import Derived.Test.YtchflcnegpnkkaaQ6
import Derived.Test.YtchflcnegpnkkaaQ7
import Derived.Test.YtchflcnegpnkkaaQ8
import Derived.Test.YtchflcnegpnkkaaQ10
import Derived.Test.YtchflcnegpnkkaaQ11
import Derived.Test.YtchflcnegpnkkaaQ12
import Derived.Test.YtchflcnegpnkkaaQ14
import Derived.Test.YtchflcnegpnkkaaQ15
import Derived.Test.YtchflcnegpnkkaaQ16
import Derived.Test.YtchflcnegpnkkaaQ17
import Derived.Test.YtchflcnegpnkkaaQ18
import Derived.Test.YtchflcnegpnkkaaQ22
import Derived.Test.YtchflcnegpnkkaaQ23
import Derived.Test.YtchflcnegpnkkaaQ24
namespace Go.Proofs.YtchflcnegpnkkaaOwn
open Go.RowKit Go.Proofs.YtchflcnegpnkkaaW.PrintWords
theorem w64_in {x : Int} (h0 : -9223372036854775808 ≤ x) (h1 : x ≤ 9223372036854775807) : wrap64 x = x := by unfold wrap64; omega
end Go.Proofs.YtchflcnegpnkkaaOwn
namespace Go.Proofs.Ytchflcnegpnkkaa.Val
open Go.RowKit Go.Proofs.YtchflcnegpnkkaaOwn Go.Proofs.Ytchflcnegpnkkaa.Q Go.Proofs.YtchflcnegpnkkaaW.PrintWords Go.Proofs.YtchflcnegpnkkaaW.PrintLast
/-- Two heights lie within one step. -/
def near (a b : Int) : Prop := a - b ≤ 1 ∧ b - a ≤ 1
instance (a b : Int) : Decidable (near a b) := by unfold near; infer_instance
def Hts (L : List Int) : Prop := ∀ i : Int, 0 ≤ i → i < (L.length : Int) → 0 ≤ rd L i ∧ rd L i ≤ 15
def cell (W H : Int) (L : List Int) (y x : Int) : Prop := (x < W → near (rd L (y * (W + 1) + x)) (rd L (y * (W + 1) + x + 1))) ∧ (y < H → near (rd L (y * (W + 1) + x)) (rd L ((y + 1) * (W + 1) + x)))
def place (W : Int) (L : List Int) (i : Int) : Prop := (0 < i % (W + 1) → near (rd L i) (rd L (i - 1))) ∧ (W < i → near (rd L i) (rd L (i - W - 1)))
instance (W H : Int) (L : List Int) (y x : Int) : Decidable (cell W H L y x) := by unfold cell; infer_instance
instance (W : Int) (L : List Int) (i : Int) : Decidable (place W L i) := by unfold place; infer_instance
def Steps (W H : Int) (L : List Int) : Prop := ∀ y x : Int, 0 ≤ y → y ≤ H → 0 ≤ x → x ≤ W → cell W H L y x
def Sides (W H : Int) (L : List Int) : Prop := 4 ≤ W ∧ W ≤ 32 ∧ 4 ≤ H ∧ H ≤ 32 ∧ (L.length : Int) = (H + 1) * (W + 1)
def Valid (W H : Int) (L : List Int) : Prop := Sides W H L ∧ Hts L ∧ Steps W H L
def Res (g : Nat → Option Int) (P : Prop) : Prop := ∃ r, Ev g r ∧ (r = 0 ∨ r = 5) ∧ (r = 0 ↔ P)
theorem row_in {y H m : Int} (h0 : 0 ≤ y) (h1 : y ≤ H) (hm : 0 ≤ m) : 0 ≤ y * m ∧ y * m + m ≤ (H + 1) * m := by
  constructor
  · exact Int.mul_nonneg h0 hm
  · have := Int.mul_le_mul_of_nonneg_right (show y + 1 ≤ H + 1 by omega) hm
    rw [Int.add_mul y 1 m, Int.one_mul] at this; exact this
theorem len_le {W H : Int} {L : List Int} (s : Sides W H L) : 25 ≤ (L.length : Int) ∧ (L.length : Int) ≤ 1089 := by
  obtain ⟨a, b, c, d, e⟩ := s
  have h1 := Int.mul_le_mul (show H + 1 ≤ 33 by omega) (show W + 1 ≤ 33 by omega) (by omega) (by omega)
  have h2 := Int.mul_le_mul (show 5 ≤ H + 1 by omega) (show 5 ≤ W + 1 by omega) (by omega) (by omega)
  omega
theorem apart_ok {a b : Int} (ha : 0 ≤ a ∧ a ≤ 15) (hb : 0 ≤ b ∧ b ≤ 15) : land_apart.f a b = some (!decide (near a b)) := by
  unfold land_apart.f
  rw [w64_in (by omega) (by omega), w64_in (by omega) (by omega)]
  by_cases h : a - b > 1
  · rw [if_pos h, decide_eq_false (p := near a b) (by unfold near; omega)]; rfl
  · rw [if_neg h]
    by_cases h2 : b - a > 1
    · rw [decide_eq_true h2, decide_eq_false (p := near a b) (by unfold near; omega)]; rfl
    · rw [decide_eq_false h2, decide_eq_true (p := near a b) (by unfold near; omega)]; rfl
theorem Apart_ok {a b : Int} (ha : -4000 ≤ a ∧ a ≤ 4000) (hb : -4000 ≤ b ∧ b ≤ 4000) : hinterlandref02_Apart.f a b = some (mx (a - b) (b - a)) := by
  unfold hinterlandref02_Apart.f mx
  rw [w64_in (by omega) (by omega), w64_in (by omega) (by omega)]
  by_cases h : a < b
  · rw [if_pos h]; congr 1; split <;> omega
  · rw [if_neg h]; congr 1; split <;> omega
theorem l0_ok {W H : Int} {L : List Int} {r : Int} (hn : (L.length : Int) ≤ 1089) (hg : Ev (fun k => land_Validate.l1 k 0 W H L) r) : ∀ (d : Nat) (i : Int), 0 ≤ i → i + d = L.length → (∀ j, i ≤ j → j < (L.length : Int) → 0 ≤ rd L j ∧ rd L j ≤ 15) → Ev (fun k => land_Validate.l0 k L (L.length : Int) i W H L) r := by
  intro d; induction d with
  | zero =>
    intro i h0 hd hh
    refine Ev.step (f := fun k => land_Validate.l1 k 0 W H L) (fun k => ?_) hg
    simp only [land_Validate.l0]; rw [if_neg (by omega)]
  | succ d ih =>
    intro i h0 hd hh
    have h1 := hh i (by omega) (by omega)
    obtain ⟨K, hK⟩ := ih (i + 1) (by omega) (by omega) (fun j a b => hh j (by omega) b)
    refine ⟨K + 2, fun k hk => ?_⟩
    obtain ⟨k, rfl⟩ : ∃ m, k = m + 1 + 1 := ⟨k - 2, by omega⟩
    simp only [land_Validate.l0, land_Validate.j2]
    rw [if_pos (by omega), if_pos (by omega), if_pos (by omega), if_neg (by omega), if_neg (by simp; omega), w64_in (by omega) (by omega)]
    exact hK k (by omega)
theorem l0_no {W H : Int} {L : List Int} (hn : (L.length : Int) ≤ 1089) : ∀ (d : Nat) (i : Int), 0 ≤ i → i + d = L.length → (∃ j, i ≤ j ∧ j < (L.length : Int) ∧ ¬ (0 ≤ rd L j ∧ rd L j ≤ 15)) → Ev (fun k => land_Validate.l0 k L (L.length : Int) i W H L) 1 := by
  intro d; induction d with
  | zero => intro i h0 hd hh; obtain ⟨j, a, b, _⟩ := hh; omega
  | succ d ih =>
    intro i h0 hd hh
    by_cases h1 : 0 ≤ rd L i ∧ rd L i ≤ 15
    · obtain ⟨K, hK⟩ := ih (i + 1) (by omega) (by omega) (by
        obtain ⟨j, a, b, c⟩ := hh
        refine ⟨j, ?_, b, c⟩
        by_cases e : j = i
        · subst e; exact absurd h1 c
        · omega)
      refine ⟨K + 2, fun k hk => ?_⟩
      obtain ⟨k, rfl⟩ : ∃ m, k = m + 1 + 1 := ⟨k - 2, by omega⟩
      simp only [land_Validate.l0, land_Validate.j2]
      rw [if_pos (by omega), if_pos (by omega), if_pos (by omega), if_neg (by omega), if_neg (by simp; omega), w64_in (by omega) (by omega)]
      exact hK k (by omega)
    · refine ⟨2, fun k hk => ?_⟩
      obtain ⟨k, rfl⟩ : ∃ m, k = m + 1 + 1 := ⟨k - 2, by omega⟩
      simp only [land_Validate.l0, land_Validate.j2]
      rw [if_pos (by omega), if_pos (by omega), if_pos (by omega)]
      by_cases h2 : rd L i < 0
      · rw [if_pos h2, if_pos trivial]
      · rw [if_neg h2, if_pos (by simp; omega)]
theorem m0_ok {W H : Int} {L : List Int} {r : Int} (hn : (L.length : Int) ≤ 1089) (hg : Ev (fun k => hinterlandref02_Validate.l1 k L (L.length : Int) 0 W H L) r) : ∀ (d : Nat) (i : Int), 0 ≤ i → i + d = L.length → (∀ j, i ≤ j → j < (L.length : Int) → 0 ≤ rd L j ∧ rd L j ≤ 15) → Ev (fun k => hinterlandref02_Validate.l0 k L (L.length : Int) i W H L) r := by
  intro d; induction d with
  | zero =>
    intro i h0 hd hh
    refine Ev.step (f := fun k => hinterlandref02_Validate.l1 k L (L.length : Int) 0 W H L) (fun k => ?_) hg
    simp only [hinterlandref02_Validate.l0]; rw [if_neg (by omega)]
  | succ d ih =>
    intro i h0 hd hh
    have h1 := hh i (by omega) (by omega)
    obtain ⟨K, hK⟩ := ih (i + 1) (by omega) (by omega) (fun j a b => hh j (by omega) b)
    refine ⟨K + 2, fun k hk => ?_⟩
    obtain ⟨k, rfl⟩ : ∃ m, k = m + 1 + 1 := ⟨k - 2, by omega⟩
    simp only [hinterlandref02_Validate.l0, hinterlandref02_Validate.j2]
    rw [if_pos (by omega), if_pos (by omega), if_pos (by omega), if_neg (by omega), if_neg (by simp; omega), w64_in (by omega) (by omega)]
    exact hK k (by omega)
theorem m0_no {W H : Int} {L : List Int} (hn : (L.length : Int) ≤ 1089) : ∀ (d : Nat) (i : Int), 0 ≤ i → i + d = L.length → (∃ j, i ≤ j ∧ j < (L.length : Int) ∧ ¬ (0 ≤ rd L j ∧ rd L j ≤ 15)) → Ev (fun k => hinterlandref02_Validate.l0 k L (L.length : Int) i W H L) 1 := by
  intro d; induction d with
  | zero => intro i h0 hd hh; obtain ⟨j, a, b, _⟩ := hh; omega
  | succ d ih =>
    intro i h0 hd hh
    by_cases h1 : 0 ≤ rd L i ∧ rd L i ≤ 15
    · obtain ⟨K, hK⟩ := ih (i + 1) (by omega) (by omega) (by
        obtain ⟨j, a, b, c⟩ := hh
        refine ⟨j, ?_, b, c⟩
        by_cases e : j = i
        · subst e; exact absurd h1 c
        · omega)
      refine ⟨K + 2, fun k hk => ?_⟩
      obtain ⟨k, rfl⟩ : ∃ m, k = m + 1 + 1 := ⟨k - 2, by omega⟩
      simp only [hinterlandref02_Validate.l0, hinterlandref02_Validate.j2]
      rw [if_pos (by omega), if_pos (by omega), if_pos (by omega), if_neg (by omega), if_neg (by simp; omega), w64_in (by omega) (by omega)]
      exact hK k (by omega)
    · refine ⟨2, fun k hk => ?_⟩
      obtain ⟨k, rfl⟩ : ∃ m, k = m + 1 + 1 := ⟨k - 2, by omega⟩
      simp only [hinterlandref02_Validate.l0, hinterlandref02_Validate.j2]
      rw [if_pos (by omega), if_pos (by omega), if_pos (by omega)]
      by_cases h2 : rd L i < 0
      · rw [if_pos h2, if_pos trivial]
      · rw [if_neg h2, if_pos (by simp; omega)]
theorem row_ok {W H : Int} {L : List Int} (s : Sides W H L) (hh : Hts L) {y : Int} (y0 : 0 ≤ y) (y1 : y ≤ H) {P : Prop} (hn : Res (fun k => land_Validate.l1 k (y + 1) W H L) P) : ∀ (d : Nat) (x : Int), 0 ≤ x → x + d = W + 1 → Res (fun k => land_Validate.l2 k y x W H L) ((∀ x', x ≤ x' → x' ≤ W → cell W H L y x') ∧ P) := by
  obtain ⟨a, b, c, e, f⟩ := id s
  obtain ⟨l0, l1⟩ := len_le s
  obtain ⟨p0, p1⟩ := row_in (m := W + 1) y0 y1 (by omega)
  intro d; induction d with
  | zero =>
    intro x h0 hd
    obtain ⟨r, ⟨K, hK⟩, hr, hi⟩ := hn
    refine ⟨r, ⟨K + 1, fun k hk => ?_⟩, hr, by rw [hi]; exact ⟨fun h => ⟨fun x' h1 h2 => by omega, h⟩, fun h => h.2⟩⟩
    obtain ⟨k, rfl⟩ : ∃ m, k = m + 1 := ⟨k - 1, by omega⟩
    simp only [land_Validate.l2]
    rw [if_neg (by omega), w64_in (by omega) (by omega)]
    exact hK k (by omega)
  | succ d ih =>
    intro x h0 hd
    obtain ⟨r, ⟨K, hK⟩, hr, hi⟩ := ih (x + 1) (by omega) (by omega)
    have ep : (y + 1) * (W + 1) = y * (W + 1) + (W + 1) := by rw [Int.add_mul, Int.one_mul]
    have hc : cell W H L y x ↔ ((x < W → near (rd L (y * (W + 1) + x)) (rd L (y * (W + 1) + x + 1))) ∧ (y < H → near (rd L (y * (W + 1) + x)) (rd L (y * (W + 1) + (W + 1) + x)))) := by unfold cell; rw [ep]
    have hq : y < H → y * (W + 1) + (W + 1) + (W + 1) ≤ (H + 1) * (W + 1) := fun h => by
      have := (row_in (m := W + 1) (show 0 ≤ y + 1 by omega) (show y + 1 ≤ H by omega) (by omega)).2; omega
    have go : ∀ k, land_Validate.l2 (k + 1 + 1) y x W H L = if cell W H L y x then land_Validate.l2 k y (x + 1) W H L else some 5 := by
      intro k
      simp only [land_Validate.l2, land_Validate.j5]
      rw [w64_in (x := W + 1) (by omega) (by omega), w64_in (x := y + 1) (by omega) (by omega), ep]
      generalize y * (W + 1) = p at *
      rw [w64_in (x := p) (by omega) (by omega), w64_in (x := p + (W + 1)) (by omega) (by omega), w64_in (x := p + (W + 1) + x) (by omega) (by omega), w64_in (x := p + x) (by omega) (by omega), w64_in (x := p + x + 1) (by omega) (by omega), w64_in (x := x + 1) (by omega) (by omega)]
      rw [if_pos (by omega), if_pos (by omega), if_pos (by omega)]
      by_cases hx : x < W
      · rw [if_pos hx, if_pos (by omega), if_pos (by omega), apart_ok (hh _ (by omega) (by omega)) (hh _ (by omega) (by omega))]
        simp only [Option.bind_some]
        by_cases h1 : near (rd L (p + x)) (rd L (p + x + 1))
        · rw [if_neg (by simpa using h1)]
          by_cases hy : y < H
          · have := hq hy
            rw [if_pos hy, if_pos (by omega), if_pos (by omega), apart_ok (hh _ (by omega) (by omega)) (hh _ (by omega) (by omega))]
            simp only [Option.bind_some]
            by_cases h2 : near (rd L (p + x)) (rd L (p + (W + 1) + x))
            · rw [if_neg (by simpa using h2), if_pos (hc.2 ⟨fun _ => h1, fun _ => h2⟩)]
            · rw [if_pos (by simpa using h2), if_neg (fun h => h2 ((hc.1 h).2 hy))]
          · rw [if_neg hy, if_neg (by simp), if_pos (hc.2 ⟨fun _ => h1, fun h => absurd h hy⟩)]
        · rw [if_pos (by simpa using h1), if_pos trivial, if_neg (fun h => h1 ((hc.1 h).1 hx))]
      · rw [if_neg hx]
        by_cases hy : y < H
        · have := hq hy
          rw [if_pos hy, if_pos (by omega), if_pos (by omega), apart_ok (hh _ (by omega) (by omega)) (hh _ (by omega) (by omega))]
          simp only [Option.bind_some]
          by_cases h2 : near (rd L (p + x)) (rd L (p + (W + 1) + x))
          · rw [if_neg (by simpa using h2), if_pos (hc.2 ⟨fun h => absurd h hx, fun _ => h2⟩)]
          · rw [if_pos (by simpa using h2), if_neg (fun h => h2 ((hc.1 h).2 hy))]
        · rw [if_neg hy, if_neg (by simp), if_pos (hc.2 ⟨fun h => absurd h hx, fun h => absurd h hy⟩)]
    by_cases hcell : cell W H L y x
    · refine ⟨r, ⟨K + 2, fun k hk => ?_⟩, hr, ?_⟩
      · obtain ⟨k, rfl⟩ : ∃ m, k = m + 1 + 1 := ⟨k - 2, by omega⟩
        show land_Validate.l2 (k + 1 + 1) y x W H L = _
        rw [go, if_pos hcell]; exact hK k (by omega)
      · rw [hi]
        refine ⟨fun h => ⟨fun x' h1 h2 => ?_, h.2⟩, fun h => ⟨fun x' h1 h2 => h.1 x' (by omega) h2, h.2⟩⟩
        by_cases e : x' = x
        · subst e; exact hcell
        · exact h.1 x' (by omega) h2
    · refine ⟨5, ⟨2, fun k hk => ?_⟩, Or.inr rfl, ?_⟩
      · obtain ⟨k, rfl⟩ : ∃ m, k = m + 1 + 1 := ⟨k - 2, by omega⟩
        show land_Validate.l2 (k + 1 + 1) y x W H L = _
        rw [go, if_neg hcell]
      · exact ⟨fun h => absurd h (by decide), fun h => absurd (h.1 x (by omega) (by omega)) hcell⟩
theorem rows_ok {W H : Int} {L : List Int} (s : Sides W H L) (hh : Hts L) : ∀ (d : Nat) (y : Int), 0 ≤ y → y + d = H + 1 → Res (fun k => land_Validate.l1 k y W H L) (∀ y' x', y ≤ y' → y' ≤ H → 0 ≤ x' → x' ≤ W → cell W H L y' x') := by
  obtain ⟨a, b, c, e, f⟩ := id s
  intro d; induction d with
  | zero =>
    intro y h0 hd
    refine ⟨0, ⟨1, fun k hk => ?_⟩, Or.inl rfl, ⟨fun _ y' x' h1 h2 => by omega, fun _ => rfl⟩⟩
    obtain ⟨k, rfl⟩ : ∃ m, k = m + 1 := ⟨k - 1, by omega⟩
    simp only [land_Validate.l1]
    rw [if_neg (by omega)]
  | succ d ih =>
    intro y h0 hd
    obtain ⟨r, ⟨K, hK⟩, hr, hi⟩ := row_ok s hh h0 (by omega) (ih (y + 1) (by omega) (by omega)) (W + 1).toNat 0 (by omega) (by omega)
    refine ⟨r, ⟨K + 1, fun k hk => ?_⟩, hr, ?_⟩
    · obtain ⟨k, rfl⟩ : ∃ m, k = m + 1 := ⟨k - 1, by omega⟩
      simp only [land_Validate.l1]
      rw [if_pos (by omega)]
      exact hK k (by omega)
    · rw [hi]
      refine ⟨fun h y' x' h1 h2 h3 h4 => ?_, fun h => ⟨fun x' h1 h2 => h y x' (by omega) (by omega) h1 h2, fun y' x' h1 h2 h3 h4 => h y' x' (by omega) h2 h3 h4⟩⟩
      by_cases e : y' = y
      · subst e; exact h.1 x' h3 h4
      · exact h.2 y' x' (by omega) h2 h3 h4
theorem mx_le {a b : Int} : mx (a - b) (b - a) > 1 ↔ ¬ near a b := by unfold mx near; split <;> omega
theorem places_ok {W H : Int} {L : List Int} (s : Sides W H L) (hh : Hts L) : ∀ (d : Nat) (i : Int), 0 ≤ i → i + d = L.length → Res (fun k => hinterlandref02_Validate.l1 k L (L.length : Int) i W H L) (∀ j, i ≤ j → j < (L.length : Int) → place W L j) := by
  obtain ⟨a, b, c, e, f⟩ := id s
  obtain ⟨l0, l1⟩ := len_le s
  intro d; induction d with
  | zero =>
    intro i h0 hd
    refine ⟨0, ⟨1, fun k hk => ?_⟩, Or.inl rfl, ⟨fun _ j h1 h2 => by omega, fun _ => rfl⟩⟩
    obtain ⟨k, rfl⟩ : ∃ m, k = m + 1 := ⟨k - 1, by omega⟩
    simp only [hinterlandref02_Validate.l1]
    rw [if_neg (by omega)]
  | succ d ih =>
    intro i h0 hd
    obtain ⟨r, ⟨K, hK⟩, hr, hi⟩ := ih (i + 1) (by omega) (by omega)
    have hm : i % (W + 1) ≤ i := by
      have h1 := Int.mul_ediv_add_emod i (W + 1)
      have h2 := Int.mul_nonneg (show 0 ≤ W + 1 by omega) (Int.ediv_nonneg h0 (show 0 ≤ W + 1 by omega))
      omega
    have ap : ∀ u v, 0 ≤ u → u < (L.length : Int) → 0 ≤ v → v < (L.length : Int) → hinterlandref02_Apart.f (rd L u) (rd L v) = some (mx (rd L u - rd L v) (rd L v - rd L u)) := fun u v h1 h2 h3 h4 => Apart_ok (by have := hh u h1 h2; omega) (by have := hh v h3 h4; omega)
    have go : ∀ k, hinterlandref02_Validate.l1 (k + 1 + 1) L (L.length : Int) i W H L = if place W L i then hinterlandref02_Validate.l1 k L (L.length : Int) (i + 1) W H L else some 5 := by
      intro k
      simp only [hinterlandref02_Validate.l1, hinterlandref02_Validate.j4]
      rw [w64_in (x := W + 1) (by omega) (by omega), w64_in (x := i - W) (by omega) (by omega), w64_in (x := i - W - 1) (by omega) (by omega), w64_in (x := i - 1) (by omega) (by omega), w64_in (x := i + 1) (by omega) (by omega)]
      rw [Int.tmod_eq_emod_of_nonneg h0, if_pos (by omega), if_pos (by omega), if_pos (by omega), if_neg (by omega)]
      by_cases hx : 0 < i % (W + 1)
      · rw [if_pos hx, if_pos (by omega), if_pos (by omega), ap _ _ (by omega) (by omega) (by omega) (by omega)]
        simp only [Option.bind_some]
        by_cases h1 : near (rd L i) (rd L (i - 1))
        · rw [if_neg (fun h => mx_le.1 h h1)]
          by_cases hy : W < i
          · rw [if_pos hy, if_pos (by omega), if_pos (by omega), ap _ _ (by omega) (by omega) (by omega) (by omega)]
            simp only [Option.bind_some]
            by_cases h2 : near (rd L i) (rd L (i - W - 1))
            · rw [if_neg (by simpa using fun h => mx_le.1 h h2), if_pos ⟨fun _ => h1, fun _ => h2⟩]
            · rw [if_pos (by simpa using mx_le.2 h2), if_neg (fun h => h2 (h.2 hy))]
          · rw [if_neg hy, if_neg (by simp), if_pos ⟨fun _ => h1, fun h => absurd h hy⟩]
        · rw [if_pos (mx_le.2 h1), if_pos trivial, if_neg (fun h => h1 (h.1 hx))]
      · rw [if_neg hx]
        by_cases hy : W < i
        · rw [if_pos hy, if_pos (by omega), if_pos (by omega), ap _ _ (by omega) (by omega) (by omega) (by omega)]
          simp only [Option.bind_some]
          by_cases h2 : near (rd L i) (rd L (i - W - 1))
          · rw [if_neg (by simpa using fun h => mx_le.1 h h2), if_pos ⟨fun h => absurd h hx, fun _ => h2⟩]
          · rw [if_pos (by simpa using mx_le.2 h2), if_neg (fun h => h2 (h.2 hy))]
        · rw [if_neg hy, if_neg (by simp), if_pos ⟨fun h => absurd h hx, fun h => absurd h hy⟩]
    by_cases hcell : place W L i
    · refine ⟨r, ⟨K + 2, fun k hk => ?_⟩, hr, ?_⟩
      · obtain ⟨k, rfl⟩ : ∃ m, k = m + 1 + 1 := ⟨k - 2, by omega⟩
        show hinterlandref02_Validate.l1 (k + 1 + 1) L (L.length : Int) i W H L = _
        rw [go, if_pos hcell]; exact hK k (by omega)
      · rw [hi]
        refine ⟨fun h x' h1 h2 => ?_, fun h x' h1 h2 => h x' (by omega) h2⟩
        by_cases e : x' = i
        · subst e; exact hcell
        · exact h x' (by omega) h2
    · refine ⟨5, ⟨2, fun k hk => ?_⟩, Or.inr rfl, ?_⟩
      · obtain ⟨k, rfl⟩ : ∃ m, k = m + 1 + 1 := ⟨k - 2, by omega⟩
        show hinterlandref02_Validate.l1 (k + 1 + 1) L (L.length : Int) i W H L = _
        rw [go, if_neg hcell]
      · exact ⟨fun h => absurd h (by decide), fun h => absurd (h i (by omega) (by omega)) hcell⟩
theorem near_comm {a b : Int} : near a b ↔ near b a := by unfold near; omega
theorem steps_places {W H : Int} {L : List Int} (s : Sides W H L) : (∀ y' x', 0 ≤ y' → y' ≤ H → 0 ≤ x' → x' ≤ W → cell W H L y' x') ↔ (∀ j, 0 ≤ j → j < (L.length : Int) → place W L j) := by
  obtain ⟨a, b, c, e, f⟩ := id s
  constructor
  · intro h j j0 j1
    have hx0 := Int.emod_nonneg j (show W + 1 ≠ 0 by omega)
    have hx1 := Int.emod_lt_of_pos j (show 0 < W + 1 by omega)
    have hd := Int.mul_ediv_add_emod j (W + 1)
    have hy0 : 0 ≤ j / (W + 1) := Int.ediv_nonneg j0 (by omega)
    have hy1 : j / (W + 1) ≤ H := by
      have : j / (W + 1) < H + 1 := Int.ediv_lt_of_lt_mul (by omega) (by omega)
      omega
    rw [Int.mul_comm] at hd
    generalize hy : j / (W + 1) = y at *
    generalize hx : j % (W + 1) = x at *
    have ep : (y - 1) * (W + 1) = y * (W + 1) - (W + 1) := by rw [Int.sub_mul, Int.one_mul]
    refine ⟨fun g => ?_, fun g => ?_⟩
    · rw [hx] at g
      have := (h y (x - 1) hy0 hy1 (by omega) (by omega)).1 (by omega)
      rw [show y * (W + 1) + (x - 1) = j - 1 by omega, show j - 1 + 1 = j by omega] at this
      exact near_comm.1 this
    · have hyp : 1 ≤ y := by
        by_cases h0 : y = 0
        · subst h0; omega
        · omega
      have := (h (y - 1) x (by omega) (by omega) (by omega) (by omega)).2 (by omega)
      rw [ep, show y - 1 + 1 = y by omega, show y * (W + 1) - (W + 1) + x = j - W - 1 by omega, show y * (W + 1) + x = j by omega] at this
      exact near_comm.1 this
  · intro h y x y0 y1 x0 x1
    have ep : (y + 1) * (W + 1) = y * (W + 1) + (W + 1) := by rw [Int.add_mul, Int.one_mul]
    obtain ⟨p0, p1⟩ := row_in (m := W + 1) y0 y1 (by omega)
    refine ⟨fun g => ?_, fun g => ?_⟩
    · have := (h (y * (W + 1) + x + 1) (by omega) (by omega)).1 (by
        rw [show y * (W + 1) + x + 1 = (x + 1) + y * (W + 1) by omega, Int.add_mul_emod_self_right, Int.emod_eq_of_lt (by omega) (by omega)]; omega)
      rw [show y * (W + 1) + x + 1 - 1 = y * (W + 1) + x by omega] at this
      exact near_comm.1 this
    · have q := (row_in (m := W + 1) (show 0 ≤ y + 1 by omega) (show y + 1 ≤ H by omega) (by omega)).2
      have := (h ((y + 1) * (W + 1) + x) (by omega) (by omega)).2 (by omega)
      rw [show (y + 1) * (W + 1) + x - W - 1 = y * (W + 1) + x by omega] at this
      exact near_comm.1 this
/-- Both say the same of a land, and 0 just of a valid one. -/
theorem validate_ok (W H : Int) (L : List Int) : ∃ r, Ev (fun k => land_Validate.f k W H L) r ∧ Ev (fun k => hinterlandref02_Validate.f k W H L) r ∧ (r = 0 ↔ Valid W H L) := by
  by_cases s : Sides W H L
  · obtain ⟨a, b, c, e, f⟩ := id s
    obtain ⟨n0, n1⟩ := len_le s
    have hlen : wrap64 (wrap64 (W + 1) * wrap64 (H + 1)) = (L.length : Int) := by
      rw [w64_in (x := W + 1) (by omega) (by omega), w64_in (x := H + 1) (by omega) (by omega), Int.mul_comm, ← f]
      exact w64_in (by omega) (by omega)
    have hA : ∀ k, land_Validate.f (k + 1) W H L = land_Validate.l0 k L (L.length : Int) 0 W H L := by
      intro k
      unfold land_Validate.f
      rw [if_neg (by omega), if_neg (by omega), if_neg (by omega), if_neg (by omega), hlen]
      simp only [land_Validate.j0]
      rw [if_neg (by simp)]
    have hB : ∀ k, hinterlandref02_Validate.f (k + 1) W H L = hinterlandref02_Validate.l0 k L (L.length : Int) 0 W H L := by
      intro k
      unfold hinterlandref02_Validate.f hinterlandref02_side.f
      rw [if_pos (by omega), if_pos (by omega), hlen]
      simp only [Option.bind_some]
      rw [if_pos (by simp; omega), if_pos (by simp; omega)]
      simp only [hinterlandref02_Validate.j0]
      rw [if_neg (by simp)]
    by_cases hh : Hts L
    · obtain ⟨r, h1, h2, h3⟩ := rows_ok s hh (H + 1).toNat 0 (by omega) (by omega)
      obtain ⟨r', h1', h2', h3'⟩ := places_ok s hh L.length 0 (by omega) (by omega)
      have hs := steps_places s
      have er : r = r' := by
        have : r = 0 ↔ r' = 0 := by rw [h3, h3', hs]
        omega
      subst er
      refine ⟨r, Ev.step hA (l0_ok n1 h1 L.length 0 (by omega) (by omega) (fun j => hh j)), Ev.step hB (m0_ok n1 h1' L.length 0 (by omega) (by omega) (fun j => hh j)), ?_⟩
      rw [h3]
      exact ⟨fun h => ⟨s, hh, fun y x a b c d => h y x a b c d⟩, fun h => fun y x a b c d => h.2.2 y x a b c d⟩
    · have hx : ∃ j, 0 ≤ j ∧ j < (L.length : Int) ∧ ¬ (0 ≤ rd L j ∧ rd L j ≤ 15) := by
        refine Classical.byContradiction fun h => hh fun i h0 h1 => ?_
        exact Classical.byContradiction fun h' => h ⟨i, h0, h1, h'⟩
      exact ⟨1, Ev.step hA (l0_no n1 L.length 0 (by omega) (by omega) hx), Ev.step hB (m0_no n1 L.length 0 (by omega) (by omega) hx), ⟨fun h => absurd h (by decide), fun h => absurd h.2.1 hh⟩⟩
  · refine ⟨1, ⟨1, fun k hk => ?_⟩, ⟨1, fun k hk => ?_⟩, ⟨fun h => absurd h (by decide), fun h => absurd h.1 s⟩⟩
    · obtain ⟨k, rfl⟩ : ∃ m, k = m + 1 := ⟨k - 1, by omega⟩
      unfold land_Validate.f
      simp only [land_Validate.j0]
      by_cases h1 : W < 4
      · rw [if_pos h1, if_pos trivial]
      by_cases h2 : W > 32
      · rw [if_neg h1, if_pos h2, if_pos trivial]
      by_cases h3 : H < 4
      · rw [if_neg h1, if_neg h2, if_pos h3, if_pos trivial]
      by_cases h4 : H > 32
      · rw [if_neg h1, if_neg h2, if_neg h3, if_pos h4, if_pos trivial]
      rw [if_neg h1, if_neg h2, if_neg h3, if_neg h4, if_pos]
      simp only [bne_iff_ne]
      intro h5
      refine s ⟨by omega, by omega, by omega, by omega, ?_⟩
      rw [h5, w64_in (x := W + 1) (by omega) (by omega), w64_in (x := H + 1) (by omega) (by omega), Int.mul_comm]
      have := Int.mul_le_mul (show H + 1 ≤ 33 by omega) (show W + 1 ≤ 33 by omega) (by omega) (by omega)
      have := Int.mul_nonneg (show 0 ≤ H + 1 by omega) (show 0 ≤ W + 1 by omega)
      exact w64_in (by omega) (by omega)
    · obtain ⟨k, rfl⟩ : ∃ m, k = m + 1 := ⟨k - 1, by omega⟩
      unfold hinterlandref02_Validate.f hinterlandref02_side.f
      simp only [hinterlandref02_Validate.j0]
      by_cases h1 : W ≥ 4
      · by_cases h2 : W ≤ 32
        · by_cases h3 : H ≥ 4
          · by_cases h4 : H ≤ 32
            · simp only [h1, h2, h3, h4, if_true, Option.bind_some, decide_true]
              rw [if_pos]
              simp only [bne_iff_ne]
              intro h5
              refine s ⟨by omega, by omega, by omega, by omega, ?_⟩
              rw [h5, w64_in (x := W + 1) (by omega) (by omega), w64_in (x := H + 1) (by omega) (by omega), Int.mul_comm]
              have := Int.mul_le_mul (show H + 1 ≤ 33 by omega) (show W + 1 ≤ 33 by omega) (by omega) (by omega)
              have := Int.mul_nonneg (show 0 ≤ H + 1 by omega) (show 0 ≤ W + 1 by omega)
              exact w64_in (by omega) (by omega)
            · simp [h1, h2, h3, h4]
          · simp [h1, h2, h3]
        · simp [h1, h2]
      · simp [h1]
end Go.Proofs.Ytchflcnegpnkkaa.Val
namespace Go.Proofs.Ytchflcnegpnkkaa.Known
open Go.RowKit Go.Proofs.YtchflcnegpnkkaaOwn Go.Proofs.Ytchflcnegpnkkaa.Q Go.Proofs.YtchflcnegpnkkaaW.PrintWords Go.Proofs.YtchflcnegpnkkaaW.PrintLast
theorem known_ev : Ev (fun k => hinterlandlaw02_known.f k) true := Ev.of hinterlandlaw02_known.mono (k := 200) (by decide +kernel)
end Go.Proofs.Ytchflcnegpnkkaa.Known
namespace Go.Proofs.Ytchflcnegpnkkaa.Til
open Go.RowKit Go.Proofs.YtchflcnegpnkkaaOwn Go.Proofs.Ytchflcnegpnkkaa.Q Go.Proofs.Ytchflcnegpnkkaa.Val Go.Proofs.YtchflcnegpnkkaaW.PrintWords Go.Proofs.YtchflcnegpnkkaaW.PrintLast
def isT (W H t : Int) : Prop := 0 ≤ t ∧ t < W * H
instance (W H t : Int) : Decidable (isT W H t) := by unfold isT; infer_instance
def pl (W t : Int) : Int := t / W * (W + 1) + t % W
theorem area {W H : Int} {L : List Int} (s : Sides W H L) : wrap64 (W * H) = W * H := by
  obtain ⟨a, b, c, e, f⟩ := s
  have h1 := Int.mul_le_mul b e (by omega) (by omega)
  have h2 := Int.mul_nonneg (show 0 ≤ W by omega) (show 0 ≤ H by omega)
  exact w64_in (by omega) (by omega)
theorem isTile_ok {W H : Int} {L : List Int} (s : Sides W H L) (t : Int) : land_isTile.f W H L t = some (decide (isT W H t)) := by
  unfold land_isTile.f
  rw [area s]
  by_cases h : t ≥ 0
  · rw [if_pos h]; exact congrArg some (decide_eq_decide.mpr ⟨fun a => ⟨h, a⟩, fun a => a.2⟩)
  · rw [if_neg h]; exact congrArg some (decide_eq_false (fun a => h a.1)).symm
theorem Is_ok {W H : Int} {L : List Int} (s : Sides W H L) (t : Int) : hinterlandref02_Is.f W H L t = some (decide (isT W H t)) := isTile_ok s t
theorem tile_xy {W H : Int} {L : List Int} (s : Sides W H L) {t : Int} (ht : isT W H t) : 0 ≤ t / W ∧ t / W < H ∧ 0 ≤ t % W ∧ t % W < W ∧ t / W * W + t % W = t := by
  obtain ⟨a, b, c, e, f⟩ := s
  obtain ⟨h0, h1⟩ := ht
  refine ⟨Int.ediv_nonneg h0 (by omega), Int.ediv_lt_of_lt_mul (by omega) (by rw [Int.mul_comm]; exact h1), Int.emod_nonneg t (by omega), Int.emod_lt_of_pos t (by omega), ?_⟩
  rw [Int.mul_comm]; exact Int.mul_ediv_add_emod t W
theorem pl_in {W H : Int} {L : List Int} (s : Sides W H L) {t : Int} (ht : isT W H t) : 0 ≤ pl W t ∧ pl W t + W + 2 < (L.length : Int) := by
  obtain ⟨y0, y1, x0, x1, _⟩ := tile_xy s ht
  obtain ⟨a, b, c, e, f⟩ := s
  unfold pl
  have h1 := row_in (m := W + 1) (show 0 ≤ t / W + 1 by omega) (show t / W + 1 ≤ H by omega) (by omega)
  have h2 := row_in (m := W + 1) y0 (show t / W ≤ H by omega) (by omega)
  have ep : (t / W + 1) * (W + 1) = t / W * (W + 1) + (W + 1) := by rw [Int.add_mul, Int.one_mul]
  omega
theorem pl_wrap {W H : Int} {L : List Int} (s : Sides W H L) {t : Int} (ht : isT W H t) : wrap64 (wrap64 (wrap64 (Int.tdiv t W) * wrap64 (W + 1)) + Int.tmod t W) = pl W t := by
  obtain ⟨y0, y1, x0, x1, _⟩ := tile_xy s ht
  obtain ⟨i0, i1⟩ := pl_in s ht
  obtain ⟨l0, l1⟩ := len_le s
  obtain ⟨a, b, c, e, f⟩ := s
  have h2 := row_in (m := W + 1) y0 (show t / W ≤ H by omega) (by omega)
  rw [Int.tdiv_eq_ediv_of_nonneg ht.1, Int.tmod_eq_emod_of_nonneg ht.1, w64_in (x := t / W) (by omega) (by omega), w64_in (x := W + 1) (by omega) (by omega), w64_in (x := t / W * (W + 1)) (by omega) (by omega)]
  exact w64_in (x := pl W t) (by omega) (by omega)
theorem places_ok {W H : Int} {L : List Int} (s : Sides W H L) {t : Int} (ht : isT W H t) : hinterlandref02_Places.f W H L t = some (pl W t, pl W t + 1, pl W t + W + 2, pl W t + W + 1) := by
  have hw := pl_wrap s ht
  obtain ⟨i0, i1⟩ := pl_in s ht
  obtain ⟨l0, l1⟩ := len_le s
  obtain ⟨a, b, c, e, f⟩ := s
  unfold hinterlandref02_Places.f
  rw [if_neg (by omega), hw, w64_in (x := pl W t + 1) (by omega) (by omega), w64_in (x := pl W t + W) (by omega) (by omega), w64_in (x := pl W t + W + 2) (by omega) (by omega), w64_in (x := pl W t + W + 1) (by omega) (by omega)]
theorem four_ok {W H : Int} {L M : List Int} (s : Sides W H L) (hm : M.length = L.length) {t : Int} (ht : isT W H t) : land_four.f W H M t = some (rd M (pl W t), rd M (pl W t + 1), rd M (pl W t + W + 2), rd M (pl W t + W + 1)) := by
  have hw := pl_wrap s ht
  obtain ⟨i0, i1⟩ := pl_in s ht
  obtain ⟨l0, l1⟩ := len_le s
  obtain ⟨a, b, c, e, f⟩ := s
  unfold land_four.f
  rw [if_neg (by omega), hw, w64_in (x := pl W t + 1) (by omega) (by omega), w64_in (x := pl W t + W) (by omega) (by omega), w64_in (x := pl W t + W + 2) (by omega) (by omega), w64_in (x := pl W t + W + 1) (by omega) (by omega), hm]
  rw [if_pos (by omega), if_pos (by omega), if_pos (by omega), if_pos (by omega), if_pos (by omega), if_pos (by omega), if_pos (by omega), if_pos (by omega)]
end Go.Proofs.Ytchflcnegpnkkaa.Til
namespace Go.Proofs.Ytchflcnegpnkkaa.Shi
open Go.RowKit Go.Proofs.YtchflcnegpnkkaaOwn Go.Proofs.Ytchflcnegpnkkaa.Q Go.Proofs.Ytchflcnegpnkkaa.Val Go.Proofs.Ytchflcnegpnkkaa.Til Go.Proofs.YtchflcnegpnkkaaW.PrintWords Go.Proofs.YtchflcnegpnkkaaW.PrintLast
abbrev R := Int × Int × List Int × (List (S36)) × Int × Int
/-- The steps between two corners. -/
def dist (W x y i : Int) : Int := mx (x - i % (W + 1)) (i % (W + 1) - x) + mx (y - i / (W + 1)) (i / (W + 1) - y)
/-- What a corner becomes. -/
def nv (W x y z : Int) (up : Bool) (L : List Int) (i : Int) : Int := if up = true then mx (rd L i) (z - dist W x y i) else mn (rd L i) (z + dist W x y i)
def on (W t p : Int) : Prop := p = pl W t ∨ p = pl W t + 1 ∨ p = pl W t + W + 2 ∨ p = pl W t + W + 1
def Hit (W H : Int) (h : List Int) (i p : Int) : Prop := ∃ j, i ≤ j ∧ j < (h.length : Int) ∧ isT W H (rd h j) ∧ on W (rd h j) p
theorem held_ok {W H : Int} {L : List Int} (s : Sides W H L) {h : List Int} (hl : (h.length : Int) ≤ 4000) (p : Int) : ∀ (d : Nat) (i : Int), 0 ≤ i → i + d = h.length → ∃ b, Ev (fun k => hinterlandref02_held.l0 k p h (h.length : Int) i W H L) b ∧ (b = true ↔ Hit W H h i p) := by
  intro d; induction d with
  | zero =>
    intro i i0 hd
    refine ⟨false, ?_, ⟨fun h => absurd h (by decide), fun ⟨j, a, b, _⟩ => by omega⟩⟩
    refine Ev.step (fun _ => rfl) ?_
    simp only [hinterlandref02_held.l0, show ¬ i < (h.length : Int) by omega, if_false]; exact Ev.now _
  | succ d ih =>
    intro i i0 hd
    obtain ⟨b, h1, h2⟩ := ih (i + 1) (by omega) (by omega)
    have w1 : wrap64 (i + 1) = i + 1 := w64_in (by omega) (by omega)
    have split : Hit W H h i p ↔ (isT W H (rd h i) ∧ on W (rd h i) p) ∨ Hit W H h (i + 1) p := by
      constructor
      · rintro ⟨j, a, b, c, e⟩
        by_cases q : j = i
        · subst q; exact Or.inl ⟨c, e⟩
        · exact Or.inr ⟨j, by omega, b, c, e⟩
      · rintro (⟨c, e⟩ | ⟨j, a, b, c, e⟩)
        · exact ⟨i, by omega, by omega, c, e⟩
        · exact ⟨j, by omega, b, c, e⟩
    by_cases ht : isT W H (rd h i)
    · have hp := Til.places_ok s ht
      by_cases ho : on W (rd h i) p
      · refine ⟨true, ?_, ⟨fun _ => split.2 (Or.inl ⟨ht, ho⟩), fun _ => rfl⟩⟩
        refine ⟨6, fun k hk => ?_⟩
        obtain ⟨k, rfl⟩ : ∃ m, k = m + 1 + 1 + 1 + 1 + 1 + 1 := ⟨k - 6, by omega⟩
        show hinterlandref02_held.l0 (k + 1 + 1 + 1 + 1 + 1 + 1) p h (h.length : Int) i W H L = _
        simp only [hinterlandref02_held.l0]
        rw [if_pos (by omega), if_pos (by omega), if_pos (by omega), Is_ok s, decide_eq_true ht]
        simp only [Option.bind_some, if_true]
        rw [hp]
        simp only [Option.bind_some]
        unfold on at ho
        generalize pl W (rd h i) = q at *
        simp only [hinterlandref02_held.l1, show rd [q, q + 1, q + W + 2, q + W + 1] 0 = q from rfl, show wrap64 (0 + 1) = 1 from w64_in (by omega) (by omega), show wrap64 (1 + 1) = 2 from w64_in (by omega) (by omega), show wrap64 (2 + 1) = 3 from w64_in (by omega) (by omega), show wrap64 (3 + 1) = 4 from w64_in (by omega) (by omega), show rd [q, q + 1, q + W + 2, q + W + 1] 1 = q + 1 from rfl, show rd [q, q + 1, q + W + 2, q + W + 1] 2 = q + W + 2 from rfl, show rd [q, q + 1, q + W + 2, q + W + 1] 3 = q + W + 1 from rfl]
        by_cases g0 : q = p
        · rw [if_pos (by omega), if_pos (by omega), if_pos g0]
        rw [if_pos (by omega), if_pos (by omega), if_neg g0]
        by_cases g1 : q + 1 = p
        · rw [if_pos (by omega), if_pos (by omega), if_pos g1]
        rw [if_pos (by omega), if_pos (by omega), if_neg g1]
        by_cases g2 : q + W + 2 = p
        · rw [if_pos (by omega), if_pos (by omega), if_pos g2]
        rw [if_pos (by omega), if_pos (by omega), if_neg g2]
        rw [if_pos (by omega), if_pos (by omega), if_pos (by omega)]
      · obtain ⟨K, hK⟩ := h1
        refine ⟨b, ?_, by rw [h2, split]; exact ⟨Or.inr, fun g => g.elim (fun g => absurd g.2 ho) id⟩⟩
        refine ⟨K + 6, fun k hk => ?_⟩
        obtain ⟨k, rfl⟩ : ∃ m, k = m + 1 + 1 + 1 + 1 + 1 + 1 := ⟨k - 6, by omega⟩
        show hinterlandref02_held.l0 (k + 1 + 1 + 1 + 1 + 1 + 1) p h (h.length : Int) i W H L = _
        rw [hinterlandref02_held.l0]
        rw [if_pos (by omega), if_pos (by omega), if_pos (by omega), Is_ok s, decide_eq_true ht]
        simp only [Option.bind_some, if_true]
        rw [hp]
        simp only [Option.bind_some]
        unfold on at ho
        generalize pl W (rd h i) = q at *
        simp only [hinterlandref02_held.l1, show rd [q, q + 1, q + W + 2, q + W + 1] 0 = q from rfl, show wrap64 (0 + 1) = 1 from w64_in (by omega) (by omega), show wrap64 (1 + 1) = 2 from w64_in (by omega) (by omega), show wrap64 (2 + 1) = 3 from w64_in (by omega) (by omega), show wrap64 (3 + 1) = 4 from w64_in (by omega) (by omega), show rd [q, q + 1, q + W + 2, q + W + 1] 1 = q + 1 from rfl, show rd [q, q + 1, q + W + 2, q + W + 1] 2 = q + W + 2 from rfl, show rd [q, q + 1, q + W + 2, q + W + 1] 3 = q + W + 1 from rfl]
        rw [if_pos (by omega), if_pos (by omega), if_neg (by omega), if_pos (by omega), if_pos (by omega), if_neg (by omega), if_pos (by omega), if_pos (by omega), if_neg (by omega), if_pos (by omega), if_pos (by omega), if_neg (by omega), if_neg (by omega), w1]
        exact hK k (by omega)
    · refine ⟨b, ?_, by rw [h2, split]; exact ⟨Or.inr, fun g => g.elim (fun g => absurd g.1 ht) id⟩⟩
      refine Ev.step (fun _ => rfl) ?_
      simp only [hinterlandref02_held.l0, show i < (h.length : Int) by omega, i0, if_true, Is_ok s, ht, decide_false, Option.bind_some, w1]
      exact h1
/-- What was changed, as the lists tell it. -/
structure Told (W : Int) (ch : Int → Prop) (C : List S36) (i : Int) : Prop where
  len : (C.length : Int) ≤ i
  each : ∀ j : Int, 0 ≤ j → j < (C.length : Int) → ∃ q : Int, 0 ≤ q ∧ q < i ∧ ch q ∧ (rd_T36 C j).f0 = q % (W + 1) ∧ (rd_T36 C j).f1 = q / (W + 1)
  all : ∀ q : Int, 0 ≤ q → q < i → ch q → ∃ j : Int, 0 ≤ j ∧ j < (C.length : Int) ∧ (rd_T36 C j).f0 = q % (W + 1) ∧ (rd_T36 C j).f1 = q / (W + 1)
theorem rd_old {C : List S36} {c : S36} {j : Int} (h0 : 0 ≤ j) (h : j < (C.length : Int)) : rd_T36 (C ++ [c]) j = rd_T36 C j := by
  unfold rd_T36
  rw [List.getD_eq_getElem?_getD, List.getD_eq_getElem?_getD, List.getElem?_append_left (by omega)]
theorem rd_new {C : List S36} {c : S36} : rd_T36 (C ++ [c]) (C.length : Int) = c := by
  unfold rd_T36
  simp
theorem Told.same {W : Int} {ch : Int → Prop} {C : List S36} {i : Int} (t : Told W ch C i) (h : ¬ ch i) : Told W ch C (i + 1) := by
  refine ⟨by have := t.len; omega, fun j a b => ?_, fun q a b c => ?_⟩
  · obtain ⟨q, q0, q1, r⟩ := t.each j a b; exact ⟨q, q0, by omega, r⟩
  · by_cases e : q = i
    · subst e; exact absurd c h
    · exact t.all q a (by omega) c
theorem Told.more {W : Int} {ch : Int → Prop} {C : List S36} {i v : Int} (t : Told W ch C i) (h0 : 0 ≤ i) (h : ch i) : Told W ch (C ++ [⟨i % (W + 1), i / (W + 1), v⟩]) (i + 1) := by
  refine ⟨by have := t.len; simp; omega, fun j a b => ?_, fun q a b c => ?_⟩
  · by_cases e : j < (C.length : Int)
    · rw [rd_old a e]
      obtain ⟨q, q0, q1, r⟩ := t.each j a e; exact ⟨q, q0, by omega, r⟩
    · have : j = (C.length : Int) := by simp at b; omega
      rw [this, rd_new]
      exact ⟨i, h0, by omega, h, rfl, rfl⟩
  · by_cases e : q = i
    · subst e; exact ⟨C.length, by omega, by simp; omega, by rw [rd_new], by rw [rd_new]⟩
    · obtain ⟨j, a', b', c'⟩ := t.all q a (by omega) c
      exact ⟨j, a', by simp; omega, by rw [rd_old a' b']; exact c'⟩
def E7 : R := (0, 0, [], [], 0, 7)
def Bad (W H : Int) (L M h : List Int) (i : Int) : Prop := ∃ j, i ≤ j ∧ j < (h.length : Int) ∧ isT W H (rd h j) ∧ ∃ p, on W (rd h j) p ∧ rd L p ≠ rd M p
theorem land_tail {W H : Int} {L M : List Int} (s : Sides W H L) (hm : M.length = L.length) {h : List Int} (hl : (h.length : Int) ≤ 4000) (C : List S36) (S : Int) : ∀ (d : Nat) (i : Int), 0 ≤ i → i + d = h.length → (Bad W H L M h i → Ev (fun k => land_Shift.l1 k C S h (h.length : Int) i W H L W H M) E7) ∧ (¬ Bad W H L M h i → Ev (fun k => land_Shift.l1 k C S h (h.length : Int) i W H L W H M) (W, H, M, C, S, 0)) := by
  intro d; induction d with
  | zero =>
    intro i i0 hd
    refine ⟨fun ⟨j, a, b, _⟩ => by omega, fun _ => ?_⟩
    refine Ev.step (fun _ => rfl) ?_
    simp only [land_Shift.l1, show ¬ i < (h.length : Int) by omega, if_false]; exact Ev.now _
  | succ d ih =>
    intro i i0 hd
    obtain ⟨g1, g2⟩ := ih (i + 1) (by omega) (by omega)
    have w1 : wrap64 (i + 1) = i + 1 := w64_in (by omega) (by omega)
    have hi : i < (h.length : Int) := by omega
    have split : Bad W H L M h i ↔ (isT W H (rd h i) ∧ ∃ p, on W (rd h i) p ∧ rd L p ≠ rd M p) ∨ Bad W H L M h (i + 1) := by
      constructor
      · rintro ⟨j, a, b, c, e⟩
        by_cases q : j = i
        · subst q; exact Or.inl ⟨c, e⟩
        · exact Or.inr ⟨j, by omega, b, c, e⟩
      · rintro (⟨c, e⟩ | ⟨j, a, b, c, e⟩)
        · exact ⟨i, by omega, by omega, c, e⟩
        · exact ⟨j, by omega, b, c, e⟩
    by_cases ht : isT W H (rd h i)
    · have hp := four_ok s rfl ht
      have hq := four_ok s hm ht
      generalize hx : (!(rd L (pl W (rd h i)) == rd M (pl W (rd h i))) || (!(rd L (pl W (rd h i) + 1) == rd M (pl W (rd h i) + 1)) || (!(rd L (pl W (rd h i) + W + 2) == rd M (pl W (rd h i) + W + 2)) || (!(rd L (pl W (rd h i) + W + 1) == rd M (pl W (rd h i) + W + 1)))))) = bx
      have hbx : bx = true ↔ ∃ p, on W (rd h i) p ∧ rd L p ≠ rd M p := by
        rw [← hx]
        simp only [Bool.or_eq_true, Bool.not_eq_true', beq_eq_false_iff_ne, ne_eq]
        constructor
        · rintro (e | e | e | e)
          · exact ⟨_, Or.inl rfl, e⟩
          · exact ⟨_, Or.inr (Or.inl rfl), e⟩
          · exact ⟨_, Or.inr (Or.inr (Or.inl rfl)), e⟩
          · exact ⟨_, Or.inr (Or.inr (Or.inr rfl)), e⟩
        · rintro ⟨p, (rfl | rfl | rfl | rfl), e⟩
          · exact Or.inl e
          · exact Or.inr (Or.inl e)
          · exact Or.inr (Or.inr (Or.inl e))
          · exact Or.inr (Or.inr (Or.inr e))
      have go : ∀ k, land_Shift.l1 (k + 1 + 1) C S h (h.length : Int) i W H L W H M = if bx = true then some E7 else land_Shift.l1 k C S h (h.length : Int) (i + 1) W H L W H M := by
        intro k
        simp only [land_Shift.l1, land_Shift.j6]
        rw [if_pos hi, if_pos i0, if_pos hi, isTile_ok s, decide_eq_true ht]
        simp only [Option.bind_some, if_true]
        have hq' : land_four.f W H M (rd h i) = _ := hq
        rw [hp, hq']
        simp only [Option.bind_some, hx, w1]
        rfl
      have up : ∀ r, bx = false → Ev (fun k => land_Shift.l1 k C S h (h.length : Int) (i + 1) W H L W H M) r → Ev (fun k => land_Shift.l1 k C S h (h.length : Int) i W H L W H M) r := by
        intro r hb ⟨K, hK⟩
        refine ⟨K + 2, fun k hk => ?_⟩
        obtain ⟨k, rfl⟩ : ∃ m, k = m + 1 + 1 := ⟨k - 2, by omega⟩
        show land_Shift.l1 (k + 1 + 1) C S h (h.length : Int) i W H L W H M = _
        rw [go, hb, if_neg (by decide)]
        exact hK k (by omega)
      cases hb : bx with
      | true =>
        refine ⟨fun _ => ⟨2, fun k hk => ?_⟩, fun n => absurd (split.2 (Or.inl ⟨ht, hbx.1 hb⟩)) n⟩
        obtain ⟨k, rfl⟩ : ∃ m, k = m + 1 + 1 := ⟨k - 2, by omega⟩
        show land_Shift.l1 (k + 1 + 1) C S h (h.length : Int) i W H L W H M = _
        rw [go, hb, if_pos rfl]
      | false =>
        have nb : ¬ ∃ p, on W (rd h i) p ∧ rd L p ≠ rd M p := fun e => by rw [hbx.2 e] at hb; exact absurd hb (by decide)
        refine ⟨fun b => up _ hb (g1 ((split.1 b).elim (fun e => absurd e.2 nb) id)), fun n => up _ hb (g2 (fun b => n (split.2 (Or.inr b))))⟩
    · have up : ∀ r, Ev (fun k => land_Shift.l1 k C S h (h.length : Int) (i + 1) W H L W H M) r → Ev (fun k => land_Shift.l1 k C S h (h.length : Int) i W H L W H M) r := by
        intro r ⟨K, hK⟩
        refine ⟨K + 2, fun k hk => ?_⟩
        obtain ⟨k, rfl⟩ : ∃ m, k = m + 1 + 1 := ⟨k - 2, by omega⟩
        show land_Shift.l1 (k + 1 + 1) C S h (h.length : Int) i W H L W H M = _
        simp only [land_Shift.l1, land_Shift.j6]
        rw [if_pos hi, if_pos i0, if_pos hi, isTile_ok s, decide_eq_false ht]
        simp only [Option.bind_some, w1]
        exact hK k (by omega)
      exact ⟨fun b => up _ (g1 ((split.1 b).elim (fun e => absurd e.1 ht) id)), fun n => up _ (g2 (fun b => n (split.2 (Or.inr b))))⟩
theorem ref_tail {W H : Int} {L M : List Int} (s : Sides W H L) {h : List Int} (hl : (h.length : Int) ≤ 4000) (C : List S36) (S : Int) {ch : Int → Prop} (t : Told W ch C (L.length : Int)) : ∀ (d : Nat) (i : Int), 0 ≤ i → i + d = C.length → ((∃ j q : Int, i ≤ j ∧ j < (C.length : Int) ∧ (rd_T36 C j).f0 = q % (W + 1) ∧ (rd_T36 C j).f1 = q / (W + 1) ∧ Hit W H h 0 q) → Ev (fun k => hinterlandref02_Shift.l1 k h C S C (C.length : Int) i W H L W H M) E7) ∧ (¬ (∃ j q : Int, i ≤ j ∧ j < (C.length : Int) ∧ (rd_T36 C j).f0 = q % (W + 1) ∧ (rd_T36 C j).f1 = q / (W + 1) ∧ Hit W H h 0 q) → Ev (fun k => hinterlandref02_Shift.l1 k h C S C (C.length : Int) i W H L W H M) (W, H, M, C, S, 0)) := by
  obtain ⟨n0, n1⟩ := len_le s
  have tl := t.len
  have hs := s
  obtain ⟨sa, sb, sc, se, sf⟩ := s
  intro d; induction d with
  | zero =>
    intro i i0 hd
    refine ⟨fun ⟨j, q, a, b, _⟩ => by omega, fun _ => ?_⟩
    refine Ev.step (fun _ => rfl) ?_
    simp only [hinterlandref02_Shift.l1, show ¬ i < (C.length : Int) by omega, if_false]; exact Ev.now _
  | succ d ih =>
    intro i i0 hd
    obtain ⟨g1, g2⟩ := ih (i + 1) (by omega) (by omega)
    have w1 : wrap64 (i + 1) = i + 1 := w64_in (by omega) (by omega)
    have hi : i < (C.length : Int) := by omega
    obtain ⟨q, q0, q1, _, f0, f1⟩ := t.each i i0 hi
    have hdm : q / (W + 1) * (W + 1) + q % (W + 1) = q := by rw [Int.mul_comm]; exact Int.mul_ediv_add_emod q (W + 1)
    have hm0 := Int.emod_nonneg q (show W + 1 ≠ 0 by omega)
    have hd0 := Int.mul_nonneg (Int.ediv_nonneg q0 (show 0 ≤ W + 1 by omega)) (show 0 ≤ W + 1 by omega)
    have hpl : wrap64 (wrap64 ((rd_T36 C i).f1 * wrap64 (W + 1)) + (rd_T36 C i).f0) = q := by
      rw [f0, f1, w64_in (x := W + 1) (by omega) (by omega), w64_in (x := q / (W + 1) * (W + 1)) (by omega) (by omega), hdm, w64_in (by omega) (by omega)]
    have one : ∀ q' : Int, (rd_T36 C i).f0 = q' % (W + 1) → (rd_T36 C i).f1 = q' / (W + 1) → q' = q := fun q' a b => by
      have := Int.mul_ediv_add_emod q' (W + 1)
      rw [← a, ← b, f0, f1, Int.mul_comm, hdm] at this; exact this.symm
    obtain ⟨b, e1, e2⟩ := held_ok hs hl q h.length 0 (by omega) (by omega)
    have step : ∀ r, Ev (fun k => if b = true then some E7 else hinterlandref02_Shift.l1 k h C S C (C.length : Int) (i + 1) W H L W H M) r → Ev (fun k => hinterlandref02_Shift.l1 k h C S C (C.length : Int) i W H L W H M) r := by
      intro r hr
      refine Ev.step (fun _ => rfl) ?_
      simp only [hinterlandref02_Shift.l1, hi, i0, if_true, hpl, w1]
      unfold hinterlandref02_held.f
      exact Ev.bind e1 hr
    cases hb : b with
    | true =>
      rw [hb] at step e2
      refine ⟨fun _ => step _ (Ev.now _), fun n => absurd ⟨i, q, by omega, hi, f0, f1, e2.1 rfl⟩ n⟩
    | false =>
      rw [hb] at step e2
      have nh : ¬ Hit W H h 0 q := fun x => absurd (e2.2 x) (by decide)
      refine ⟨fun ⟨j, q', a, b', c1, c2, c3⟩ => step _ ?_, fun n => step _ ?_⟩
      · by_cases e : j = i
        · subst e; rw [one q' c1 c2] at c3; exact absurd c3 nh
        · exact g1 ⟨j, q', by omega, b', c1, c2, c3⟩
      · exact g2 (fun ⟨j, q', a, r⟩ => n ⟨j, q', by omega, r⟩)
def Post (W H x y z : Int) (up : Bool) (L : List Int) (r : R) : Prop := r = E7 ∨ ∃ (M : List Int) (C : List S36) (S : Int), r = (W, H, M, C, S, 0) ∧ M.length = L.length ∧ (C.length : Int) ≤ L.length ∧ ∀ q : Int, 0 ≤ q → q < (L.length : Int) → rd M q = nv W x y z up L q
theorem rd_app {N : List Int} {v j : Int} (h0 : 0 ≤ j) (h : j < (N.length : Int)) : rd (N ++ [v]) j = rd N j := by
  unfold rd
  rw [List.getD_eq_getElem?_getD, List.getD_eq_getElem?_getD, List.getElem?_append_left (by omega)]
theorem rd_end {N : List Int} {v : Int} : rd (N ++ [v]) (N.length : Int) = v := by unfold rd; simp
theorem drop_at {L : List Int} {i : Int} (h0 : 0 ≤ i) (h : i < (L.length : Int)) : L.drop i.toNat = rd L i :: L.drop (i.toNat + 1) := by
  unfold rd
  rw [List.drop_eq_getElem_cons (by omega), List.getD_eq_getElem?_getD, List.getElem?_eq_getElem (by omega)]; rfl
theorem shift_loop {W H : Int} {L : List Int} (s : Sides W H L) (hh : Hts L) {h : List Int} (hl : (h.length : Int) ≤ 4000) {x y z : Int} (x0 : 0 ≤ x ∧ x ≤ W) (y0 : 0 ≤ y ∧ y ≤ H) (z0 : 0 ≤ z ∧ z ≤ 15) (up : Bool) : ∀ (d : Nat) (i : Int) (N : List Int) (C : List S36) (S : Int), 0 ≤ i → i + d = L.length → (N.length : Int) = i → (∀ q : Int, 0 ≤ q → q < i → rd N q = nv W x y z up L q) → Told W (fun q => nv W x y z up L q ≠ rd L q) C i → ∃ r : R, Ev (fun k => land_Shift.l0 k x y up h z C S L (L.length : Int) i W H L W H (N ++ L.drop i.toNat)) r ∧ Ev (fun k => hinterlandref02_Shift.l0 k x y up h z C S L (L.length : Int) i W H L W H N) r ∧ Post W H x y z up L r := by
  obtain ⟨n0, n1⟩ := len_le s
  obtain ⟨sa, sb, sc, se, sf⟩ := id s
  intro d; induction d with
  | zero =>
    intro i N C S i0 hd hN hv t
    have hi : i = (L.length : Int) := by omega
    have hnot : ¬ i < (L.length : Int) := by omega
    have hdr : L.drop i.toNat = [] := List.drop_eq_nil_of_le (by omega)
    rw [hdr, List.append_nil]
    rw [hi] at t hv hN
    have hNL : N.length = L.length := by omega
    obtain ⟨a1, a2⟩ := land_tail s hNL hl C S h.length 0 (by omega) (by omega)
    obtain ⟨b1, b2⟩ := ref_tail (M := N) s hl C S t C.length 0 (by omega) (by omega)
    have hbad : Bad W H L N h 0 ↔ (∃ j q : Int, 0 ≤ j ∧ j < (C.length : Int) ∧ (rd_T36 C j).f0 = q % (W + 1) ∧ (rd_T36 C j).f1 = q / (W + 1) ∧ Hit W H h 0 q) := by
      constructor
      · rintro ⟨j, j0, j1, ht, p, hp, hne⟩
        have hin := pl_in s ht
        have hp0 : 0 ≤ p ∧ p < (L.length : Int) := by unfold on at hp; omega
        have := t.all p hp0.1 hp0.2 (by rw [← hv p hp0.1 hp0.2]; exact fun e => hne e.symm)
        obtain ⟨c, c0, c1, c2, c3⟩ := this
        exact ⟨c, p, c0, c1, c2, c3, j, j0, j1, ht, hp⟩
      · rintro ⟨c, q, c0, c1, c2, c3, j, j0, j1, ht, hp⟩
        obtain ⟨q', q0, q1, hch, d2, d3⟩ := t.each c c0 c1
        have e : q' = q := by
          have h1 := Int.mul_ediv_add_emod q (W + 1)
          have h2 := Int.mul_ediv_add_emod q' (W + 1)
          rw [← d2, ← d3, c2, c3, h1] at h2; exact h2.symm
        subst e
        exact ⟨j, j0, j1, ht, q', hp, by rw [hv q' q0 q1]; exact fun e => hch e.symm⟩
    by_cases hb : Bad W H L N h 0
    · refine ⟨E7, Ev.step (fun _ => rfl) ?_, Ev.step (fun _ => rfl) ?_, Or.inl rfl⟩
      · simp only [land_Shift.l0, hnot, if_false]; exact a1 hb
      · simp only [hinterlandref02_Shift.l0, hnot, if_false]; exact b1 (hbad.1 hb)
    · refine ⟨_, Ev.step (fun _ => rfl) ?_, Ev.step (fun _ => rfl) ?_, Or.inr ⟨N, C, S, rfl, hNL, t.len, hv⟩⟩
      · simp only [land_Shift.l0, hnot, if_false]; exact a2 hb
      · simp only [hinterlandref02_Shift.l0, hnot, if_false]; exact b2 (fun e => hb (hbad.2 e))
  | succ d ih =>
    intro i N C S i0 hd hN hv t
    have hi : i < (L.length : Int) := by omega
    have hz := hh i i0 hi
    have w1 : wrap64 (i + 1) = i + 1 := w64_in (by omega) (by omega)
    have wW : wrap64 (W + 1) = W + 1 := w64_in (by omega) (by omega)
    have wN : ¬ W + 1 = 0 := by omega
    have m0 := Int.emod_nonneg i (show W + 1 ≠ 0 by omega)
    have m1 := Int.emod_lt_of_pos i (show 0 < W + 1 by omega)
    have d0 := Int.ediv_nonneg i0 (show 0 ≤ W + 1 by omega)
    have d1 : i / (W + 1) < H + 1 := Int.ediv_lt_of_lt_mul (by omega) (by omega)
    have tm : Int.tmod i (W + 1) = i % (W + 1) := Int.tmod_eq_emod_of_nonneg i0
    have td : wrap64 (Int.tdiv i (W + 1)) = i / (W + 1) := by rw [Int.tdiv_eq_ediv_of_nonneg i0, w64_in (by omega) (by omega)]
    have hdist : 0 ≤ dist W x y i ∧ dist W x y i ≤ 70 := by unfold dist mx; split <;> split <;> omega
    have hfar : land_far.f x y (i % (W + 1)) (i / (W + 1)) = some (dist W x y i) := by
      unfold land_far.f
      rw [w64_in (x := x - i % (W + 1)) (by omega) (by omega), w64_in (x := i % (W + 1) - x) (by omega) (by omega), w64_in (x := y - i / (W + 1)) (by omega) (by omega), w64_in (x := i / (W + 1) - y) (by omega) (by omega)]
      exact congrArg some (w64_in (x := dist W x y i) (by omega) (by omega))
    have hap1 : hinterlandref02_Apart.f x (i % (W + 1)) = some (mx (x - i % (W + 1)) (i % (W + 1) - x)) := Apart_ok (by omega) (by omega)
    have hap2 : hinterlandref02_Apart.f y (i / (W + 1)) = some (mx (y - i / (W + 1)) (i / (W + 1) - y)) := Apart_ok (by omega) (by omega)
    have hsum : wrap64 (mx (x - i % (W + 1)) (i % (W + 1) - x) + mx (y - i / (W + 1)) (i / (W + 1) - y)) = dist W x y i := w64_in (x := dist W x y i) (by omega) (by omega)
    have zm : wrap64 (z - dist W x y i) = z - dist W x y i := w64_in (by omega) (by omega)
    have zp : wrap64 (z + dist W x y i) = z + dist W x y i := w64_in (by omega) (by omega)
    have nb : -100 ≤ nv W x y z up L i ∧ nv W x y z up L i ≤ 100 := by unfold nv mx mn; split <;> split <;> omega
    have la : ∀ k, land_Shift.l0 (k + 1) x y up h z C S L (L.length : Int) i W H L W H (N ++ L.drop i.toNat) = land_Shift.j4 k x y up h z C S i (rd L i) (i % (W + 1)) (i / (W + 1)) (nv W x y z up L i) L (L.length : Int) i W H L W H (N ++ L.drop i.toNat) := by
      intro k
      simp only [land_Shift.l0, wW, tm, td, hfar, Option.bind_some, zm, zp]
      rw [if_pos hi, if_pos i0, if_pos hi, if_neg wN]
      unfold nv
      split <;> rfl
    have ra : ∀ k, hinterlandref02_Shift.l0 (k + 1) x y up h z C S L (L.length : Int) i W H L W H N = hinterlandref02_Shift.j4 k x y up h z C S (rd L i) (i % (W + 1)) (i / (W + 1)) (nv W x y z up L i) L (L.length : Int) i W H L W H N := by
      intro k
      simp only [hinterlandref02_Shift.l0, wW, tm, td, hap1, hap2, Option.bind_some, hsum, zm, zp]
      rw [if_pos hi, if_pos i0, if_pos hi, if_neg wN]
      unfold nv
      split <;> rfl
    have hnew : ∀ q : Int, 0 ≤ q → q < i + 1 → rd (N ++ [nv W x y z up L i]) q = nv W x y z up L q := by
      intro q q0 q1
      by_cases e : q < i
      · rw [rd_app q0 (by omega)]; exact hv q q0 e
      · have : q = i := by omega
        rw [this, ← hN, rd_end, hN]
    have hlen : ((N ++ [nv W x y z up L i]).length : Int) = i + 1 := by simp; omega
    have hNn : N.length < 17592186044416 := by omega
    have tn : (i + 1).toNat = i.toNat + 1 := by omega
    by_cases hc : nv W x y z up L i = rd L i
    · obtain ⟨r, e1, e2, e3⟩ := ih (i + 1) (N ++ [nv W x y z up L i]) C S (by omega) (by omega) hlen hnew (t.same (fun c => c hc))
      refine ⟨r, Ev.step la (Ev.step (fun _ => rfl) ?_), Ev.step ra (Ev.step (fun _ => rfl) ?_), e3⟩
      · simp only [land_Shift.j4, hc, if_true, w1]
        rw [tn, hc, List.append_assoc, List.singleton_append, ← drop_at i0 hi] at e1
        exact e1
      · simp only [hinterlandref02_Shift.j4, hNn, if_true, Option.bind_some, w1]
        simp only [if_pos hc]
        exact e2
    · have hap : hinterlandref02_Apart.f (nv W x y z up L i) (rd L i) = some (mx (nv W x y z up L i - rd L i) (rd L i - nv W x y z up L i)) := Apart_ok (by omega) (by omega)
      have hS : wrap64 (S + wrap64 (mx (wrap64 (nv W x y z up L i - rd L i)) (wrap64 (rd L i - nv W x y z up L i)) * 250)) = wrap64 (S + wrap64 (250 * mx (nv W x y z up L i - rd L i) (rd L i - nv W x y z up L i))) := by
        rw [w64_in (x := nv W x y z up L i - rd L i) (by omega) (by omega), w64_in (x := rd L i - nv W x y z up L i) (by omega) (by omega), Int.mul_comm]
      obtain ⟨r, e1, e2, e3⟩ := ih (i + 1) (N ++ [nv W x y z up L i]) (C ++ [⟨i % (W + 1), i / (W + 1), nv W x y z up L i⟩]) (wrap64 (S + wrap64 (250 * mx (nv W x y z up L i - rd L i) (rd L i - nv W x y z up L i)))) (by omega) (by omega) hlen hnew (t.more i0 hc)
      have hCn : C.length < 5864062014805 := by have := t.len; omega
      have hML : i < ((N ++ L.drop i.toNat).length : Int) := by simp; omega
      have hset : (N ++ L.drop i.toNat).set i.toNat (nv W x y z up L i) = N ++ [nv W x y z up L i] ++ L.drop (i + 1).toNat := by
        rw [drop_at i0 hi, tn, List.append_assoc, List.singleton_append, List.set_append_right _ _ (by omega), show i.toNat - N.length = 0 by omega]
        rfl
      refine ⟨r, Ev.step la (Ev.step (fun _ => rfl) ?_), Ev.step ra (Ev.step (fun _ => rfl) ?_), e3⟩
      · simp only [land_Shift.j4, hc, if_false, i0, hML, hCn, if_true, w1, hset, hS]
        exact e1
      · simp only [hinterlandref02_Shift.j4, hNn, if_true, Option.bind_some, w1, hc, if_false, hCn, hap]
        exact e2
end Go.Proofs.Ytchflcnegpnkkaa.Shi
namespace Go.Proofs.Ytchflcnegpnkkaa.Pure
open Go.RowKit Go.Proofs.YtchflcnegpnkkaaOwn Go.Proofs.Ytchflcnegpnkkaa.Q Go.Proofs.Ytchflcnegpnkkaa.Val Go.Proofs.Ytchflcnegpnkkaa.Known Go.Proofs.Ytchflcnegpnkkaa.Til Go.Proofs.Ytchflcnegpnkkaa.Shi Go.Proofs.YtchflcnegpnkkaaW.PrintWords Go.Proofs.YtchflcnegpnkkaaW.PrintLast
def Sum (W H x y : Int) (L : List Int) (up : Bool) (r : Shi.R) : Prop := r.2.2.2.2.2 ≠ 0 ∨ (Valid W H L ∧ 0 ≤ x ∧ x ≤ W ∧ 0 ≤ y ∧ y ≤ H ∧ ∃ (M : List Int) (C : List S36) (S : Int), r = (W, H, M, C, S, 0) ∧ M.length = L.length ∧ ∀ q : Int, 0 ≤ q → q < (L.length : Int) → rd M q = nv W x y (if up = true then rd L (y * (W + 1) + x) + 1 else rd L (y * (W + 1) + x) - 1) up L q)
theorem shift_both (W H : Int) (L : List Int) (x y : Int) (up : Bool) (h : List Int) (hl : (h.length : Int) ≤ 4000) : ∃ r : Shi.R, Ev (fun k => land_Shift.f k W H L x y up h) r ∧ Ev (fun k => hinterlandref02_Shift.f k W H L x y up h) r ∧ r.2.2.1.length ≤ 2000 ∧ r.2.2.2.1.length ≤ 2000 ∧ Sum W H x y L up r := by
  obtain ⟨e, v1, v2, v3⟩ := validate_ok W H L
  unfold land_Shift.f hinterlandref02_Shift.f
  by_cases he : e = 0
  · have v := v3.1 he
    rw [he] at v1 v2
    have s := v.1
    obtain ⟨n0, n1⟩ := len_le s
    obtain ⟨sa, sb, sc, se, sf⟩ := id s
    by_cases hc : x < 0 ∨ x > W ∨ y < 0 ∨ y > H
    · refine ⟨(0, 0, [], [], 0, 2), Ev.bind v1 ⟨1, fun k hk => ?_⟩, Ev.bind v2 ⟨1, fun k hk => ?_⟩, by simp, by simp, Or.inl (by decide)⟩ <;> obtain ⟨k, rfl⟩ : ∃ m, k = m + 1 := ⟨k - 1, by omega⟩
      · simp only [if_true, land_Shift.j0]
        by_cases c1 : x < 0
        · rw [if_pos c1]
        by_cases c2 : x > W
        · rw [if_neg c1, if_pos c2]
        by_cases c3 : y < 0
        · rw [if_neg c1, if_neg c2, if_pos c3]
        rw [if_neg c1, if_neg c2, if_neg c3, if_pos (decide_eq_true (by omega))]
      · simp only [if_true, hinterlandref02_Shift.j0]
        by_cases c1 : x < 0
        · rw [if_pos c1]
        by_cases c2 : x > W
        · rw [if_neg c1, if_pos c2]
        by_cases c3 : y < 0
        · rw [if_neg c1, if_neg c2, if_pos c3]
        rw [if_neg c1, if_neg c2, if_neg c3, if_pos (decide_eq_true (by omega))]
    · have c1 : ¬ x < 0 := by omega
      have c2 : ¬ x > W := by omega
      have c3 : ¬ y < 0 := by omega
      have c4 : ¬ y > H := by omega
      obtain ⟨p0, p1⟩ := row_in (m := W + 1) (show 0 ≤ y by omega) (show y ≤ H by omega) (by omega)
      have hp : wrap64 (wrap64 (y * wrap64 (W + 1)) + x) = y * (W + 1) + x := by
        rw [w64_in (x := W + 1) (by omega) (by omega), w64_in (x := y * (W + 1)) (by omega) (by omega), w64_in (by omega) (by omega)]
      have q0 : 0 ≤ y * (W + 1) + x := by omega
      have q1 : y * (W + 1) + x < (L.length : Int) := by omega
      have hz := v.2.1 _ q0 q1
      have w1 : wrap64 (rd L (y * (W + 1) + x) - 1) = rd L (y * (W + 1) + x) - 1 := w64_in (by omega) (by omega)
      have w2 : wrap64 (rd L (y * (W + 1) + x) - 1 + 2) = rd L (y * (W + 1) + x) + 1 := by rw [w64_in (by omega) (by omega)]; omega
      have w3 : wrap64 (rd L (y * (W + 1) + x) + 1) = rd L (y * (W + 1) + x) + 1 := w64_in (by omega) (by omega)
      generalize hzz : (if up = true then rd L (y * (W + 1) + x) + 1 else rd L (y * (W + 1) + x) - 1) = z
      have la : ∀ r, Ev (fun k => land_Shift.j1 k x y up h z W H L) r → Ev (fun k => if (0 : Int) = 0 then (if x < 0 then land_Shift.j0 k x y up h true W H L else if x > W then land_Shift.j0 k x y up h true W H L else if y < 0 then land_Shift.j0 k x y up h true W H L else land_Shift.j0 k x y up h (decide (y > H)) W H L) else some (0, 0, ([] : List Int), ([] : List (S36)), 0, 0)) r := by
        intro r hr
        simp only [if_true, c1, c2, c3, c4, if_false, decide_false]
        refine Ev.step (fun _ => rfl) ?_
        simp only [land_Shift.j0, hp, q0, q1, if_true, w1, w2]
        cases up with
        | true => simp only [if_true] at hzz ⊢; rw [hzz]; exact hr
        | false => simp at hzz ⊢; rw [hzz]; exact hr
      have ra : ∀ r, Ev (fun k => hinterlandref02_Shift.j1 k x y up h z W H L) r → Ev (fun k => if (0 : Int) = 0 then (if x < 0 then hinterlandref02_Shift.j0 k x y up h true W H L else if x > W then hinterlandref02_Shift.j0 k x y up h true W H L else if y < 0 then hinterlandref02_Shift.j0 k x y up h true W H L else hinterlandref02_Shift.j0 k x y up h (decide (y > H)) W H L) else some (0, 0, ([] : List Int), ([] : List (S36)), 0, 0)) r := by
        intro r hr
        simp only [if_true, c1, c2, c3, c4, if_false, decide_false]
        refine Ev.step (fun _ => rfl) ?_
        simp only [hinterlandref02_Shift.j0, hp, q0, q1, if_true, w1, w3]
        cases up with
        | true => simp only [if_true] at hzz ⊢; rw [hzz]; exact hr
        | false => simp at hzz ⊢; rw [hzz]; exact hr
      by_cases hb : z < 0 ∨ z > 15
      · refine ⟨(0, 0, [], [], 0, 6), Ev.bind v1 (la _ ⟨2, fun k hk => ?_⟩), Ev.bind v2 (ra _ ⟨2, fun k hk => ?_⟩), by simp, by simp, Or.inl (by decide)⟩ <;> obtain ⟨k, rfl⟩ : ∃ m, k = m + 1 + 1 := ⟨k - 2, by omega⟩
        · simp only [land_Shift.j1, land_Shift.j2]
          by_cases d1 : z < 0
          · rw [if_pos d1, if_pos trivial]
          rw [if_neg d1, if_pos (decide_eq_true (by omega))]
        · simp only [hinterlandref02_Shift.j1, hinterlandref02_Shift.j2]
          by_cases d1 : z < 0
          · rw [if_pos d1, if_pos trivial]
          rw [if_neg d1, if_pos (decide_eq_true (by omega))]
      · have d1 : ¬ z < 0 := by omega
        have d2 : ¬ z > 15 := by omega
        obtain ⟨r, e1, e2, e3⟩ := shift_loop s v.2.1 hl (x := x) (y := y) (z := z) (by omega) (by omega) (by omega) up L.length 0 [] [] 0 (by omega) (by omega) rfl (fun q a b => by omega) ⟨by simp, fun j a b => by simp at b; omega, fun q a b => by omega⟩
        have hlen : ([] : List Int).length + L.length < 17592186044416 := by simp; omega
        refine ⟨r, Ev.bind v1 (la _ (Ev.step (fun _ => rfl) ?_)), Ev.bind v2 (ra _ (Ev.step (fun _ => rfl) ?_)), ?_, ?_, ?_⟩
        · simp only [land_Shift.j1, d1, d2, if_false, decide_false]
          refine Ev.step (fun _ => rfl) ?_
          simp only [land_Shift.j2, hlen, if_true]
          exact e1
        · simp only [hinterlandref02_Shift.j1, d1, d2, if_false, decide_false]
          refine Ev.step (fun _ => rfl) ?_
          simp only [hinterlandref02_Shift.j2]
          exact e2
        · rcases e3 with rfl | ⟨M, C, S, rfl, m1, m2, m3⟩
          · simp [E7]
          · show M.length ≤ 2000; omega
        · rcases e3 with rfl | ⟨M, C, S, rfl, m1, m2, m3⟩
          · simp [E7]
          · show C.length ≤ 2000; omega
        · rcases e3 with rfl | ⟨M, C, S, rfl, m1, m2, m3⟩
          · exact Or.inl (by decide)
          · refine Or.inr ⟨v, by omega, by omega, by omega, by omega, M, C, S, rfl, m1, ?_⟩
            rw [hzz]; exact m3
  · refine ⟨(0, 0, [], [], 0, e), Ev.bind v1 ?_, Ev.bind v2 ?_, by simp, by simp, Or.inl he⟩
    · simp [he]; exact Ev.now _
    · simp [he]; exact Ev.now _
theorem list_self {l : List Int} (hl : l.length < 1000000000) : ∀ (d : Nat) (i : Int), 0 ≤ i → i + d = l.length → Ev (fun k => hinterlandsame_List_int.l0 k l l i) true := by
  intro d; induction d with
  | zero =>
    intro i i0 hd
    refine Ev.step (fun _ => rfl) ?_
    simp only [hinterlandsame_List_int.l0, show ¬ i < (l.length : Int) by omega, if_false]; exact Ev.now _
  | succ d ih =>
    intro i i0 hd
    refine Ev.step (fun _ => rfl) ?_
    simp only [hinterlandsame_List_int.l0, show i < (l.length : Int) by omega, i0, if_true, show wrap64 (i + 1) = i + 1 from w64_in (by omega) (by omega)]
    exact ih (i + 1) (by omega) (by omega)
theorem land_self (a b : Int) {l : List Int} (hl : l.length < 1000000000) : Ev (fun k => hinterlandsame_Land.f k a b l a b l) true := by
  unfold hinterlandsame_Land.f
  simp only [if_true]
  refine Ev.bind (?_ : Ev _ true) (Ev.now _)
  unfold hinterlandsame_List_int.f
  simp only [if_true]
  exact list_self hl l.length 0 (by omega) (by omega)
end Go.Proofs.Ytchflcnegpnkkaa.Pure
namespace Go.Proofs.Ytchflcnegpnkkaa.Pure
open Go.RowKit Go.Proofs.YtchflcnegpnkkaaOwn Go.Proofs.Ytchflcnegpnkkaa.Q Go.Proofs.Ytchflcnegpnkkaa.Val Go.Proofs.Ytchflcnegpnkkaa.Known Go.Proofs.Ytchflcnegpnkkaa.Til Go.Proofs.Ytchflcnegpnkkaa.Shi Go.Proofs.YtchflcnegpnkkaaW.PrintWords Go.Proofs.YtchflcnegpnkkaaW.PrintLast
set_option linter.unusedVariables false
set_option linter.unusedSimpArgs false
theorem large2 (a b : Int) (L T h : List Int) : Ev (fun k => hinterlandlaw02_large.f k a b L [T, h]) (decide (mx (mx (L.length : Int) T.length) h.length > 4000)) := by
  refine ⟨3, fun k hk => ?_⟩
  obtain ⟨k, rfl⟩ : ∃ m, k = m + 1 + 1 + 1 := ⟨k - 3, by omega⟩
  have w1 : wrap64 (0 + 1) = 1 := w64_in (by omega) (by omega)
  have w2 : wrap64 (1 + 1) = 2 := w64_in (by omega) (by omega)
  have hl : (([T, h] : List (List Int)).length : Int) = 2 := rfl
  have r0 : rd_L1 [T, h] 0 = T := rfl
  have r1 : rd_L1 [T, h] 1 = h := rfl
  unfold hinterlandlaw02_large.f
  simp only [hinterlandlaw02_large.l0, hl, w1, w2, r0, r1, show (0 : Int) < 2 by omega, show (1 : Int) < 2 by omega, show (0 : Int) ≤ 0 by omega, show (0 : Int) ≤ 1 by omega, show ¬ (2 : Int) < 2 by omega, if_true, if_false]
abbrev LR := Int × Int × List Int × Int × Int
/-- Both come to the same end. -/
def Both (g h : Nat → Option LR) : Prop := ∃ r : LR, Ev g r ∧ Ev h r ∧ r.2.2.1.length ≤ 2000
theorem Both.step {g g' h h' : Nat → Option LR} (a : ∀ k, g (k + 1) = g' k) (b : ∀ k, h (k + 1) = h' k) (x : Both g' h') : Both g h := by
  obtain ⟨r, e1, e2, e3⟩ := x
  exact ⟨r, Ev.step a e1, Ev.step b e2, e3⟩
theorem place_xy {W cx cy : Int} (hW : 0 ≤ W) (x0 : 0 ≤ cx) (x1 : cx ≤ W) : (cy * (W + 1) + cx) % (W + 1) = cx ∧ (cy * (W + 1) + cx) / (W + 1) = cy := by
  have e : cy * (W + 1) + cx = cx + (W + 1) * cy := by rw [Int.mul_comm]; omega
  rw [e, Int.add_mul_emod_self_left, Int.add_mul_ediv_left _ _ (by omega), Int.emod_eq_of_lt x0 (by omega), Int.ediv_eq_zero_of_lt x0 (by omega)]
  exact ⟨rfl, by omega⟩
theorem dist_self {W cx cy : Int} (hW : 0 ≤ W) (x0 : 0 ≤ cx) (x1 : cx ≤ W) : dist W cx cy (cy * (W + 1) + cx) = 0 := by
  unfold dist
  rw [(place_xy hW x0 x1).1, (place_xy hW x0 x1).2]
  unfold mx; split <;> split <;> omega
theorem l3_both {W H : Int} {L : List Int} (s : Sides W H L) {T held : List Int} (hh : (held.length : Int) ≤ 4000) {ht cx cy p : Int} (x0 : 0 ≤ cx) (x1 : cx ≤ W) (y0 : 0 ≤ cy) (y1 : cy ≤ H) (hp : p = cy * (W + 1) + cx) (j ix q0 q1 q2 q3 q4 q5 q6 q7 p0 p1 p2 p3 : Int)
    (cont : ∀ (S : Int) (N : List Int), N.length = L.length → Both (fun k => land_Level.l2 k ht held S T (T.length : Int) j (wrap64 (ix + 1)) W H L W H N q0 q1 q2 q3 q4 q5 q6 q7) (fun k => hinterlandref02_Level.l2 k ht held S T (T.length : Int) j (wrap64 (ix + 1)) W H L W H N p0 p1 p2 p3)) :
    ∀ (d : Nat) (N : List Int) (S : Int), N.length = L.length → (ht - rd N p).natAbs = d → Both (fun k => land_Level.l3 k ht held S T (T.length : Int) j ix W H L W H N cx cy q0 q1 q2 q3 q4 q5 q6 q7) (fun k => hinterlandref02_Level.l3 k ht held S p T (T.length : Int) j ix W H L W H N p0 p1 p2 p3) := by
  obtain ⟨n0, n1⟩ := len_le s
  obtain ⟨sa, sb, sc, se, sf⟩ := id s
  obtain ⟨r0, r1⟩ := row_in (m := W + 1) y0 y1 (by omega)
  have pw : wrap64 (wrap64 (cy * wrap64 (W + 1)) + cx) = p := by
    rw [w64_in (x := W + 1) (by omega) (by omega), w64_in (x := cy * (W + 1)) (by omega) (by omega), w64_in (by omega) (by omega)]; exact hp.symm
  have pa : 0 ≤ p := by omega
  have pb : p < (L.length : Int) := by omega
  have wW : wrap64 (W + 1) = W + 1 := w64_in (by omega) (by omega)
  have wN : ¬ W + 1 = 0 := by omega
  have px : Int.tmod p (W + 1) = cx := by rw [Int.tmod_eq_emod_of_nonneg pa, hp]; exact (place_xy (by omega) x0 x1).1
  have py : wrap64 (Int.tdiv p (W + 1)) = cy := by rw [Int.tdiv_eq_ediv_of_nonneg pa, hp, (place_xy (by omega) x0 x1).2, w64_in (by omega) (by omega)]
  intro d; induction d with
  | zero =>
    intro N S hN hd
    have he : rd N p = ht := by omega
    have pc : p < (N.length : Int) := by omega
    have c := cont S N hN
    refine Both.step (fun _ => rfl) (fun _ => rfl) ?_
    simp only [land_Level.l3, hinterlandref02_Level.l3, pw, pa, pc, he, if_true]
    exact c
  | succ d ih =>
    intro N S hN hd
    have he : ¬ rd N p = ht := by omega
    have pc : p < (N.length : Int) := by omega
    obtain ⟨r, e1, e2, l1, _, hs⟩ := shift_both W H N cx cy (decide (rd N p < ht)) held hh
    by_cases hr : r.2.2.2.2.2 = 0
    · rcases hs with hs | ⟨_, _, _, _, _, M, C, S2, rfl, m1, m2⟩
      · exact absurd hr hs
      · have hM : rd M p = (if decide (rd N p < ht) = true then rd N p + 1 else rd N p - 1) := by
          rw [m2 p pa pc, ← hp]
          unfold nv
          rw [hp, dist_self (by omega) x0 x1, ← hp]
          by_cases h1 : rd N p < ht
          · simp only [h1, decide_true, if_true]; unfold mx; split <;> omega
          · simp only [h1, decide_false, Bool.false_eq_true, if_false]; unfold mn; split <;> omega
        have nx := ih M (wrap64 (S + S2)) (by omega) (by
          by_cases h1 : rd N p < ht
          · simp only [h1, decide_true, if_true] at hM; omega
          · simp only [h1, decide_false, Bool.false_eq_true, if_false] at hM; omega)
        obtain ⟨r', f1, f2, f3⟩ := nx
        refine ⟨r', Ev.step (fun _ => rfl) ?_, Ev.step (fun _ => rfl) ?_, f3⟩
        · simp only [land_Level.l3, pw, pa, pc, he, if_true, if_false]
          refine Ev.bind e1 ?_
          simp only [if_true]; exact f1
        · simp only [hinterlandref02_Level.l3, pa, pc, he, if_true, if_false, wW, wN, px, py]
          refine Ev.bind e2 ?_
          simp only [if_true]; exact f2
    · refine ⟨(0, 0, [], 0, r.2.2.2.2.2), Ev.step (fun _ => rfl) ?_, Ev.step (fun _ => rfl) ?_, by simp⟩
      · simp only [land_Level.l3, pw, pa, pc, he, if_true, if_false]
        refine Ev.bind e1 ?_
        simp only [hr, if_false]; exact Ev.now _
      · simp only [hinterlandref02_Level.l3, pa, pc, he, if_true, if_false, wW, wN, px, py]
        refine Ev.bind e2 ?_
        simp only [hr, if_false]; exact Ev.now _
theorem l1_both {W H : Int} {L : List Int} (s : Sides W H L) {T held : List Int} (hh : (held.length : Int) ≤ 4000) (hT : T.length ≤ 1000) {ht : Int} (all : ∀ j : Int, 0 ≤ j → j < (T.length : Int) → isT W H (rd T j)) : ∀ (d : Nat) (j S : Int) (N : List Int), 0 ≤ j → j + d = (T.length : Int) → N.length = L.length → Both (fun k => land_Level.l1 k ht held S T (T.length : Int) j W H L W H N) (fun k => hinterlandref02_Level.l1 k ht held S T (T.length : Int) j W H L W H N) := by
  obtain ⟨n0, n1⟩ := len_le s
  obtain ⟨sa, sb, sc, se, sf⟩ := id s
  intro d; induction d with
  | zero =>
    intro j S N j0 hj hN
    refine ⟨(W, H, N, S, 0), Ev.step (fun _ => rfl) ?_, Ev.step (fun _ => rfl) ?_, by show N.length ≤ 2000; omega⟩
    · simp only [land_Level.l1, show ¬ j < (T.length : Int) by omega, if_false]; exact Ev.now _
    · simp only [hinterlandref02_Level.l1, show ¬ j < (T.length : Int) by omega, if_false]; exact Ev.now _
  | succ d ih =>
    intro j S N j0 hj hN
    have hj1 : j < (T.length : Int) := by omega
    have t := all j j0 hj1
    obtain ⟨a0, a1, b0, b1, e⟩ := tile_xy s t
    have wj : wrap64 (j + 1) = j + 1 := w64_in (by omega) (by omega)
    have W0 : ¬ W = 0 := by omega
    have t0 := t.1
    have tx : Int.tmod (rd T j) W = rd T j % W := Int.tmod_eq_emod_of_nonneg t0
    have ty : wrap64 (Int.tdiv (rd T j) W) = rd T j / W := by rw [Int.tdiv_eq_ediv_of_nonneg t0, w64_in (by omega) (by omega)]
    have tx1 : wrap64 (rd T j % W + 1) = rd T j % W + 1 := w64_in (by omega) (by omega)
    have ty1 : wrap64 (rd T j / W + 1) = rd T j / W + 1 := w64_in (by omega) (by omega)
    generalize hX : rd T j % W = X at *
    generalize hY : rd T j / W = Y at *
    have hpl : pl W (rd T j) = Y * (W + 1) + X := by unfold pl; rw [hX, hY]
    have po := places_ok s t
    rw [hpl] at po
    have next : ∀ (S : Int) (N : List Int), N.length = L.length → Both (fun k => land_Level.l2 k ht held S T (T.length : Int) j 4 W H L W H N X Y (X + 1) Y (X + 1) (Y + 1) X (Y + 1)) (fun k => hinterlandref02_Level.l2 k ht held S T (T.length : Int) j 4 W H L W H N (Y * (W + 1) + X) (Y * (W + 1) + X + 1) (Y * (W + 1) + X + W + 2) (Y * (W + 1) + X + W + 1)) := by
      intro S N hN
      refine Both.step (fun _ => rfl) (fun _ => rfl) ?_
      simp only [land_Level.l2, hinterlandref02_Level.l2, show ¬ (4 : Int) < 4 by omega, if_false, wj]
      exact ih (j + 1) S N (by omega) (by omega) hN
    have c3 : ∀ (S : Int) (N : List Int), N.length = L.length → Both (fun k => land_Level.l2 k ht held S T (T.length : Int) j 3 W H L W H N X Y (X + 1) Y (X + 1) (Y + 1) X (Y + 1)) (fun k => hinterlandref02_Level.l2 k ht held S T (T.length : Int) j 3 W H L W H N (Y * (W + 1) + X) (Y * (W + 1) + X + 1) (Y * (W + 1) + X + W + 2) (Y * (W + 1) + X + W + 1)) := by
      intro S N hN
      refine Both.step (fun _ => rfl) (fun _ => rfl) ?_
      simp only [land_Level.l2, hinterlandref02_Level.l2, show (3 : Int) < 4 by omega, show (0 : Int) ≤ 3 by omega, if_true]
      exact l3_both s hh (cx := X) (cy := Y + 1) (p := Y * (W + 1) + X + W + 1) (by omega) (by omega) (by omega) (by omega) (by rw [Int.add_mul]; omega) j 3 _ _ _ _ _ _ _ _ _ _ _ _ (by rw [show wrap64 (3 + 1) = 4 from w64_in (by omega) (by omega)]; exact next) _ N S hN rfl
    have c2 : ∀ (S : Int) (N : List Int), N.length = L.length → Both (fun k => land_Level.l2 k ht held S T (T.length : Int) j 2 W H L W H N X Y (X + 1) Y (X + 1) (Y + 1) X (Y + 1)) (fun k => hinterlandref02_Level.l2 k ht held S T (T.length : Int) j 2 W H L W H N (Y * (W + 1) + X) (Y * (W + 1) + X + 1) (Y * (W + 1) + X + W + 2) (Y * (W + 1) + X + W + 1)) := by
      intro S N hN
      refine Both.step (fun _ => rfl) (fun _ => rfl) ?_
      simp only [land_Level.l2, hinterlandref02_Level.l2, show (2 : Int) < 4 by omega, show (0 : Int) ≤ 2 by omega, if_true]
      exact l3_both s hh (cx := X + 1) (cy := Y + 1) (p := Y * (W + 1) + X + W + 2) (by omega) (by omega) (by omega) (by omega) (by rw [Int.add_mul]; omega) j 2 _ _ _ _ _ _ _ _ _ _ _ _ (by rw [show wrap64 (2 + 1) = 3 from w64_in (by omega) (by omega)]; exact c3) _ N S hN rfl
    have c1 : ∀ (S : Int) (N : List Int), N.length = L.length → Both (fun k => land_Level.l2 k ht held S T (T.length : Int) j 1 W H L W H N X Y (X + 1) Y (X + 1) (Y + 1) X (Y + 1)) (fun k => hinterlandref02_Level.l2 k ht held S T (T.length : Int) j 1 W H L W H N (Y * (W + 1) + X) (Y * (W + 1) + X + 1) (Y * (W + 1) + X + W + 2) (Y * (W + 1) + X + W + 1)) := by
      intro S N hN
      refine Both.step (fun _ => rfl) (fun _ => rfl) ?_
      simp only [land_Level.l2, hinterlandref02_Level.l2, show (1 : Int) < 4 by omega, show (0 : Int) ≤ 1 by omega, if_true]
      exact l3_both s hh (cx := X + 1) (cy := Y) (p := Y * (W + 1) + X + 1) (by omega) (by omega) (by omega) (by omega) (by omega) j 1 _ _ _ _ _ _ _ _ _ _ _ _ (by rw [show wrap64 (1 + 1) = 2 from w64_in (by omega) (by omega)]; exact c2) _ N S hN rfl
    have c0 : Both (fun k => land_Level.l2 k ht held S T (T.length : Int) j 0 W H L W H N X Y (X + 1) Y (X + 1) (Y + 1) X (Y + 1)) (fun k => hinterlandref02_Level.l2 k ht held S T (T.length : Int) j 0 W H L W H N (Y * (W + 1) + X) (Y * (W + 1) + X + 1) (Y * (W + 1) + X + W + 2) (Y * (W + 1) + X + W + 1)) := by
      refine Both.step (fun _ => rfl) (fun _ => rfl) ?_
      simp only [land_Level.l2, hinterlandref02_Level.l2, show (0 : Int) < 4 by omega, show (0 : Int) ≤ 0 by omega, if_true]
      exact l3_both s hh (cx := X) (cy := Y) (p := Y * (W + 1) + X) (by omega) (by omega) (by omega) (by omega) rfl j 0 _ _ _ _ _ _ _ _ _ _ _ _ (by rw [show wrap64 (0 + 1) = 1 from w64_in (by omega) (by omega)]; exact c1) _ N S hN rfl
    obtain ⟨r, f1, f2, f3⟩ := c0
    refine ⟨r, Ev.step (fun _ => rfl) ?_, Ev.step (fun _ => rfl) ?_, f3⟩
    · simp only [land_Level.l1, hj1, j0, if_true, W0, if_false, tx, ty, tx1, ty1]; exact f1
    · simp only [hinterlandref02_Level.l1, hj1, j0, if_true, po, Option.bind_some]; exact f2
theorem l0_both {W H : Int} {L : List Int} (s : Sides W H L) {T held : List Int} (hh : (held.length : Int) ≤ 4000) (hT : T.length ≤ 1000) {ht : Int} : ∀ (d : Nat) (j : Int), 0 ≤ j → j + d = (T.length : Int) → (∀ i : Int, 0 ≤ i → i < j → isT W H (rd T i)) → Both (fun k => land_Level.l0 k T ht held T (T.length : Int) j W H L) (fun k => hinterlandref02_Level.l0 k T ht held T (T.length : Int) j W H L) := by
  obtain ⟨n0, n1⟩ := len_le s
  intro d; induction d with
  | zero =>
    intro j j0 hj all
    have hlen : ([] : List Int).length + L.length < 17592186044416 := by simp; omega
    obtain ⟨r, f1, f2, f3⟩ := l1_both s hh hT (ht := ht) (fun i a b => all i a (by omega)) T.length 0 0 L (by omega) (by omega) rfl
    refine ⟨r, Ev.step (fun _ => rfl) ?_, Ev.step (fun _ => rfl) ?_, f3⟩
    · simp only [land_Level.l0, show ¬ j < (T.length : Int) by omega, if_false, hlen, if_true, List.nil_append]; exact f1
    · simp only [hinterlandref02_Level.l0, show ¬ j < (T.length : Int) by omega, if_false, hlen, if_true, List.nil_append]; exact f2
  | succ d ih =>
    intro j j0 hj all
    have hj1 : j < (T.length : Int) := by omega
    have wj : wrap64 (j + 1) = j + 1 := w64_in (by omega) (by omega)
    by_cases t : isT W H (rd T j)
    · obtain ⟨r, f1, f2, f3⟩ := ih (j + 1) (by omega) (by omega) (fun i a b => by
        by_cases e : i = j
        · rw [e]; exact t
        · exact all i a (by omega))
      refine ⟨r, Ev.step (fun _ => rfl) ?_, Ev.step (fun _ => rfl) ?_, f3⟩
      · simp only [land_Level.l0, hj1, j0, if_true, isTile_ok s, t, decide_true, Option.bind_some, wj]; exact f1
      · simp only [hinterlandref02_Level.l0, hj1, j0, if_true, Is_ok s, t, decide_true, Option.bind_some, wj]; exact f2
    · refine ⟨(0, 0, [], 0, 2), Ev.step (fun _ => rfl) ?_, Ev.step (fun _ => rfl) ?_, by simp⟩
      · simp only [land_Level.l0, hj1, j0, if_true, isTile_ok s, t, decide_false, Option.bind_some, Bool.false_eq_true, if_false]; exact Ev.now _
      · simp only [hinterlandref02_Level.l0, hj1, j0, if_true, Is_ok s, t, decide_false, Option.bind_some, Bool.false_eq_true, if_false]; exact Ev.now _
theorem level_both (W H : Int) (L T : List Int) (ht : Int) (held : List Int) (hh : (held.length : Int) ≤ 4000) : Both (fun k => land_Level.f k W H L T ht held) (fun k => hinterlandref02_Level.f k W H L T ht held) := by
  obtain ⟨e, v1, v2, v3⟩ := validate_ok W H L
  unfold land_Level.f hinterlandref02_Level.f
  by_cases he : e = 0
  · have v := v3.1 he
    rw [he] at v1 v2
    have key : ∀ b : Bool, (b = false → T.length ≤ 1000) → Both (fun k => land_Level.j0 k T ht held b W H L) (fun k => hinterlandref02_Level.j0 k T ht held b W H L) := by
      intro b hb
      cases b with
      | true =>
        refine ⟨(0, 0, [], 0, 1), Ev.step (fun _ => rfl) ?_, Ev.step (fun _ => rfl) ?_, by simp⟩
        · simp only [land_Level.j0, if_true]; exact Ev.now _
        · simp only [hinterlandref02_Level.j0, if_true]; exact Ev.now _
      | false =>
        obtain ⟨r, f1, f2, f3⟩ := l0_both v.1 hh (hb rfl) (ht := ht) T.length 0 (by omega) (by omega) (fun i a b => by omega)
        refine ⟨r, Ev.step (fun _ => rfl) ?_, Ev.step (fun _ => rfl) ?_, f3⟩
        · simp only [land_Level.j0, Bool.false_eq_true, if_false]; exact f1
        · simp only [hinterlandref02_Level.j0, Bool.false_eq_true, if_false]; exact f2
    by_cases h1 : ht < 0
    · obtain ⟨r, f1, f2, f3⟩ := key true (by simp)
      refine ⟨r, Ev.bind v1 ?_, Ev.bind v2 ?_, f3⟩
      · simp only [if_true, h1]; exact f1
      · simp only [if_true, h1]; exact f2
    by_cases h2 : ht > 15
    · obtain ⟨r, f1, f2, f3⟩ := key true (by simp)
      refine ⟨r, Ev.bind v1 ?_, Ev.bind v2 ?_, f3⟩
      · simp only [if_true, h1, h2, if_false]; exact f1
      · simp only [if_true, h1, h2, if_false]; exact f2
    · obtain ⟨r, f1, f2, f3⟩ := key (decide ((T.length : Int) > 1000)) (fun h => by have := of_decide_eq_false h; omega)
      refine ⟨r, Ev.bind v1 ?_, Ev.bind v2 ?_, f3⟩
      · simp only [if_true, h1, h2, if_false]; exact f1
      · simp only [if_true, h1, h2, if_false]; exact f2
  · refine ⟨(0, 0, [], 0, e), Ev.bind v1 ?_, Ev.bind v2 ?_, by simp⟩
    · simp only [he, if_false]; exact Ev.now _
    · simp only [he, if_false]; exact Ev.now _
theorem LandLevels : hinterlandlaw02_LandLevels.Pure := by
  intro a b L T ht held _ _ _ _ _ _
  refine Ev.rounds ?_
  unfold hinterlandlaw02_LandLevels.f
  refine Ev.bind (large2 a b L T held) ?_
  by_cases hg : decide (mx (mx (L.length : Int) T.length) held.length > 4000) = true
  · simp only [hg, if_true]
    exact Ev.bind known_ev (Ev.now _)
  · have hl : (held.length : Int) ≤ 4000 := by
      simp only [decide_eq_true_eq] at hg
      unfold mx at hg
      split at hg <;> split at hg <;> omega
    simp only [hg, if_false]
    obtain ⟨r, h1, h2, l1⟩ := level_both a b L T ht held hl
    refine Ev.bind h1 (Ev.bind h2 ?_)
    simp only [if_true]
    refine Ev.bind (land_self r.1 r.2.1 (l := r.2.2.1) (by omega)) ?_
    simp only [if_true]
    refine Ev.bind known_ev ?_
    exact Ev.step (fun _ => rfl) (by simp only [hinterlandlaw02_LandLevels.j0]; exact Ev.now _)
end Go.Proofs.Ytchflcnegpnkkaa.Pure

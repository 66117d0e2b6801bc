/- What is proved: law LandSettlesMost of this seat, all in one text (laid by prune.py). -/
import Derived.Test.YtchflcnegpnkkaaOpen
import Derived.OpenShut
import Derived.Test.YtchflcnegpnkkaaQ4
import Derived.Test.YtchflcnegpnkkaaQ5
import Derived.Test.YtchflcnegpnkkaaQ10
import Derived.Test.YtchflcnegpnkkaaQ37
import Derived.Test.YtchflcnegpnkkaaQ38
import Derived.Test.YtchflcnegpnkkaaQ39
import Derived.Test.YtchflcnegpnkkaaQ42
namespace Go.Proofs.YtchflcnegpnkkaaOwn
open Go.RowKit Go.Proofs.YtchflcnegpnkkaaW.PrintWords
theorem w64_in {x : Int} (h0 : -9223372036854775808 ≤ x) (h1 : x ≤ 9223372036854775807) : wrap64 x = x := by unfold wrap64; omega
end Go.Proofs.YtchflcnegpnkkaaOwn
namespace Go.Proofs.Ytchflcnegpnkkaa.Val
open Go.RowKit Go.Proofs.YtchflcnegpnkkaaOwn Go.Proofs.Ytchflcnegpnkkaa.Q Go.Proofs.YtchflcnegpnkkaaW.PrintWords Go.Proofs.YtchflcnegpnkkaaW.PrintLast
/-- Two heights lie within one step. -/
def near (a b : Int) : Prop := a - b ≤ 1 ∧ b - a ≤ 1
instance (a b : Int) : Decidable (near a b) := by unfold near; infer_instance
def Hts (L : List Int) : Prop := ∀ i : Int, 0 ≤ i → i < (L.length : Int) → 0 ≤ rd L i ∧ rd L i ≤ 15
def cell (W H : Int) (L : List Int) (y x : Int) : Prop := (x < W → near (rd L (y * (W + 1) + x)) (rd L (y * (W + 1) + x + 1))) ∧ (y < H → near (rd L (y * (W + 1) + x)) (rd L ((y + 1) * (W + 1) + x)))
def place (W : Int) (L : List Int) (i : Int) : Prop := (0 < i % (W + 1) → near (rd L i) (rd L (i - 1))) ∧ (W < i → near (rd L i) (rd L (i - W - 1)))
instance (W H : Int) (L : List Int) (y x : Int) : Decidable (cell W H L y x) := by unfold cell; infer_instance
instance (W : Int) (L : List Int) (i : Int) : Decidable (place W L i) := by unfold place; infer_instance
def Steps (W H : Int) (L : List Int) : Prop := ∀ y x : Int, 0 ≤ y → y ≤ H → 0 ≤ x → x ≤ W → cell W H L y x
def Sides (W H : Int) (L : List Int) : Prop := 4 ≤ W ∧ W ≤ 32 ∧ 4 ≤ H ∧ H ≤ 32 ∧ (L.length : Int) = (H + 1) * (W + 1)
def Valid (W H : Int) (L : List Int) : Prop := Sides W H L ∧ Hts L ∧ Steps W H L
def Res (g : Nat → Option Int) (P : Prop) : Prop := ∃ r, Ev g r ∧ (r = 0 ∨ r = 5) ∧ (r = 0 ↔ P)
theorem row_in {y H m : Int} (h0 : 0 ≤ y) (h1 : y ≤ H) (hm : 0 ≤ m) : 0 ≤ y * m ∧ y * m + m ≤ (H + 1) * m := by
  constructor
  · exact Int.mul_nonneg h0 hm
  · have := Int.mul_le_mul_of_nonneg_right (show y + 1 ≤ H + 1 by omega) hm
    rw [Int.add_mul y 1 m, Int.one_mul] at this; exact this
theorem len_le {W H : Int} {L : List Int} (s : Sides W H L) : 25 ≤ (L.length : Int) ∧ (L.length : Int) ≤ 1089 := by
  obtain ⟨a, b, c, d, e⟩ := s
  have h1 := Int.mul_le_mul (show H + 1 ≤ 33 by omega) (show W + 1 ≤ 33 by omega) (by omega) (by omega)
  have h2 := Int.mul_le_mul (show 5 ≤ H + 1 by omega) (show 5 ≤ W + 1 by omega) (by omega) (by omega)
  omega
theorem apart_ok {a b : Int} (ha : 0 ≤ a ∧ a ≤ 15) (hb : 0 ≤ b ∧ b ≤ 15) : land_apart.f a b = some (!decide (near a b)) := by
  unfold land_apart.f
  rw [w64_in (by omega) (by omega), w64_in (by omega) (by omega)]
  by_cases h : a - b > 1
  · rw [if_pos h, decide_eq_false (p := near a b) (by unfold near; omega)]; rfl
  · rw [if_neg h]
    by_cases h2 : b - a > 1
    · rw [decide_eq_true h2, decide_eq_false (p := near a b) (by unfold near; omega)]; rfl
    · rw [decide_eq_false h2, decide_eq_true (p := near a b) (by unfold near; omega)]; rfl
theorem l0_ok {W H : Int} {L : List Int} {r : Int} (hn : (L.length : Int) ≤ 1089) (hg : Ev (fun k => land_Validate.l1 k 0 W H L) r) : ∀ (d : Nat) (i : Int), 0 ≤ i → i + d = L.length → (∀ j, i ≤ j → j < (L.length : Int) → 0 ≤ rd L j ∧ rd L j ≤ 15) → Ev (fun k => land_Validate.l0 k L (L.length : Int) i W H L) r := by
  intro d; induction d with
  | zero =>
    intro i h0 hd hh
    refine Ev.step (f := fun k => land_Validate.l1 k 0 W H L) (fun k => ?_) hg
    simp only [land_Validate.l0]; rw [if_neg (by omega)]
  | succ d ih =>
    intro i h0 hd hh
    have h1 := hh i (by omega) (by omega)
    obtain ⟨K, hK⟩ := ih (i + 1) (by omega) (by omega) (fun j a b => hh j (by omega) b)
    refine ⟨K + 2, fun k hk => ?_⟩
    obtain ⟨k, rfl⟩ : ∃ m, k = m + 1 + 1 := ⟨k - 2, by omega⟩
    simp only [land_Validate.l0, land_Validate.j2]
    rw [if_pos (by omega), if_pos (by omega), if_pos (by omega), if_neg (by omega), if_neg (by simp; omega), w64_in (by omega) (by omega)]
    exact hK k (by omega)
theorem l0_no {W H : Int} {L : List Int} (hn : (L.length : Int) ≤ 1089) : ∀ (d : Nat) (i : Int), 0 ≤ i → i + d = L.length → (∃ j, i ≤ j ∧ j < (L.length : Int) ∧ ¬ (0 ≤ rd L j ∧ rd L j ≤ 15)) → Ev (fun k => land_Validate.l0 k L (L.length : Int) i W H L) 1 := by
  intro d; induction d with
  | zero => intro i h0 hd hh; obtain ⟨j, a, b, _⟩ := hh; omega
  | succ d ih =>
    intro i h0 hd hh
    by_cases h1 : 0 ≤ rd L i ∧ rd L i ≤ 15
    · obtain ⟨K, hK⟩ := ih (i + 1) (by omega) (by omega) (by
        obtain ⟨j, a, b, c⟩ := hh
        refine ⟨j, ?_, b, c⟩
        by_cases e : j = i
        · subst e; exact absurd h1 c
        · omega)
      refine ⟨K + 2, fun k hk => ?_⟩
      obtain ⟨k, rfl⟩ : ∃ m, k = m + 1 + 1 := ⟨k - 2, by omega⟩
      simp only [land_Validate.l0, land_Validate.j2]
      rw [if_pos (by omega), if_pos (by omega), if_pos (by omega), if_neg (by omega), if_neg (by simp; omega), w64_in (by omega) (by omega)]
      exact hK k (by omega)
    · refine ⟨2, fun k hk => ?_⟩
      obtain ⟨k, rfl⟩ : ∃ m, k = m + 1 + 1 := ⟨k - 2, by omega⟩
      simp only [land_Validate.l0, land_Validate.j2]
      rw [if_pos (by omega), if_pos (by omega), if_pos (by omega)]
      by_cases h2 : rd L i < 0
      · rw [if_pos h2, if_pos trivial]
      · rw [if_neg h2, if_pos (by simp; omega)]
theorem row_ok {W H : Int} {L : List Int} (s : Sides W H L) (hh : Hts L) {y : Int} (y0 : 0 ≤ y) (y1 : y ≤ H) {P : Prop} (hn : Res (fun k => land_Validate.l1 k (y + 1) W H L) P) : ∀ (d : Nat) (x : Int), 0 ≤ x → x + d = W + 1 → Res (fun k => land_Validate.l2 k y x W H L) ((∀ x', x ≤ x' → x' ≤ W → cell W H L y x') ∧ P) := by
  obtain ⟨a, b, c, e, f⟩ := id s
  obtain ⟨l0, l1⟩ := len_le s
  obtain ⟨p0, p1⟩ := row_in (m := W + 1) y0 y1 (by omega)
  intro d; induction d with
  | zero =>
    intro x h0 hd
    obtain ⟨r, ⟨K, hK⟩, hr, hi⟩ := hn
    refine ⟨r, ⟨K + 1, fun k hk => ?_⟩, hr, by rw [hi]; exact ⟨fun h => ⟨fun x' h1 h2 => by omega, h⟩, fun h => h.2⟩⟩
    obtain ⟨k, rfl⟩ : ∃ m, k = m + 1 := ⟨k - 1, by omega⟩
    simp only [land_Validate.l2]
    rw [if_neg (by omega), w64_in (by omega) (by omega)]
    exact hK k (by omega)
  | succ d ih =>
    intro x h0 hd
    obtain ⟨r, ⟨K, hK⟩, hr, hi⟩ := ih (x + 1) (by omega) (by omega)
    have ep : (y + 1) * (W + 1) = y * (W + 1) + (W + 1) := by rw [Int.add_mul, Int.one_mul]
    have hc : cell W H L y x ↔ ((x < W → near (rd L (y * (W + 1) + x)) (rd L (y * (W + 1) + x + 1))) ∧ (y < H → near (rd L (y * (W + 1) + x)) (rd L (y * (W + 1) + (W + 1) + x)))) := by unfold cell; rw [ep]
    have hq : y < H → y * (W + 1) + (W + 1) + (W + 1) ≤ (H + 1) * (W + 1) := fun h => by
      have := (row_in (m := W + 1) (show 0 ≤ y + 1 by omega) (show y + 1 ≤ H by omega) (by omega)).2; omega
    have go : ∀ k, land_Validate.l2 (k + 1 + 1) y x W H L = if cell W H L y x then land_Validate.l2 k y (x + 1) W H L else some 5 := by
      intro k
      simp only [land_Validate.l2, land_Validate.j5]
      rw [w64_in (x := W + 1) (by omega) (by omega), w64_in (x := y + 1) (by omega) (by omega), ep]
      generalize y * (W + 1) = p at *
      rw [w64_in (x := p) (by omega) (by omega), w64_in (x := p + (W + 1)) (by omega) (by omega), w64_in (x := p + (W + 1) + x) (by omega) (by omega), w64_in (x := p + x) (by omega) (by omega), w64_in (x := p + x + 1) (by omega) (by omega), w64_in (x := x + 1) (by omega) (by omega)]
      rw [if_pos (by omega), if_pos (by omega), if_pos (by omega)]
      by_cases hx : x < W
      · rw [if_pos hx, if_pos (by omega), if_pos (by omega), apart_ok (hh _ (by omega) (by omega)) (hh _ (by omega) (by omega))]
        simp only [Option.bind_some]
        by_cases h1 : near (rd L (p + x)) (rd L (p + x + 1))
        · rw [if_neg (by simpa using h1)]
          by_cases hy : y < H
          · have := hq hy
            rw [if_pos hy, if_pos (by omega), if_pos (by omega), apart_ok (hh _ (by omega) (by omega)) (hh _ (by omega) (by omega))]
            simp only [Option.bind_some]
            by_cases h2 : near (rd L (p + x)) (rd L (p + (W + 1) + x))
            · rw [if_neg (by simpa using h2), if_pos (hc.2 ⟨fun _ => h1, fun _ => h2⟩)]
            · rw [if_pos (by simpa using h2), if_neg (fun h => h2 ((hc.1 h).2 hy))]
          · rw [if_neg hy, if_neg (by simp), if_pos (hc.2 ⟨fun _ => h1, fun h => absurd h hy⟩)]
        · rw [if_pos (by simpa using h1), if_pos trivial, if_neg (fun h => h1 ((hc.1 h).1 hx))]
      · rw [if_neg hx]
        by_cases hy : y < H
        · have := hq hy
          rw [if_pos hy, if_pos (by omega), if_pos (by omega), apart_ok (hh _ (by omega) (by omega)) (hh _ (by omega) (by omega))]
          simp only [Option.bind_some]
          by_cases h2 : near (rd L (p + x)) (rd L (p + (W + 1) + x))
          · rw [if_neg (by simpa using h2), if_pos (hc.2 ⟨fun h => absurd h hx, fun _ => h2⟩)]
          · rw [if_pos (by simpa using h2), if_neg (fun h => h2 ((hc.1 h).2 hy))]
        · rw [if_neg hy, if_neg (by simp), if_pos (hc.2 ⟨fun h => absurd h hx, fun h => absurd h hy⟩)]
    by_cases hcell : cell W H L y x
    · refine ⟨r, ⟨K + 2, fun k hk => ?_⟩, hr, ?_⟩
      · obtain ⟨k, rfl⟩ : ∃ m, k = m + 1 + 1 := ⟨k - 2, by omega⟩
        show land_Validate.l2 (k + 1 + 1) y x W H L = _
        rw [go, if_pos hcell]; exact hK k (by omega)
      · rw [hi]
        refine ⟨fun h => ⟨fun x' h1 h2 => ?_, h.2⟩, fun h => ⟨fun x' h1 h2 => h.1 x' (by omega) h2, h.2⟩⟩
        by_cases e : x' = x
        · subst e; exact hcell
        · exact h.1 x' (by omega) h2
    · refine ⟨5, ⟨2, fun k hk => ?_⟩, Or.inr rfl, ?_⟩
      · obtain ⟨k, rfl⟩ : ∃ m, k = m + 1 + 1 := ⟨k - 2, by omega⟩
        show land_Validate.l2 (k + 1 + 1) y x W H L = _
        rw [go, if_neg hcell]
      · exact ⟨fun h => absurd h (by decide), fun h => absurd (h.1 x (by omega) (by omega)) hcell⟩
theorem rows_ok {W H : Int} {L : List Int} (s : Sides W H L) (hh : Hts L) : ∀ (d : Nat) (y : Int), 0 ≤ y → y + d = H + 1 → Res (fun k => land_Validate.l1 k y W H L) (∀ y' x', y ≤ y' → y' ≤ H → 0 ≤ x' → x' ≤ W → cell W H L y' x') := by
  obtain ⟨a, b, c, e, f⟩ := id s
  intro d; induction d with
  | zero =>
    intro y h0 hd
    refine ⟨0, ⟨1, fun k hk => ?_⟩, Or.inl rfl, ⟨fun _ y' x' h1 h2 => by omega, fun _ => rfl⟩⟩
    obtain ⟨k, rfl⟩ : ∃ m, k = m + 1 := ⟨k - 1, by omega⟩
    simp only [land_Validate.l1]
    rw [if_neg (by omega)]
  | succ d ih =>
    intro y h0 hd
    obtain ⟨r, ⟨K, hK⟩, hr, hi⟩ := row_ok s hh h0 (by omega) (ih (y + 1) (by omega) (by omega)) (W + 1).toNat 0 (by omega) (by omega)
    refine ⟨r, ⟨K + 1, fun k hk => ?_⟩, hr, ?_⟩
    · obtain ⟨k, rfl⟩ : ∃ m, k = m + 1 := ⟨k - 1, by omega⟩
      simp only [land_Validate.l1]
      rw [if_pos (by omega)]
      exact hK k (by omega)
    · rw [hi]
      refine ⟨fun h y' x' h1 h2 h3 h4 => ?_, fun h => ⟨fun x' h1 h2 => h y x' (by omega) (by omega) h1 h2, fun y' x' h1 h2 h3 h4 => h y' x' (by omega) h2 h3 h4⟩⟩
      by_cases e : y' = y
      · subst e; exact h.1 x' h3 h4
      · exact h.2 y' x' (by omega) h2 h3 h4
theorem near_comm {a b : Int} : near a b ↔ near b a := by unfold near; omega
theorem steps_places {W H : Int} {L : List Int} (s : Sides W H L) : (∀ y' x', 0 ≤ y' → y' ≤ H → 0 ≤ x' → x' ≤ W → cell W H L y' x') ↔ (∀ j, 0 ≤ j → j < (L.length : Int) → place W L j) := by
  obtain ⟨a, b, c, e, f⟩ := id s
  constructor
  · intro h j j0 j1
    have hx0 := Int.emod_nonneg j (show W + 1 ≠ 0 by omega)
    have hx1 := Int.emod_lt_of_pos j (show 0 < W + 1 by omega)
    have hd := Int.mul_ediv_add_emod j (W + 1)
    have hy0 : 0 ≤ j / (W + 1) := Int.ediv_nonneg j0 (by omega)
    have hy1 : j / (W + 1) ≤ H := by
      have : j / (W + 1) < H + 1 := Int.ediv_lt_of_lt_mul (by omega) (by omega)
      omega
    rw [Int.mul_comm] at hd
    generalize hy : j / (W + 1) = y at *
    generalize hx : j % (W + 1) = x at *
    have ep : (y - 1) * (W + 1) = y * (W + 1) - (W + 1) := by rw [Int.sub_mul, Int.one_mul]
    refine ⟨fun g => ?_, fun g => ?_⟩
    · rw [hx] at g
      have := (h y (x - 1) hy0 hy1 (by omega) (by omega)).1 (by omega)
      rw [show y * (W + 1) + (x - 1) = j - 1 by omega, show j - 1 + 1 = j by omega] at this
      exact near_comm.1 this
    · have hyp : 1 ≤ y := by
        by_cases h0 : y = 0
        · subst h0; omega
        · omega
      have := (h (y - 1) x (by omega) (by omega) (by omega) (by omega)).2 (by omega)
      rw [ep, show y - 1 + 1 = y by omega, show y * (W + 1) - (W + 1) + x = j - W - 1 by omega, show y * (W + 1) + x = j by omega] at this
      exact near_comm.1 this
  · intro h y x y0 y1 x0 x1
    have ep : (y + 1) * (W + 1) = y * (W + 1) + (W + 1) := by rw [Int.add_mul, Int.one_mul]
    obtain ⟨p0, p1⟩ := row_in (m := W + 1) y0 y1 (by omega)
    refine ⟨fun g => ?_, fun g => ?_⟩
    · have := (h (y * (W + 1) + x + 1) (by omega) (by omega)).1 (by
        rw [show y * (W + 1) + x + 1 = (x + 1) + y * (W + 1) by omega, Int.add_mul_emod_self_right, Int.emod_eq_of_lt (by omega) (by omega)]; omega)
      rw [show y * (W + 1) + x + 1 - 1 = y * (W + 1) + x by omega] at this
      exact near_comm.1 this
    · have q := (row_in (m := W + 1) (show 0 ≤ y + 1 by omega) (show y + 1 ≤ H by omega) (by omega)).2
      have := (h ((y + 1) * (W + 1) + x) (by omega) (by omega)).2 (by omega)
      rw [show (y + 1) * (W + 1) + x - W - 1 = y * (W + 1) + x by omega] at this
      exact near_comm.1 this
theorem validate_ok (W H : Int) (L : List Int) : ∃ r, Ev (fun k => land_Validate.f k W H L) r ∧ (r = 0 ↔ Valid W H L) := by
  by_cases s : Sides W H L
  · obtain ⟨a, b, c, e, f⟩ := id s
    obtain ⟨n0, n1⟩ := len_le s
    have hlen : wrap64 (wrap64 (W + 1) * wrap64 (H + 1)) = (L.length : Int) := by
      rw [w64_in (x := W + 1) (by omega) (by omega), w64_in (x := H + 1) (by omega) (by omega), Int.mul_comm, ← f]
      exact w64_in (by omega) (by omega)
    have hA : ∀ k, land_Validate.f (k + 1) W H L = land_Validate.l0 k L (L.length : Int) 0 W H L := by
      intro k
      unfold land_Validate.f
      rw [if_neg (by omega), if_neg (by omega), if_neg (by omega), if_neg (by omega), hlen]
      simp only [land_Validate.j0]
      rw [if_neg (by simp)]
    by_cases hh : Hts L
    · obtain ⟨r, h1, h2, h3⟩ := rows_ok s hh (H + 1).toNat 0 (by omega) (by omega)
      refine ⟨r, Ev.step hA (l0_ok n1 h1 L.length 0 (by omega) (by omega) (fun j => hh j)), ?_⟩
      rw [h3]
      exact ⟨fun h => ⟨s, hh, fun y x a b c d => h y x a b c d⟩, fun h => fun y x a b c d => h.2.2 y x a b c d⟩
    · have hx : ∃ j, 0 ≤ j ∧ j < (L.length : Int) ∧ ¬ (0 ≤ rd L j ∧ rd L j ≤ 15) := by
        refine Classical.byContradiction fun h => hh fun i h0 h1 => ?_
        exact Classical.byContradiction fun h' => h ⟨i, h0, h1, h'⟩
      exact ⟨1, Ev.step hA (l0_no n1 L.length 0 (by omega) (by omega) hx), ⟨fun h => absurd h (by decide), fun h => absurd h.2.1 hh⟩⟩
  · refine ⟨1, ⟨1, fun k hk => ?_⟩, ⟨fun h => absurd h (by decide), fun h => absurd h.1 s⟩⟩
    obtain ⟨k, rfl⟩ : ∃ m, k = m + 1 := ⟨k - 1, by omega⟩
    show land_Validate.f (k + 1) W H L = _
    unfold land_Validate.f
    simp only [land_Validate.j0]
    by_cases h1 : W < 4
    · rw [if_pos h1, if_pos trivial]
    by_cases h2 : W > 32
    · rw [if_neg h1, if_pos h2, if_pos trivial]
    by_cases h3 : H < 4
    · rw [if_neg h1, if_neg h2, if_pos h3, if_pos trivial]
    by_cases h4 : H > 32
    · rw [if_neg h1, if_neg h2, if_neg h3, if_pos h4, if_pos trivial]
    rw [if_neg h1, if_neg h2, if_neg h3, if_neg h4, if_pos]
    simp only [bne_iff_ne]
    intro h5
    refine s ⟨by omega, by omega, by omega, by omega, ?_⟩
    rw [h5, w64_in (x := W + 1) (by omega) (by omega), w64_in (x := H + 1) (by omega) (by omega), Int.mul_comm]
    have := Int.mul_le_mul (show H + 1 ≤ 33 by omega) (show W + 1 ≤ 33 by omega) (by omega) (by omega)
    have := Int.mul_nonneg (show 0 ≤ H + 1 by omega) (show 0 ≤ W + 1 by omega)
    exact w64_in (by omega) (by omega)
end Go.Proofs.Ytchflcnegpnkkaa.Val
namespace Go.Proofs.Ytchflcnegpnkkaa.Set
open Go.RowKit Go.Proofs.YtchflcnegpnkkaaOwn Go.Proofs.Ytchflcnegpnkkaa.Q Go.Proofs.Ytchflcnegpnkkaa.Val Go.Proofs.YtchflcnegpnkkaaW.PrintWords Go.Proofs.YtchflcnegpnkkaaW.PrintLast Go.Proofs.YtchflcnegpnkkaaW.PrintMore
set_option linter.unusedVariables false
set_option linter.unusedSimpArgs false
theorem rd_ext {l m : List Int} (h : l.length = m.length) (e : ∀ j : Int, 0 ≤ j → j < (l.length : Int) → rd l j = rd m j) : l = m := by
  apply List.ext_getElem h
  intro i h1 h2
  have := e i (by omega) (by omega)
  unfold rd at this
  simpa [List.getD_eq_getElem?_getD, h1, h2] using this
theorem rd_put {l : List Int} {i j v : Int} (i0 : 0 ≤ i) (i1 : i < (l.length : Int)) (j0 : 0 ≤ j) : rd (l.set i.toNat v) j = if j = i then v else rd l j := by
  unfold rd
  simp only [List.getD_eq_getElem?_getD, List.getElem?_set]
  by_cases e : j = i
  · subst e; rw [if_pos rfl, if_pos rfl, if_pos (by omega)]; rfl
  · rw [if_neg e, if_neg (by omega)]
theorem sum_put : ∀ (L : List Int) (i : Nat) (v : Int), i < L.length → v < L.getD i 0 → (L.set i v).sum < L.sum
  | [], _, _, h, _ => by simp at h
  | x :: xs, 0, v, _, h => by simp at h ⊢; omega
  | x :: xs, i + 1, v, hl, h => by
    have := sum_put xs i v (by simpa using hl) (by simpa using h)
    simp; omega
theorem sum_nn : ∀ (L : List Int), (∀ x, x ∈ L → 0 ≤ x) → 0 ≤ L.sum
  | [], _ => by simp
  | x :: xs, h => by
    have h1 := h x (by simp)
    have h2 := sum_nn xs (fun y hy => h y (by simp [hy]))
    simp; omega
theorem sum_hts {L : List Int} (h : Hts L) : 0 ≤ L.sum := by
  refine sum_nn L fun x hx => ?_
  obtain ⟨i, hi, rfl⟩ := List.mem_iff_getElem.1 hx
  have := (h i (by omega) (by omega)).1
  unfold rd at this
  simpa [List.getD_eq_getElem?_getD, hi] using this
/-! ### places and their neighbours -/
section
variable {n i : Int}
theorem m_right (hn : 0 < n) (h : i % n + 1 < n) : (i + 1) % n = i % n + 1 := by
  have e := Int.mul_ediv_add_emod i n
  have x0 := Int.emod_nonneg i (show n ≠ 0 by omega)
  rw [show i + 1 = (i % n + 1) + n * (i / n) by omega, Int.add_mul_emod_self_left, Int.emod_eq_of_lt (by omega) h]
theorem m_left (hn : 0 < n) (h : 0 < i % n) : (i - 1) % n = i % n - 1 := by
  have e := Int.mul_ediv_add_emod i n
  have x1 := Int.emod_lt_of_pos i hn
  rw [show i - 1 = (i % n - 1) + n * (i / n) by omega, Int.add_mul_emod_self_left, Int.emod_eq_of_lt (by omega) (by omega)]
theorem m_pos (hn : 0 < n) (i0 : 0 ≤ i) (h : 0 < i % n) : 1 ≤ i := by
  by_cases e : i = 0
  · subst e; simp at h
  · omega
theorem in_right {W H : Int} {L : List Int} (s : Sides W H L) (i0 : 0 ≤ i) (i1 : i < (L.length : Int)) (h : i % (W + 1) + 1 < W + 1) : i + 1 < (L.length : Int) := by
  obtain ⟨a, b, c, d, e⟩ := s
  refine Classical.byContradiction fun hc => ?_
  have h1 := m_right (by omega) h
  rw [show i + 1 = (H + 1) * (W + 1) by omega, Int.mul_emod_left] at h1
  have x0 := Int.emod_nonneg i (show W + 1 ≠ 0 by omega)
  rw [show i % (W + 1) = -1 by omega] at x0
  omega
theorem d_down {W H : Int} {L : List Int} (s : Sides W H L) : i / (W + 1) + 1 < H + 1 ↔ i + (W + 1) < (L.length : Int) := by
  obtain ⟨a, b, c, d, e⟩ := s
  have := Int.ediv_lt_iff_lt_mul (a := i) (b := H) (c := W + 1) (by omega)
  rw [e, Int.add_mul, Int.one_mul]
  omega
theorem d_up {W : Int} (hw : 4 ≤ W) : i / (W + 1) > 0 ↔ W < i := by
  have := Int.ediv_lt_iff_lt_mul (a := i) (b := 1) (c := W + 1) (by omega)
  omega
end
def nbs (W H i : Int) : List Int := (if i % (W + 1) + 1 < W + 1 then [i + 1] else []) ++ (if i % (W + 1) > 0 then [i - 1] else []) ++ (if i / (W + 1) + 1 < H + 1 then [i + (W + 1)] else []) ++ (if i / (W + 1) > 0 then [i - (W + 1)] else [])
theorem mem_nbs {W H i k : Int} : k ∈ nbs W H i ↔ (i % (W + 1) + 1 < W + 1 ∧ k = i + 1) ∨ (i % (W + 1) > 0 ∧ k = i - 1) ∨ (i / (W + 1) + 1 < H + 1 ∧ k = i + (W + 1)) ∨ (i / (W + 1) > 0 ∧ k = i - (W + 1)) := by
  unfold nbs
  by_cases h1 : i % (W + 1) + 1 < W + 1 <;> by_cases h2 : i % (W + 1) > 0 <;> by_cases h3 : i / (W + 1) + 1 < H + 1 <;> by_cases h4 : i / (W + 1) > 0 <;> simp [h1, h2, h3, h4]
theorem nbs_in {W H i k : Int} {L : List Int} (s : Sides W H L) (i0 : 0 ≤ i) (i1 : i < (L.length : Int)) (hm : k ∈ nbs W H i) : 0 ≤ k ∧ k < (L.length : Int) := by
  have hn : 0 < W + 1 := by have := s.1; omega
  rcases mem_nbs.1 hm with ⟨h, rfl⟩ | ⟨h, rfl⟩ | ⟨h, rfl⟩ | ⟨h, rfl⟩
  · have := in_right s i0 i1 h; omega
  · have := m_pos hn i0 h; omega
  · have := (d_down s).1 h; omega
  · have := (d_up s.1).1 h; omega
abbrev Places (W : Int) (n : Nat) (Y : List Int) : Prop := ∀ j : Int, 0 ≤ j → j < (n : Int) → place W Y j
theorem places_nb {W H i k : Int} {L Y : List Int} (s : Sides W H L) (p : Places W L.length Y) (i0 : 0 ≤ i) (i1 : i < (L.length : Int)) (hm : k ∈ nbs W H i) : rd Y i ≤ rd Y k + 1 := by
  have hn : 0 < W + 1 := by have := s.1; omega
  have x0 := Int.emod_nonneg i (show W + 1 ≠ 0 by omega)
  have hk := nbs_in s i0 i1 hm
  rcases mem_nbs.1 hm with ⟨h, rfl⟩ | ⟨h, rfl⟩ | ⟨h, rfl⟩ | ⟨h, rfl⟩
  · have := (p (i + 1) hk.1 hk.2).1 (by rw [m_right hn h]; omega)
    rw [show i + 1 - 1 = i by omega] at this; unfold near at this; omega
  · have := (p i i0 i1).1 h; unfold near at this; omega
  · have := (p (i + (W + 1)) hk.1 hk.2).2 (by omega)
    rw [show i + (W + 1) - W - 1 = i by omega] at this; unfold near at this; omega
  · have := (p i i0 i1).2 (by omega)
    rw [show i - W - 1 = i - (W + 1) by omega] at this; unfold near at this; omega
theorem nb_places {W H : Int} {L Y : List Int} (s : Sides W H L) (h : ∀ i, 0 ≤ i → i < (L.length : Int) → ∀ k, k ∈ nbs W H i → rd Y i ≤ rd Y k + 1) : Places W L.length Y := by
  intro j j0 j1
  have hn : 0 < W + 1 := by have := s.1; omega
  have x1 := Int.emod_lt_of_pos j hn
  refine ⟨fun g => ?_, fun g => ?_⟩
  · have p := m_pos hn j0 g
    have a := h j j0 j1 (j - 1) (mem_nbs.2 (.inr (.inl ⟨g, rfl⟩)))
    have b := h (j - 1) (by omega) (by omega) j (mem_nbs.2 (.inl ⟨by rw [m_left hn g]; omega, by omega⟩))
    unfold near; omega
  · have a := h j j0 j1 (j - (W + 1)) (mem_nbs.2 (.inr (.inr (.inr ⟨(d_up s.1).2 g, rfl⟩))))
    have b := h (j - (W + 1)) (by omega) (by omega) j (mem_nbs.2 (.inr (.inr (.inl ⟨(d_down s).2 (by omega), by omega⟩))))
    rw [show j - (W + 1) = j - W - 1 by omega] at a b
    unfold near; omega
/-- M lies nowhere above O, is of heights, and nowhere below what is level and lies nowhere above O. -/
structure Best (W : Int) (O M : List Int) : Prop where
  len : M.length = O.length
  hts : Hts M
  le : ∀ j : Int, 0 ≤ j → j < (O.length : Int) → rd M j ≤ rd O j
  most : ∀ Y : List Int, Places W O.length Y → (∀ j : Int, 0 ≤ j → j < (O.length : Int) → rd Y j ≤ rd O j) → ∀ j : Int, 0 ≤ j → j < (O.length : Int) → rd Y j ≤ rd M j
theorem Best.refl {W : Int} {O : List Int} (h : Hts O) : Best W O O := ⟨rfl, h, fun _ _ _ => Int.le_refl _, fun _ _ h => h⟩
theorem Best.put {W : Int} {O L : List Int} (g : Best W O L) {i v : Int} (i0 : 0 ≤ i) (i1 : i < (O.length : Int)) (v0 : 0 ≤ v) (v1 : v ≤ rd L i) (hy : ∀ Y : List Int, Places W O.length Y → (∀ j : Int, 0 ≤ j → j < (O.length : Int) → rd Y j ≤ rd L j) → rd Y i ≤ v) : Best W O (L.set i.toNat v) := by
  have hl := g.len
  have hi := g.hts i i0 (by omega)
  refine ⟨by rw [List.length_set]; exact hl, fun j j0 j1 => ?_, fun j j0 j1 => ?_, fun Y p q j j0 j1 => ?_⟩
  · rw [List.length_set] at j1
    rw [rd_put i0 (by omega) j0]
    have := g.hts j j0 j1
    split <;> omega
  · rw [rd_put i0 (by omega) j0]
    have := g.le j j0 j1
    split
    · rename_i e; subst e; omega
    · exact this
  · rw [rd_put i0 (by omega) j0]
    have h1 := g.most Y p q
    split
    · rename_i e; subst e; exact hy Y p h1
    · exact h1 j j0 j1
def low (L : List Int) : List Int → Int → Int
  | [], z => z
  | k :: ks, z => low L ks (mn z (rd L k + 1))
theorem low_le : ∀ (L ks : List Int) (z : Int), low L ks z ≤ z ∧ ∀ k, k ∈ ks → low L ks z ≤ rd L k + 1
  | L, [], z => ⟨Int.le_refl _, fun k h => by simp at h⟩
  | L, q :: ks, z => by
    obtain ⟨a, b⟩ := low_le L ks (mn z (rd L q + 1))
    have h1 : mn z (rd L q + 1) ≤ z := by unfold mn; split <;> omega
    have h2 : mn z (rd L q + 1) ≤ rd L q + 1 := by unfold mn; split <;> omega
    refine ⟨by simp only [low]; omega, fun k hk => ?_⟩
    simp only [low]
    rcases List.mem_cons.1 hk with rfl | hk
    · omega
    · exact b k hk
theorem low_ge : ∀ (L ks : List Int) (z b : Int), b ≤ z → (∀ k, k ∈ ks → b ≤ rd L k + 1) → b ≤ low L ks z
  | L, [], z, b, h, _ => h
  | L, q :: ks, z, b, h, hk => by
    simp only [low]
    refine low_ge L ks _ b ?_ fun k h' => hk k (by simp [h'])
    have := hk q (by simp)
    unfold mn; split <;> omega
/-! ### the program -/
theorem beside_ok {W H i : Int} {L : List Int} (s : Sides W H L) (i0 : 0 ≤ i) (i1 : i < (L.length : Int)) : Ev (fun k => land_beside.f k i (W + 1) (H + 1)) (nbs W H i) := by
  obtain ⟨n0, n1⟩ := len_le s
  obtain ⟨a, b, c, d, e⟩ := id s
  have hn : 0 < W + 1 := by omega
  have x0 := Int.emod_nonneg i (show W + 1 ≠ 0 by omega)
  have x1 := Int.emod_lt_of_pos i hn
  have y0 : 0 ≤ i / (W + 1) := Int.ediv_nonneg i0 (by omega)
  have y1 : i / (W + 1) ≤ i := Int.ediv_le_self _ i0
  refine ⟨4, fun k hk => ?_⟩
  obtain ⟨k, rfl⟩ : ∃ m, k = m + 1 + 1 + 1 + 1 := ⟨k - 4, by omega⟩
  unfold land_beside.f nbs
  rw [Int.tmod_eq_emod_of_nonneg i0, w64_in (x := i % (W + 1) + 1) (by omega) (by omega), w64_in (x := i + 1) (by omega) (by omega)]
  have t : ∀ l : List Int, l.length ≤ 3 → (l.length < 17592186044416) = True := fun l h => eq_true (by omega)
  by_cases h1 : i % (W + 1) + 1 < W + 1 <;> by_cases h2 : i % (W + 1) > 0 <;> by_cases h3 : i / (W + 1) + 1 < H + 1 <;> by_cases h4 : i / (W + 1) > 0 <;>
    simp [h1, h2, h3, h4, land_beside.j0, land_beside.j1, land_beside.j2, Int.tmod_eq_emod_of_nonneg i0, Int.tdiv_eq_ediv_of_nonneg i0, w64_in (x := i / (W + 1)) (by omega) (by omega), w64_in (x := i / (W + 1) + 1) (by omega) (by omega), w64_in (x := i - 1) (by omega) (by omega), w64_in (x := i + (W + 1)) (by omega) (by omega), w64_in (x := i - (W + 1)) (by omega) (by omega), show ¬ (W + 1 = 0) by omega]
abbrev S4 := Int × Int × List Int × Int
theorem rd_at (P : List Int) (t : Int) (l : List Int) : rd (P ++ t :: l) (P.length : Int) = t := by unfold rd; simp
theorem l3_ok {W H i z : Int} {L : List Int} (hL : Hts L) {r : S4} : ∀ (suf pre : List Int) (a : Int), (pre ++ suf).length < 1000 → (∀ k, k ∈ suf → 0 ≤ k ∧ k < (L.length : Int)) →
    Ev (fun k => if low L suf a < z then (if 0 ≤ i then (if i < (L.length : Int) then land_Settle.l1 k H (W + 1) W H (L.set i.toNat (low L suf a)) else none) else none) else land_Settle.l2 k H (W + 1) L (L.length : Int) (wrap64 (i + 1)) W H L) r →
    Ev (fun k => land_Settle.l3 k H (W + 1) i z a L (L.length : Int) i (pre ++ suf) ((pre ++ suf).length : Int) (pre.length : Int) W H L) r
  | [], pre, a, hl, hk, h => by
    refine Ev.step (fun k => ?_) h
    simp only [land_Settle.l3]
    rw [if_neg (by simp)]
    rfl
  | t :: suf, pre, a, hl, hk, h => by
    have ht := hk t (by simp)
    have hz := hL t ht.1 ht.2
    have hp : (pre.length : Int) < ((pre ++ t :: suf).length : Int) := by simp; omega
    have hpb : pre.length < 1000 := by simp at hl; omega
    have ih := l3_ok (W := W) (H := H) (i := i) (z := z) hL suf (pre ++ [t]) (mn a (rd L t + 1)) (by simpa using hl) (fun k hk' => hk k (by simp [hk'])) h
    refine Ev.step (fun k => ?_) ih
    simp only [land_Settle.l3]
    rw [if_pos hp, if_pos (by omega), if_pos hp, rd_at, if_pos ht.1, if_pos ht.2, w64_in (x := rd L t + 1) (by omega) (by omega), w64_in (x := (pre.length : Int) + 1) (by omega) (by omega)]
    simp
theorem nbs_len (W H i : Int) : (nbs W H i).length < 1000 := by
  unfold nbs
  by_cases h1 : i % (W + 1) + 1 < W + 1 <;> by_cases h2 : i % (W + 1) > 0 <;> by_cases h3 : i / (W + 1) + 1 < H + 1 <;> by_cases h4 : i / (W + 1) > 0 <;> simp [h1, h2, h3, h4]
theorem settle_go {W H : Int} {O : List Int} (s : Sides W H O) : ∀ (d : Nat) (L : List Int), Best W O L → L.sum < d → ∃ M, Ev (fun k => land_Settle.l1 k H (W + 1) W H L) (W, H, M, 0) ∧ Best W O M ∧ Places W O.length M := by
  obtain ⟨n0, n1⟩ := len_le s
  obtain ⟨sa, sb, sc, sd, _⟩ := id s
  intro d; induction d with
  | zero => intro L g h; have := sum_hts g.hts; omega
  | succ d ih =>
    intro L g hd
    have hl := g.len
    have sL : Sides W H L := by unfold Sides at s ⊢; rw [hl]; exact s
    have scan : ∀ (e : Nat) (i : Int), 0 ≤ i → i + e = (L.length : Int) → (∀ j, 0 ≤ j → j < i → ∀ k, k ∈ nbs W H j → rd L j ≤ rd L k + 1) → ∃ M, Ev (fun k => land_Settle.l2 k H (W + 1) L (L.length : Int) i W H L) (W, H, M, 0) ∧ Best W O M ∧ Places W O.length M := by
      intro e; induction e with
      | zero =>
        intro i i0 hi hs
        refine ⟨L, Ev.step (fun k => ?_) (Ev.now _), g, nb_places s fun j j0 j1 => hs j j0 (by omega)⟩
        simp only [land_Settle.l2]; rw [if_neg (by omega)]
      | succ e ihe =>
        intro i i0 hi hs
        have i1 : i < (L.length : Int) := by omega
        have hb := beside_ok sL i0 i1
        have w1 : wrap64 (H + 1) = H + 1 := w64_in (by omega) (by omega)
        have go : ∀ {r : S4}, Ev (fun k => if low L (nbs W H i) (rd L i) < rd L i then (if 0 ≤ i then (if i < (L.length : Int) then land_Settle.l1 k H (W + 1) W H (L.set i.toNat (low L (nbs W H i) (rd L i))) else none) else none) else land_Settle.l2 k H (W + 1) L (L.length : Int) (wrap64 (i + 1)) W H L) r → Ev (fun k => land_Settle.l2 k H (W + 1) L (L.length : Int) i W H L) r := by
          intro r hr
          refine Ev.step (f := fun k => (land_beside.f k i (W + 1) (H + 1)).bind fun t => land_Settle.l3 k H (W + 1) i (rd L i) (rd L i) L (L.length : Int) i t (t.length : Int) 0 W H L) (fun k => ?_) (Ev.bind hb ?_)
          · simp only [land_Settle.l2]; rw [if_pos i1, if_pos i0, if_pos i1, w1]
          · exact l3_ok (W := W) (H := H) (i := i) (z := rd L i) g.hts (nbs W H i) [] (rd L i) (nbs_len W H i) (fun k hk => nbs_in sL i0 i1 hk) hr
        obtain ⟨a1, a2⟩ := low_le L (nbs W H i) (rd L i)
        have hz := g.hts i i0 i1
        by_cases hv : low L (nbs W H i) (rd L i) < rd L i
        · have v0 : 0 ≤ low L (nbs W H i) (rd L i) := low_ge _ _ _ 0 hz.1 fun k hk => by have := nbs_in sL i0 i1 hk; have := g.hts k this.1 this.2; omega
          obtain ⟨M, m1, m2, m3⟩ := ih (L.set i.toNat (low L (nbs W H i) (rd L i))) (g.put i0 (by omega) v0 a1 fun Y p q => low_ge _ _ _ _ (q i i0 (by omega)) fun k hk => by
            have h1 := places_nb s p i0 (by omega) hk
            have h2 := nbs_in s i0 (by omega) hk
            have := q k h2.1 h2.2; omega) (by
              have := sum_put L i.toNat (low L (nbs W H i) (rd L i)) (by omega) hv
              omega)
          refine ⟨M, go ?_, m2, m3⟩
          simp only [hv, i0, i1, if_true]; exact m1
        · have w2 : wrap64 (i + 1) = i + 1 := w64_in (by omega) (by omega)
          obtain ⟨M, m1, m2, m3⟩ := ihe (i + 1) (by omega) (by omega) (fun j j0 j1 k hk => by
            by_cases e' : j = i
            · subst e'; have := a2 k hk; omega
            · exact hs j j0 (by omega) k hk)
          refine ⟨M, go ?_, m2, m3⟩
          simp only [hv, if_false, w2]; exact m1
    obtain ⟨M, m1, m2, m3⟩ := scan L.length 0 (by omega) (by omega) (fun j j0 j1 => by omega)
    exact ⟨M, Ev.step (fun k => by simp only [land_Settle.l1]) m1, m2, m3⟩
def cl (z : Int) : Int := mn (mx z 0) 15
theorem cl_in (z : Int) : 0 ≤ cl z ∧ cl z ≤ 15 := by unfold cl mn mx; split <;> split <;> omega
theorem rd_map {h : List Int} {j : Int} (j0 : 0 ≤ j) (j1 : j < (h.length : Int)) : rd (h.map cl) j = cl (rd h j) := by
  unfold rd
  have : j.toNat < h.length := by omega
  simp [List.getD_eq_getElem?_getD, this]
theorem hts_cl (h : List Int) : Hts (h.map cl) := fun j j0 j1 => by
  rw [List.length_map] at j1
  rw [rd_map j0 j1]; exact cl_in _
theorem clamp_ok {W H a b : Int} {h : List Int} {r : S4} (hn : (h.length : Int) < 1000000) (hr : Ev (fun k => land_Settle.l1 k b (wrap64 (a + 1)) W H (h.map cl)) r) : ∀ (d : Nat) (i : Int) (L : List Int), 0 ≤ i → i + d = (h.length : Int) → L.length = h.length → (∀ j, 0 ≤ j → j < i → rd L j = cl (rd h j)) → Ev (fun k => land_Settle.l0 k a b h (h.length : Int) i W H L) r := by
  intro d; induction d with
  | zero =>
    intro i L i0 hi hl hs
    have e : L = h.map cl := rd_ext (by simp [hl]) fun j j0 j1 => by rw [rd_map j0 (by omega)]; exact hs j j0 (by omega)
    subst e
    refine Ev.step (fun k => ?_) hr
    simp only [land_Settle.l0]; rw [if_neg (by omega)]
  | succ d ih =>
    intro i L i0 hi hl hs
    have := ih (i + 1) (L.set i.toNat (cl (rd h i))) (by omega) (by omega) (by simp [hl]) (fun j j0 j1 => by
      rw [rd_put i0 (by omega) j0]
      split
      · rename_i e; rw [e]
      · exact hs j j0 (by omega))
    refine Ev.step (fun k => ?_) this
    simp only [land_Settle.l0]
    rw [if_pos (by omega), if_pos i0, if_pos (by omega), if_pos (by omega), w64_in (x := i + 1) (by omega) (by omega)]
    rfl
theorem sides_ok (w h : Int) : land_sides.f w h = some (decide (4 ≤ w ∧ w ≤ 32 ∧ 4 ≤ h ∧ h ≤ 32)) := by
  unfold land_sides.f
  by_cases h1 : w ≥ 4 <;> by_cases h2 : w ≤ 32 <;> by_cases h3 : h ≥ 4 <;> by_cases h4 : h ≤ 32 <;> simp [h1, h2, h3, h4]
theorem wrap_len {w h : Int} (a : 4 ≤ w) (b : w ≤ 32) (c : 4 ≤ h) (d : h ≤ 32) : wrap64 (wrap64 (w + 1) * wrap64 (h + 1)) = (h + 1) * (w + 1) := by
  have h1 := Int.mul_le_mul (show h + 1 ≤ 33 by omega) (show w + 1 ≤ 33 by omega) (by omega) (by omega)
  have h2 := Int.mul_nonneg (show 0 ≤ h + 1 by omega) (show 0 ≤ w + 1 by omega)
  rw [w64_in (x := w + 1) (by omega) (by omega), w64_in (x := h + 1) (by omega) (by omega), Int.mul_comm]
  exact w64_in (by omega) (by omega)
/-- The program's land of raw heights. -/
theorem settle_no {w h : Int} {l : List Int} (s : ¬ Sides w h l) : Ev (fun k => land_Settle.f k w h l) ((0, 0, [], 1) : S4) := by
  refine ⟨2, fun k hk => ?_⟩
  obtain ⟨k, rfl⟩ : ∃ m, k = m + 1 + 1 := ⟨k - 2, by omega⟩
  unfold land_Settle.f
  rw [sides_ok]
  simp only [Option.bind_some, decide_eq_true_eq]
  by_cases c : 4 ≤ w ∧ w ≤ 32 ∧ 4 ≤ h ∧ h ≤ 32
  · obtain ⟨a, b, c, d⟩ := c
    rw [if_pos ⟨a, b, c, d⟩, wrap_len a b c d]
    simp only [land_Settle.j0]
    rw [if_pos]
    simp only [bne_iff_ne]
    exact fun e => s ⟨a, b, c, d, e⟩
  · rw [if_neg c]
    simp only [land_Settle.j0]
    rw [if_pos trivial]
theorem settle_yes {w h : Int} {l : List Int} (s : Sides w h l) : ∃ M, Ev (fun k => land_Settle.f k w h l) ((w, h, M, 0) : S4) ∧ Best w (l.map cl) M ∧ Places w (l.map cl).length M := by
  obtain ⟨n0, n1⟩ := len_le s
  obtain ⟨a, b, c, d, e⟩ := id s
  have s' : Sides w h (l.map cl) := by unfold Sides; rw [List.length_map]; exact s
  have hs := sum_hts (hts_cl l)
  obtain ⟨M, m1, m2, m3⟩ := settle_go s' ((l.map cl).sum.toNat + 1) (l.map cl) (Best.refl (hts_cl l)) (by omega)
  refine ⟨M, ?_, m2, m3⟩
  have w1 : wrap64 (w + 1) = w + 1 := w64_in (by omega) (by omega)
  have hc := clamp_ok (W := w) (H := h) (a := w) (b := h) (h := l) (by omega) (by rw [w1]; exact m1) l.length 0 (List.replicate l.length 0) (by omega) (by omega) (by simp) (fun j j0 j1 => by omega)
  refine Ev.step (f := fun k => land_Settle.l0 k w h l (l.length : Int) 0 w h (List.replicate l.length 0)) (fun k => ?_) hc
  unfold land_Settle.f
  rw [sides_ok]
  simp only [Option.bind_some, decide_eq_true_eq]
  rw [if_pos ⟨a, b, c, d⟩, wrap_len a b c d, ← e]
  simp only [land_Settle.j0]
  rw [if_neg (by simp), if_pos (by omega), if_pos (by simp; omega)]
  simp
end Go.Proofs.Ytchflcnegpnkkaa.Set
namespace Go.Proofs.Ytchflcnegpnkkaa.Pure
open Go.RowKit Go.Proofs.YtchflcnegpnkkaaOwn Go.Proofs.Ytchflcnegpnkkaa.Q Go.Proofs.Ytchflcnegpnkkaa.Val Go.Proofs.Ytchflcnegpnkkaa.Set Go.Proofs.YtchflcnegpnkkaaW.PrintWords Go.Proofs.YtchflcnegpnkkaaW.PrintLast
theorem known_ev : Ev (fun k => hinterlandlaw02_known.f k) true := Ev.of hinterlandlaw02_known.mono (k := 200) (by decide +kernel)
theorem most_l1 {O M Y : List Int} {a b : Int} {f : Bool} (hO : O.length ≤ 4000) (hM : M.length = O.length) (hf : f = true → Y.length = O.length ∧ ∀ j : Int, 0 ≤ j → j < (O.length : Int) → rd Y j ≤ rd M j) : ∀ (d : Nat) (i : Int), 0 ≤ i → i + d = (O.length : Int) → Ev (fun k => hinterlandlaw02_LandSettlesMost.l1 k Y f (O.length : Int) i a b M) true := by
  intro d; induction d with
  | zero =>
    intro i i0 hi
    refine Ev.step (f := fun k => (hinterlandlaw02_known.f k).bind fun t => some t) (fun k => ?_) (Ev.bind known_ev (Ev.now _))
    simp only [hinterlandlaw02_LandSettlesMost.l1]; rw [if_neg (by omega)]
  | succ d ih =>
    intro i i0 hi
    have w1 : wrap64 (i + 1) = i + 1 := w64_in (by omega) (by omega)
    refine Ev.step (f := fun k => hinterlandlaw02_LandSettlesMost.j4 k Y f (O.length : Int) i false a b M) (fun k => ?_) (Ev.step (fun k => ?_) (ih (i + 1) (by omega) (by omega)))
    · simp only [hinterlandlaw02_LandSettlesMost.l1]
      rw [if_pos (by omega)]
      by_cases e : f = true
      · obtain ⟨h1, h2⟩ := hf e
        rw [if_pos e, if_pos i0, if_pos (by omega), if_pos (by omega), decide_eq_false (by have := h2 i i0 (by omega); omega)]
      · rw [if_neg e]
    · simp only [hinterlandlaw02_LandSettlesMost.j4]
      rw [if_neg (by decide), w1]
theorem most_l0 {w : Int} {O M Y : List Int} {a b : Int} (hO : O.length ≤ 4000) (hM : M.length = O.length) (g : Best w (O.map cl) M) : ∀ (d : Nat) (i : Int) (f : Bool), (f = true → Y.length = O.length ∧ Places w O.length Y ∧ ∀ j : Int, 0 ≤ j → j < i → rd Y j ≤ cl (rd O j)) → 0 ≤ i → i + d = (O.length : Int) → Ev (fun k => hinterlandlaw02_LandSettlesMost.l0 k O Y f O (O.length : Int) i a b M) true := by
  intro d; induction d with
  | zero =>
    intro i f hf i0 hi
    refine Ev.step (fun k => ?_) (most_l1 (O := O) (M := M) (Y := Y) (a := a) (b := b) (f := f) hO hM (fun e => ?_) O.length 0 (by omega) (by omega))
    · simp only [hinterlandlaw02_LandSettlesMost.l0]; rw [if_neg (by omega)]
    · obtain ⟨h1, h2, h3⟩ := hf e
      refine ⟨h1, fun j j0 j1 => g.most Y (by rw [List.length_map]; exact h2) (fun q q0 q1 => ?_) j j0 (by rw [List.length_map]; exact j1)⟩
      rw [List.length_map] at q1
      rw [rd_map q0 q1]; exact h3 q q0 (by omega)
  | succ d ih =>
    intro i f hf i0 hi
    have i1 : i < (O.length : Int) := by omega
    have w1 : wrap64 (i + 1) = i + 1 := w64_in (by omega) (by omega)
    have hle : rd M i ≤ cl (rd O i) := by
      have := g.le i i0 (by rw [List.length_map]; exact i1)
      rwa [rd_map i0 i1] at this
    have hc : ∀ x : Int, mn (mx x 0) 15 = cl x := fun _ => rfl
    by_cases e : f = true
    · obtain ⟨h1, h2, h3⟩ := hf e
      refine Ev.step (fun k => ?_) (ih (i + 1) (decide (rd Y i ≤ cl (rd O i))) (fun e' => ⟨h1, h2, fun j j0 j1 => ?_⟩) (by omega) (by omega))
      · simp only [hinterlandlaw02_LandSettlesMost.l0, hc]
        rw [if_pos i1, if_pos i0, if_pos i1, if_pos (by omega), if_neg (by omega), if_pos e, if_pos (by omega), w1]
      · by_cases e2 : j = i
        · subst e2; simpa using e'
        · exact h3 j j0 (by omega)
    · refine Ev.step (fun k => ?_) (ih (i + 1) false (fun e' => by simp at e') (by omega) (by omega))
      simp only [hinterlandlaw02_LandSettlesMost.l0, hc]
      rw [if_pos i1, if_pos i0, if_pos i1, if_pos (by omega), if_neg (by omega), if_neg e, w1]
/-- The land of raw heights is valid, nowhere above them, and nowhere below another land that is so. -/
theorem LandSettlesMost : hinterlandlaw02_LandSettlesMost.Pure := by
  intro w h l o _ _ _ _
  refine Ev.rounds ?_
  unfold hinterlandlaw02_LandSettlesMost.f
  by_cases s : Sides w h l
  · obtain ⟨n0, n1⟩ := len_le s
    obtain ⟨M, h1, h2, h3⟩ := settle_yes s
    have hl := h2.len
    rw [List.length_map] at hl
    rw [List.length_map] at h3
    refine Ev.bind h1 ?_
    simp only [if_true]
    rw [decide_eq_false (by omega)]
    have sM : Sides w h M := by unfold Sides at s ⊢; rw [hl]; exact s
    obtain ⟨v, v1, v2⟩ := validate_ok w h M
    have v0 : v = 0 := v2.2 ⟨sM, h2.hts, fun y x y0 y1 x0 x1 => (steps_places sM).2 (fun j j0 j1 => h3 j j0 (by omega)) y x y0 y1 x0 x1⟩
    subst v0
    obtain ⟨t, t1, t2⟩ := validate_ok w h o
    refine Ev.step (f := fun k => (land_Validate.f k w h M).bind fun t => if t = 0 then hinterlandlaw02_LandSettlesMost.j1 k w h l o ((M.length : Int) != (l.length : Int)) w h M else hinterlandlaw02_LandSettlesMost.j1 k w h l o true w h M) (fun k => ?_) (Ev.bind v1 ?_)
    · simp only [hinterlandlaw02_LandSettlesMost.j0]; rw [if_neg (by decide)]
    simp only [if_true, hl, bne_self_eq_false]
    refine Ev.step (f := fun k => (land_Validate.f k w h o).bind fun t => hinterlandlaw02_LandSettlesMost.l0 k l o (t == 0) l (l.length : Int) 0 w h M) (fun k => ?_) (Ev.bind t1 ?_)
    · simp only [hinterlandlaw02_LandSettlesMost.j1]; rw [if_neg (by decide)]
    refine most_l0 (by omega) hl h2 l.length 0 _ (fun e => ?_) (by omega) (by omega)
    have vo := t2.1 (by simpa using e)
    have ho : o.length = l.length := by have a := vo.1.2.2.2.2; have b := s.2.2.2.2; omega
    exact ⟨ho, fun j j0 j1 => (steps_places vo.1).1 (fun y x a b c d => vo.2.2 y x a b c d) j j0 (by omega), fun j j0 j1 => by omega⟩
  · refine Ev.bind (settle_no s) ?_
    simp only [show ¬ ((1 : Int) = 0) by decide, if_false]
    refine Ev.step (f := fun k => (hinterlandlaw02_known.f k).bind fun t => if t = true then some true else some (decide ((l.length : Int) > 4000))) (fun k => ?_) (Ev.bind known_ev (Ev.now _))
    simp only [hinterlandlaw02_LandSettlesMost.j0]
    rw [if_pos trivial, if_pos (by simp)]
end Go.Proofs.Ytchflcnegpnkkaa.Pure

/- What is proved: law LandGrows of this seat, all in one text (laid by prune.py). -/
import Derived.Test.YtchflcnegpnkkabOpen
import Derived.Laws.Bits64
import Derived.OpenShut
import Derived.Test.YtchflcnegpnkkabQ2
import Derived.Test.YtchflcnegpnkkabQ3
import Derived.Test.YtchflcnegpnkkabQ15
import Derived.Test.YtchflcnegpnkkabQ22
import Derived.Test.YtchflcnegpnkkabQ23
import Derived.Test.YtchflcnegpnkkabQ24
import Derived.Test.YtchflcnegpnkkabQ25
import Derived.Test.YtchflcnegpnkkabQ26
import Derived.Test.YtchflcnegpnkkabQ27
import Derived.Test.YtchflcnegpnkkabQ28
import Derived.Test.YtchflcnegpnkkabQ29
import Derived.Test.YtchflcnegpnkkabQ30
import Derived.Test.YtchflcnegpnkkabQ31
import Derived.Test.YtchflcnegpnkkabQ32
import Derived.Test.YtchflcnegpnkkabQ33
import Derived.Test.YtchflcnegpnkkabQ34
import Derived.Test.YtchflcnegpnkkabQ35
import Derived.Test.YtchflcnegpnkkabQ36
import Derived.Test.YtchflcnegpnkkabQ37
namespace Go.Proofs.YtchflcnegpnkkabOwn
open Go.RowKit Go.Proofs.YtchflcnegpnkkabW.PrintWords
theorem wInt_u64 {n : Int} (h : wInt .u64 n) : 0 ≤ n ∧ n ≤ 18446744073709551615 := bounds_u64 h
theorem u64w (x : Int) : IntKind.u64.wrap x = x % 18446744073709551616 := by
  simp [IntKind.wrap, IntKind.signed, IntKind.bits]
theorem w64_in {x : Int} (h0 : -9223372036854775808 ≤ x) (h1 : x ≤ 9223372036854775807) : wrap64 x = x := by unfold wrap64; omega
end Go.Proofs.YtchflcnegpnkkabOwn
namespace Go.Proofs.Ytchflcnegpnkkab.Val
open Go.RowKit Go.Proofs.YtchflcnegpnkkabOwn Go.Proofs.Ytchflcnegpnkkab.Q Go.Proofs.YtchflcnegpnkkabW.PrintWords Go.Proofs.YtchflcnegpnkkabW.PrintLast
/-- Two heights lie within one step. -/
def near (a b : Int) : Prop := a - b ≤ 1 ∧ b - a ≤ 1
instance (a b : Int) : Decidable (near a b) := by unfold near; infer_instance
def Hts (L : List Int) : Prop := ∀ i : Int, 0 ≤ i → i < (L.length : Int) → 0 ≤ rd L i ∧ rd L i ≤ 15
def cell (W H : Int) (L : List Int) (y x : Int) : Prop := (x < W → near (rd L (y * (W + 1) + x)) (rd L (y * (W + 1) + x + 1))) ∧ (y < H → near (rd L (y * (W + 1) + x)) (rd L ((y + 1) * (W + 1) + x)))
def place (W : Int) (L : List Int) (i : Int) : Prop := (0 < i % (W + 1) → near (rd L i) (rd L (i - 1))) ∧ (W < i → near (rd L i) (rd L (i - W - 1)))
instance (W H : Int) (L : List Int) (y x : Int) : Decidable (cell W H L y x) := by unfold cell; infer_instance
instance (W : Int) (L : List Int) (i : Int) : Decidable (place W L i) := by unfold place; infer_instance
def Steps (W H : Int) (L : List Int) : Prop := ∀ y x : Int, 0 ≤ y → y ≤ H → 0 ≤ x → x ≤ W → cell W H L y x
def Sides (W H : Int) (L : List Int) : Prop := 4 ≤ W ∧ W ≤ 32 ∧ 4 ≤ H ∧ H ≤ 32 ∧ (L.length : Int) = (H + 1) * (W + 1)
def Valid (W H : Int) (L : List Int) : Prop := Sides W H L ∧ Hts L ∧ Steps W H L
def Res (g : Nat → Option Int) (P : Prop) : Prop := ∃ r, Ev g r ∧ (r = 0 ∨ r = 5) ∧ (r = 0 ↔ P)
theorem row_in {y H m : Int} (h0 : 0 ≤ y) (h1 : y ≤ H) (hm : 0 ≤ m) : 0 ≤ y * m ∧ y * m + m ≤ (H + 1) * m := by
  constructor
  · exact Int.mul_nonneg h0 hm
  · have := Int.mul_le_mul_of_nonneg_right (show y + 1 ≤ H + 1 by omega) hm
    rw [Int.add_mul y 1 m, Int.one_mul] at this; exact this
theorem len_le {W H : Int} {L : List Int} (s : Sides W H L) : 25 ≤ (L.length : Int) ∧ (L.length : Int) ≤ 1089 := by
  obtain ⟨a, b, c, d, e⟩ := s
  have h1 := Int.mul_le_mul (show H + 1 ≤ 33 by omega) (show W + 1 ≤ 33 by omega) (by omega) (by omega)
  have h2 := Int.mul_le_mul (show 5 ≤ H + 1 by omega) (show 5 ≤ W + 1 by omega) (by omega) (by omega)
  omega
theorem apart_ok {a b : Int} (ha : 0 ≤ a ∧ a ≤ 15) (hb : 0 ≤ b ∧ b ≤ 15) : land_apart.f a b = some (!decide (near a b)) := by
  unfold land_apart.f
  rw [w64_in (by omega) (by omega), w64_in (by omega) (by omega)]
  by_cases h : a - b > 1
  · rw [if_pos h, decide_eq_false (p := near a b) (by unfold near; omega)]; rfl
  · rw [if_neg h]
    by_cases h2 : b - a > 1
    · rw [decide_eq_true h2, decide_eq_false (p := near a b) (by unfold near; omega)]; rfl
    · rw [decide_eq_false h2, decide_eq_true (p := near a b) (by unfold near; omega)]; rfl
theorem l0_ok {W H : Int} {L : List Int} {r : Int} (hn : (L.length : Int) ≤ 1089) (hg : Ev (fun k => land_Validate.l1 k 0 W H L) r) : ∀ (d : Nat) (i : Int), 0 ≤ i → i + d = L.length → (∀ j, i ≤ j → j < (L.length : Int) → 0 ≤ rd L j ∧ rd L j ≤ 15) → Ev (fun k => land_Validate.l0 k L (L.length : Int) i W H L) r := by
  intro d; induction d with
  | zero =>
    intro i h0 hd hh
    refine Ev.step (f := fun k => land_Validate.l1 k 0 W H L) (fun k => ?_) hg
    simp only [land_Validate.l0]; rw [if_neg (by omega)]
  | succ d ih =>
    intro i h0 hd hh
    have h1 := hh i (by omega) (by omega)
    obtain ⟨K, hK⟩ := ih (i + 1) (by omega) (by omega) (fun j a b => hh j (by omega) b)
    refine ⟨K + 2, fun k hk => ?_⟩
    obtain ⟨k, rfl⟩ : ∃ m, k = m + 1 + 1 := ⟨k - 2, by omega⟩
    simp only [land_Validate.l0, land_Validate.j2]
    rw [if_pos (by omega), if_pos (by omega), if_pos (by omega), if_neg (by omega), if_neg (by simp; omega), w64_in (by omega) (by omega)]
    exact hK k (by omega)
theorem l0_no {W H : Int} {L : List Int} (hn : (L.length : Int) ≤ 1089) : ∀ (d : Nat) (i : Int), 0 ≤ i → i + d = L.length → (∃ j, i ≤ j ∧ j < (L.length : Int) ∧ ¬ (0 ≤ rd L j ∧ rd L j ≤ 15)) → Ev (fun k => land_Validate.l0 k L (L.length : Int) i W H L) 1 := by
  intro d; induction d with
  | zero => intro i h0 hd hh; obtain ⟨j, a, b, _⟩ := hh; omega
  | succ d ih =>
    intro i h0 hd hh
    by_cases h1 : 0 ≤ rd L i ∧ rd L i ≤ 15
    · obtain ⟨K, hK⟩ := ih (i + 1) (by omega) (by omega) (by
        obtain ⟨j, a, b, c⟩ := hh
        refine ⟨j, ?_, b, c⟩
        by_cases e : j = i
        · subst e; exact absurd h1 c
        · omega)
      refine ⟨K + 2, fun k hk => ?_⟩
      obtain ⟨k, rfl⟩ : ∃ m, k = m + 1 + 1 := ⟨k - 2, by omega⟩
      simp only [land_Validate.l0, land_Validate.j2]
      rw [if_pos (by omega), if_pos (by omega), if_pos (by omega), if_neg (by omega), if_neg (by simp; omega), w64_in (by omega) (by omega)]
      exact hK k (by omega)
    · refine ⟨2, fun k hk => ?_⟩
      obtain ⟨k, rfl⟩ : ∃ m, k = m + 1 + 1 := ⟨k - 2, by omega⟩
      simp only [land_Validate.l0, land_Validate.j2]
      rw [if_pos (by omega), if_pos (by omega), if_pos (by omega)]
      by_cases h2 : rd L i < 0
      · rw [if_pos h2, if_pos trivial]
      · rw [if_neg h2, if_pos (by simp; omega)]
theorem row_ok {W H : Int} {L : List Int} (s : Sides W H L) (hh : Hts L) {y : Int} (y0 : 0 ≤ y) (y1 : y ≤ H) {P : Prop} (hn : Res (fun k => land_Validate.l1 k (y + 1) W H L) P) : ∀ (d : Nat) (x : Int), 0 ≤ x → x + d = W + 1 → Res (fun k => land_Validate.l2 k y x W H L) ((∀ x', x ≤ x' → x' ≤ W → cell W H L y x') ∧ P) := by
  obtain ⟨a, b, c, e, f⟩ := id s
  obtain ⟨l0, l1⟩ := len_le s
  obtain ⟨p0, p1⟩ := row_in (m := W + 1) y0 y1 (by omega)
  intro d; induction d with
  | zero =>
    intro x h0 hd
    obtain ⟨r, ⟨K, hK⟩, hr, hi⟩ := hn
    refine ⟨r, ⟨K + 1, fun k hk => ?_⟩, hr, by rw [hi]; exact ⟨fun h => ⟨fun x' h1 h2 => by omega, h⟩, fun h => h.2⟩⟩
    obtain ⟨k, rfl⟩ : ∃ m, k = m + 1 := ⟨k - 1, by omega⟩
    simp only [land_Validate.l2]
    rw [if_neg (by omega), w64_in (by omega) (by omega)]
    exact hK k (by omega)
  | succ d ih =>
    intro x h0 hd
    obtain ⟨r, ⟨K, hK⟩, hr, hi⟩ := ih (x + 1) (by omega) (by omega)
    have ep : (y + 1) * (W + 1) = y * (W + 1) + (W + 1) := by rw [Int.add_mul, Int.one_mul]
    have hc : cell W H L y x ↔ ((x < W → near (rd L (y * (W + 1) + x)) (rd L (y * (W + 1) + x + 1))) ∧ (y < H → near (rd L (y * (W + 1) + x)) (rd L (y * (W + 1) + (W + 1) + x)))) := by unfold cell; rw [ep]
    have hq : y < H → y * (W + 1) + (W + 1) + (W + 1) ≤ (H + 1) * (W + 1) := fun h => by
      have := (row_in (m := W + 1) (show 0 ≤ y + 1 by omega) (show y + 1 ≤ H by omega) (by omega)).2; omega
    have go : ∀ k, land_Validate.l2 (k + 1 + 1) y x W H L = if cell W H L y x then land_Validate.l2 k y (x + 1) W H L else some 5 := by
      intro k
      simp only [land_Validate.l2, land_Validate.j5]
      rw [w64_in (x := W + 1) (by omega) (by omega), w64_in (x := y + 1) (by omega) (by omega), ep]
      generalize y * (W + 1) = p at *
      rw [w64_in (x := p) (by omega) (by omega), w64_in (x := p + (W + 1)) (by omega) (by omega), w64_in (x := p + (W + 1) + x) (by omega) (by omega), w64_in (x := p + x) (by omega) (by omega), w64_in (x := p + x + 1) (by omega) (by omega), w64_in (x := x + 1) (by omega) (by omega)]
      rw [if_pos (by omega), if_pos (by omega), if_pos (by omega)]
      by_cases hx : x < W
      · rw [if_pos hx, if_pos (by omega), if_pos (by omega), apart_ok (hh _ (by omega) (by omega)) (hh _ (by omega) (by omega))]
        simp only [Option.bind_some]
        by_cases h1 : near (rd L (p + x)) (rd L (p + x + 1))
        · rw [if_neg (by simpa using h1)]
          by_cases hy : y < H
          · have := hq hy
            rw [if_pos hy, if_pos (by omega), if_pos (by omega), apart_ok (hh _ (by omega) (by omega)) (hh _ (by omega) (by omega))]
            simp only [Option.bind_some]
            by_cases h2 : near (rd L (p + x)) (rd L (p + (W + 1) + x))
            · rw [if_neg (by simpa using h2), if_pos (hc.2 ⟨fun _ => h1, fun _ => h2⟩)]
            · rw [if_pos (by simpa using h2), if_neg (fun h => h2 ((hc.1 h).2 hy))]
          · rw [if_neg hy, if_neg (by simp), if_pos (hc.2 ⟨fun _ => h1, fun h => absurd h hy⟩)]
        · rw [if_pos (by simpa using h1), if_pos trivial, if_neg (fun h => h1 ((hc.1 h).1 hx))]
      · rw [if_neg hx]
        by_cases hy : y < H
        · have := hq hy
          rw [if_pos hy, if_pos (by omega), if_pos (by omega), apart_ok (hh _ (by omega) (by omega)) (hh _ (by omega) (by omega))]
          simp only [Option.bind_some]
          by_cases h2 : near (rd L (p + x)) (rd L (p + (W + 1) + x))
          · rw [if_neg (by simpa using h2), if_pos (hc.2 ⟨fun h => absurd h hx, fun _ => h2⟩)]
          · rw [if_pos (by simpa using h2), if_neg (fun h => h2 ((hc.1 h).2 hy))]
        · rw [if_neg hy, if_neg (by simp), if_pos (hc.2 ⟨fun h => absurd h hx, fun h => absurd h hy⟩)]
    by_cases hcell : cell W H L y x
    · refine ⟨r, ⟨K + 2, fun k hk => ?_⟩, hr, ?_⟩
      · obtain ⟨k, rfl⟩ : ∃ m, k = m + 1 + 1 := ⟨k - 2, by omega⟩
        show land_Validate.l2 (k + 1 + 1) y x W H L = _
        rw [go, if_pos hcell]; exact hK k (by omega)
      · rw [hi]
        refine ⟨fun h => ⟨fun x' h1 h2 => ?_, h.2⟩, fun h => ⟨fun x' h1 h2 => h.1 x' (by omega) h2, h.2⟩⟩
        by_cases e : x' = x
        · subst e; exact hcell
        · exact h.1 x' (by omega) h2
    · refine ⟨5, ⟨2, fun k hk => ?_⟩, Or.inr rfl, ?_⟩
      · obtain ⟨k, rfl⟩ : ∃ m, k = m + 1 + 1 := ⟨k - 2, by omega⟩
        show land_Validate.l2 (k + 1 + 1) y x W H L = _
        rw [go, if_neg hcell]
      · exact ⟨fun h => absurd h (by decide), fun h => absurd (h.1 x (by omega) (by omega)) hcell⟩
theorem rows_ok {W H : Int} {L : List Int} (s : Sides W H L) (hh : Hts L) : ∀ (d : Nat) (y : Int), 0 ≤ y → y + d = H + 1 → Res (fun k => land_Validate.l1 k y W H L) (∀ y' x', y ≤ y' → y' ≤ H → 0 ≤ x' → x' ≤ W → cell W H L y' x') := by
  obtain ⟨a, b, c, e, f⟩ := id s
  intro d; induction d with
  | zero =>
    intro y h0 hd
    refine ⟨0, ⟨1, fun k hk => ?_⟩, Or.inl rfl, ⟨fun _ y' x' h1 h2 => by omega, fun _ => rfl⟩⟩
    obtain ⟨k, rfl⟩ : ∃ m, k = m + 1 := ⟨k - 1, by omega⟩
    simp only [land_Validate.l1]
    rw [if_neg (by omega)]
  | succ d ih =>
    intro y h0 hd
    obtain ⟨r, ⟨K, hK⟩, hr, hi⟩ := row_ok s hh h0 (by omega) (ih (y + 1) (by omega) (by omega)) (W + 1).toNat 0 (by omega) (by omega)
    refine ⟨r, ⟨K + 1, fun k hk => ?_⟩, hr, ?_⟩
    · obtain ⟨k, rfl⟩ : ∃ m, k = m + 1 := ⟨k - 1, by omega⟩
      simp only [land_Validate.l1]
      rw [if_pos (by omega)]
      exact hK k (by omega)
    · rw [hi]
      refine ⟨fun h y' x' h1 h2 h3 h4 => ?_, fun h => ⟨fun x' h1 h2 => h y x' (by omega) (by omega) h1 h2, fun y' x' h1 h2 h3 h4 => h y' x' (by omega) h2 h3 h4⟩⟩
      by_cases e : y' = y
      · subst e; exact h.1 x' h3 h4
      · exact h.2 y' x' (by omega) h2 h3 h4
theorem near_comm {a b : Int} : near a b ↔ near b a := by unfold near; omega
theorem steps_places {W H : Int} {L : List Int} (s : Sides W H L) : (∀ y' x', 0 ≤ y' → y' ≤ H → 0 ≤ x' → x' ≤ W → cell W H L y' x') ↔ (∀ j, 0 ≤ j → j < (L.length : Int) → place W L j) := by
  obtain ⟨a, b, c, e, f⟩ := id s
  constructor
  · intro h j j0 j1
    have hx0 := Int.emod_nonneg j (show W + 1 ≠ 0 by omega)
    have hx1 := Int.emod_lt_of_pos j (show 0 < W + 1 by omega)
    have hd := Int.mul_ediv_add_emod j (W + 1)
    have hy0 : 0 ≤ j / (W + 1) := Int.ediv_nonneg j0 (by omega)
    have hy1 : j / (W + 1) ≤ H := by
      have : j / (W + 1) < H + 1 := Int.ediv_lt_of_lt_mul (by omega) (by omega)
      omega
    rw [Int.mul_comm] at hd
    generalize hy : j / (W + 1) = y at *
    generalize hx : j % (W + 1) = x at *
    have ep : (y - 1) * (W + 1) = y * (W + 1) - (W + 1) := by rw [Int.sub_mul, Int.one_mul]
    refine ⟨fun g => ?_, fun g => ?_⟩
    · rw [hx] at g
      have := (h y (x - 1) hy0 hy1 (by omega) (by omega)).1 (by omega)
      rw [show y * (W + 1) + (x - 1) = j - 1 by omega, show j - 1 + 1 = j by omega] at this
      exact near_comm.1 this
    · have hyp : 1 ≤ y := by
        by_cases h0 : y = 0
        · subst h0; omega
        · omega
      have := (h (y - 1) x (by omega) (by omega) (by omega) (by omega)).2 (by omega)
      rw [ep, show y - 1 + 1 = y by omega, show y * (W + 1) - (W + 1) + x = j - W - 1 by omega, show y * (W + 1) + x = j by omega] at this
      exact near_comm.1 this
  · intro h y x y0 y1 x0 x1
    have ep : (y + 1) * (W + 1) = y * (W + 1) + (W + 1) := by rw [Int.add_mul, Int.one_mul]
    obtain ⟨p0, p1⟩ := row_in (m := W + 1) y0 y1 (by omega)
    refine ⟨fun g => ?_, fun g => ?_⟩
    · have := (h (y * (W + 1) + x + 1) (by omega) (by omega)).1 (by
        rw [show y * (W + 1) + x + 1 = (x + 1) + y * (W + 1) by omega, Int.add_mul_emod_self_right, Int.emod_eq_of_lt (by omega) (by omega)]; omega)
      rw [show y * (W + 1) + x + 1 - 1 = y * (W + 1) + x by omega] at this
      exact near_comm.1 this
    · have q := (row_in (m := W + 1) (show 0 ≤ y + 1 by omega) (show y + 1 ≤ H by omega) (by omega)).2
      have := (h ((y + 1) * (W + 1) + x) (by omega) (by omega)).2 (by omega)
      rw [show (y + 1) * (W + 1) + x - W - 1 = y * (W + 1) + x by omega] at this
      exact near_comm.1 this
theorem validate_ok (W H : Int) (L : List Int) : ∃ r, Ev (fun k => land_Validate.f k W H L) r ∧ (r = 0 ↔ Valid W H L) := by
  by_cases s : Sides W H L
  · obtain ⟨a, b, c, e, f⟩ := id s
    obtain ⟨n0, n1⟩ := len_le s
    have hlen : wrap64 (wrap64 (W + 1) * wrap64 (H + 1)) = (L.length : Int) := by
      rw [w64_in (x := W + 1) (by omega) (by omega), w64_in (x := H + 1) (by omega) (by omega), Int.mul_comm, ← f]
      exact w64_in (by omega) (by omega)
    have hA : ∀ k, land_Validate.f (k + 1) W H L = land_Validate.l0 k L (L.length : Int) 0 W H L := by
      intro k
      unfold land_Validate.f
      rw [if_neg (by omega), if_neg (by omega), if_neg (by omega), if_neg (by omega), hlen]
      simp only [land_Validate.j0]
      rw [if_neg (by simp)]
    by_cases hh : Hts L
    · obtain ⟨r, h1, h2, h3⟩ := rows_ok s hh (H + 1).toNat 0 (by omega) (by omega)
      refine ⟨r, Ev.step hA (l0_ok n1 h1 L.length 0 (by omega) (by omega) (fun j => hh j)), ?_⟩
      rw [h3]
      exact ⟨fun h => ⟨s, hh, fun y x a b c d => h y x a b c d⟩, fun h => fun y x a b c d => h.2.2 y x a b c d⟩
    · have hx : ∃ j, 0 ≤ j ∧ j < (L.length : Int) ∧ ¬ (0 ≤ rd L j ∧ rd L j ≤ 15) := by
        refine Classical.byContradiction fun h => hh fun i h0 h1 => ?_
        exact Classical.byContradiction fun h' => h ⟨i, h0, h1, h'⟩
      exact ⟨1, Ev.step hA (l0_no n1 L.length 0 (by omega) (by omega) hx), ⟨fun h => absurd h (by decide), fun h => absurd h.2.1 hh⟩⟩
  · refine ⟨1, ⟨1, fun k hk => ?_⟩, ⟨fun h => absurd h (by decide), fun h => absurd h.1 s⟩⟩
    obtain ⟨k, rfl⟩ : ∃ m, k = m + 1 := ⟨k - 1, by omega⟩
    show land_Validate.f (k + 1) W H L = _
    unfold land_Validate.f
    simp only [land_Validate.j0]
    by_cases h1 : W < 4
    · rw [if_pos h1, if_pos trivial]
    by_cases h2 : W > 32
    · rw [if_neg h1, if_pos h2, if_pos trivial]
    by_cases h3 : H < 4
    · rw [if_neg h1, if_neg h2, if_pos h3, if_pos trivial]
    by_cases h4 : H > 32
    · rw [if_neg h1, if_neg h2, if_neg h3, if_pos h4, if_pos trivial]
    rw [if_neg h1, if_neg h2, if_neg h3, if_neg h4, if_pos]
    simp only [bne_iff_ne]
    intro h5
    refine s ⟨by omega, by omega, by omega, by omega, ?_⟩
    rw [h5, w64_in (x := W + 1) (by omega) (by omega), w64_in (x := H + 1) (by omega) (by omega), Int.mul_comm]
    have := Int.mul_le_mul (show H + 1 ≤ 33 by omega) (show W + 1 ≤ 33 by omega) (by omega) (by omega)
    have := Int.mul_nonneg (show 0 ≤ H + 1 by omega) (show 0 ≤ W + 1 by omega)
    exact w64_in (by omega) (by omega)
end Go.Proofs.Ytchflcnegpnkkab.Val
namespace Go.Proofs.Ytchflcnegpnkkab.Set
open Go.RowKit Go.Proofs.YtchflcnegpnkkabOwn Go.Proofs.Ytchflcnegpnkkab.Q Go.Proofs.Ytchflcnegpnkkab.Val Go.Proofs.YtchflcnegpnkkabW.PrintWords Go.Proofs.YtchflcnegpnkkabW.PrintLast Go.Proofs.YtchflcnegpnkkabW.PrintMore
set_option linter.unusedVariables false
set_option linter.unusedSimpArgs false
theorem rd_ext {l m : List Int} (h : l.length = m.length) (e : ∀ j : Int, 0 ≤ j → j < (l.length : Int) → rd l j = rd m j) : l = m := by
  apply List.ext_getElem h
  intro i h1 h2
  have := e i (by omega) (by omega)
  unfold rd at this
  simpa [List.getD_eq_getElem?_getD, h1, h2] using this
theorem rd_put {l : List Int} {i j v : Int} (i0 : 0 ≤ i) (i1 : i < (l.length : Int)) (j0 : 0 ≤ j) : rd (l.set i.toNat v) j = if j = i then v else rd l j := by
  unfold rd
  simp only [List.getD_eq_getElem?_getD, List.getElem?_set]
  by_cases e : j = i
  · subst e; rw [if_pos rfl, if_pos rfl, if_pos (by omega)]; rfl
  · rw [if_neg e, if_neg (by omega)]
theorem sum_put : ∀ (L : List Int) (i : Nat) (v : Int), i < L.length → v < L.getD i 0 → (L.set i v).sum < L.sum
  | [], _, _, h, _ => by simp at h
  | x :: xs, 0, v, _, h => by simp at h ⊢; omega
  | x :: xs, i + 1, v, hl, h => by
    have := sum_put xs i v (by simpa using hl) (by simpa using h)
    simp; omega
theorem sum_nn : ∀ (L : List Int), (∀ x, x ∈ L → 0 ≤ x) → 0 ≤ L.sum
  | [], _ => by simp
  | x :: xs, h => by
    have h1 := h x (by simp)
    have h2 := sum_nn xs (fun y hy => h y (by simp [hy]))
    simp; omega
theorem sum_hts {L : List Int} (h : Hts L) : 0 ≤ L.sum := by
  refine sum_nn L fun x hx => ?_
  obtain ⟨i, hi, rfl⟩ := List.mem_iff_getElem.1 hx
  have := (h i (by omega) (by omega)).1
  unfold rd at this
  simpa [List.getD_eq_getElem?_getD, hi] using this
/-! ### places and their neighbours -/
section
variable {n i : Int}
theorem m_right (hn : 0 < n) (h : i % n + 1 < n) : (i + 1) % n = i % n + 1 := by
  have e := Int.mul_ediv_add_emod i n
  have x0 := Int.emod_nonneg i (show n ≠ 0 by omega)
  rw [show i + 1 = (i % n + 1) + n * (i / n) by omega, Int.add_mul_emod_self_left, Int.emod_eq_of_lt (by omega) h]
theorem m_left (hn : 0 < n) (h : 0 < i % n) : (i - 1) % n = i % n - 1 := by
  have e := Int.mul_ediv_add_emod i n
  have x1 := Int.emod_lt_of_pos i hn
  rw [show i - 1 = (i % n - 1) + n * (i / n) by omega, Int.add_mul_emod_self_left, Int.emod_eq_of_lt (by omega) (by omega)]
theorem m_down (hn : 0 < n) : (i + n) % n = i % n := by
  rw [show i + n = i + n * 1 by omega, Int.add_mul_emod_self_left]
theorem m_up (hn : 0 < n) : (i - n) % n = i % n := by
  rw [show i - n = i + n * (-1) by omega, Int.add_mul_emod_self_left]
theorem m_pos (hn : 0 < n) (i0 : 0 ≤ i) (h : 0 < i % n) : 1 ≤ i := by
  by_cases e : i = 0
  · subst e; simp at h
  · omega
theorem in_right {W H : Int} {L : List Int} (s : Sides W H L) (i0 : 0 ≤ i) (i1 : i < (L.length : Int)) (h : i % (W + 1) + 1 < W + 1) : i + 1 < (L.length : Int) := by
  obtain ⟨a, b, c, d, e⟩ := s
  refine Classical.byContradiction fun hc => ?_
  have h1 := m_right (by omega) h
  rw [show i + 1 = (H + 1) * (W + 1) by omega, Int.mul_emod_left] at h1
  have x0 := Int.emod_nonneg i (show W + 1 ≠ 0 by omega)
  rw [show i % (W + 1) = -1 by omega] at x0
  omega
theorem d_down {W H : Int} {L : List Int} (s : Sides W H L) : i / (W + 1) + 1 < H + 1 ↔ i + (W + 1) < (L.length : Int) := by
  obtain ⟨a, b, c, d, e⟩ := s
  have := Int.ediv_lt_iff_lt_mul (a := i) (b := H) (c := W + 1) (by omega)
  rw [e, Int.add_mul, Int.one_mul]
  omega
theorem d_up {W : Int} (hw : 4 ≤ W) : i / (W + 1) > 0 ↔ W < i := by
  have := Int.ediv_lt_iff_lt_mul (a := i) (b := 1) (c := W + 1) (by omega)
  omega
end
def nbs (W H i : Int) : List Int := (if i % (W + 1) + 1 < W + 1 then [i + 1] else []) ++ (if i % (W + 1) > 0 then [i - 1] else []) ++ (if i / (W + 1) + 1 < H + 1 then [i + (W + 1)] else []) ++ (if i / (W + 1) > 0 then [i - (W + 1)] else [])
theorem mem_nbs {W H i k : Int} : k ∈ nbs W H i ↔ (i % (W + 1) + 1 < W + 1 ∧ k = i + 1) ∨ (i % (W + 1) > 0 ∧ k = i - 1) ∨ (i / (W + 1) + 1 < H + 1 ∧ k = i + (W + 1)) ∨ (i / (W + 1) > 0 ∧ k = i - (W + 1)) := by
  unfold nbs
  by_cases h1 : i % (W + 1) + 1 < W + 1 <;> by_cases h2 : i % (W + 1) > 0 <;> by_cases h3 : i / (W + 1) + 1 < H + 1 <;> by_cases h4 : i / (W + 1) > 0 <;> simp [h1, h2, h3, h4]
theorem nbs_in {W H i k : Int} {L : List Int} (s : Sides W H L) (i0 : 0 ≤ i) (i1 : i < (L.length : Int)) (hm : k ∈ nbs W H i) : 0 ≤ k ∧ k < (L.length : Int) := by
  have hn : 0 < W + 1 := by have := s.1; omega
  rcases mem_nbs.1 hm with ⟨h, rfl⟩ | ⟨h, rfl⟩ | ⟨h, rfl⟩ | ⟨h, rfl⟩
  · have := in_right s i0 i1 h; omega
  · have := m_pos hn i0 h; omega
  · have := (d_down s).1 h; omega
  · have := (d_up s.1).1 h; omega
abbrev Places (W : Int) (n : Nat) (Y : List Int) : Prop := ∀ j : Int, 0 ≤ j → j < (n : Int) → place W Y j
theorem places_nb {W H i k : Int} {L Y : List Int} (s : Sides W H L) (p : Places W L.length Y) (i0 : 0 ≤ i) (i1 : i < (L.length : Int)) (hm : k ∈ nbs W H i) : rd Y i ≤ rd Y k + 1 := by
  have hn : 0 < W + 1 := by have := s.1; omega
  have x0 := Int.emod_nonneg i (show W + 1 ≠ 0 by omega)
  have hk := nbs_in s i0 i1 hm
  rcases mem_nbs.1 hm with ⟨h, rfl⟩ | ⟨h, rfl⟩ | ⟨h, rfl⟩ | ⟨h, rfl⟩
  · have := (p (i + 1) hk.1 hk.2).1 (by rw [m_right hn h]; omega)
    rw [show i + 1 - 1 = i by omega] at this; unfold near at this; omega
  · have := (p i i0 i1).1 h; unfold near at this; omega
  · have := (p (i + (W + 1)) hk.1 hk.2).2 (by omega)
    rw [show i + (W + 1) - W - 1 = i by omega] at this; unfold near at this; omega
  · have := (p i i0 i1).2 (by omega)
    rw [show i - W - 1 = i - (W + 1) by omega] at this; unfold near at this; omega
theorem nb_places {W H : Int} {L Y : List Int} (s : Sides W H L) (h : ∀ i, 0 ≤ i → i < (L.length : Int) → ∀ k, k ∈ nbs W H i → rd Y i ≤ rd Y k + 1) : Places W L.length Y := by
  intro j j0 j1
  have hn : 0 < W + 1 := by have := s.1; omega
  have x1 := Int.emod_lt_of_pos j hn
  refine ⟨fun g => ?_, fun g => ?_⟩
  · have p := m_pos hn j0 g
    have a := h j j0 j1 (j - 1) (mem_nbs.2 (.inr (.inl ⟨g, rfl⟩)))
    have b := h (j - 1) (by omega) (by omega) j (mem_nbs.2 (.inl ⟨by rw [m_left hn g]; omega, by omega⟩))
    unfold near; omega
  · have a := h j j0 j1 (j - (W + 1)) (mem_nbs.2 (.inr (.inr (.inr ⟨(d_up s.1).2 g, rfl⟩))))
    have b := h (j - (W + 1)) (by omega) (by omega) j (mem_nbs.2 (.inr (.inr (.inl ⟨(d_down s).2 (by omega), by omega⟩))))
    rw [show j - (W + 1) = j - W - 1 by omega] at a b
    unfold near; omega
/-- M lies nowhere above O, is of heights, and nowhere below what is level and lies nowhere above O. -/
structure Best (W : Int) (O M : List Int) : Prop where
  len : M.length = O.length
  hts : Hts M
  le : ∀ j : Int, 0 ≤ j → j < (O.length : Int) → rd M j ≤ rd O j
  most : ∀ Y : List Int, Places W O.length Y → (∀ j : Int, 0 ≤ j → j < (O.length : Int) → rd Y j ≤ rd O j) → ∀ j : Int, 0 ≤ j → j < (O.length : Int) → rd Y j ≤ rd M j
theorem Best.refl {W : Int} {O : List Int} (h : Hts O) : Best W O O := ⟨rfl, h, fun _ _ _ => Int.le_refl _, fun _ _ h => h⟩
theorem Best.put {W : Int} {O L : List Int} (g : Best W O L) {i v : Int} (i0 : 0 ≤ i) (i1 : i < (O.length : Int)) (v0 : 0 ≤ v) (v1 : v ≤ rd L i) (hy : ∀ Y : List Int, Places W O.length Y → (∀ j : Int, 0 ≤ j → j < (O.length : Int) → rd Y j ≤ rd L j) → rd Y i ≤ v) : Best W O (L.set i.toNat v) := by
  have hl := g.len
  have hi := g.hts i i0 (by omega)
  refine ⟨by rw [List.length_set]; exact hl, fun j j0 j1 => ?_, fun j j0 j1 => ?_, fun Y p q j j0 j1 => ?_⟩
  · rw [List.length_set] at j1
    rw [rd_put i0 (by omega) j0]
    have := g.hts j j0 j1
    split <;> omega
  · rw [rd_put i0 (by omega) j0]
    have := g.le j j0 j1
    split
    · rename_i e; subst e; omega
    · exact this
  · rw [rd_put i0 (by omega) j0]
    have h1 := g.most Y p q
    split
    · rename_i e; subst e; exact hy Y p h1
    · exact h1 j j0 j1
theorem Best.same {W : Int} {O A B : List Int} (a : Best W O A) (b : Best W O B) (pa : Places W O.length A) (pb : Places W O.length B) : A = B := by
  refine rd_ext (a.len.trans b.len.symm) fun j j0 j1 => ?_
  have hj : j < (O.length : Int) := by have := a.len; omega
  have h1 := b.most A pa a.le j j0 hj
  have h2 := a.most B pb b.le j j0 hj
  omega
def low (L : List Int) : List Int → Int → Int
  | [], z => z
  | k :: ks, z => low L ks (mn z (rd L k + 1))
theorem low_le : ∀ (L ks : List Int) (z : Int), low L ks z ≤ z ∧ ∀ k, k ∈ ks → low L ks z ≤ rd L k + 1
  | L, [], z => ⟨Int.le_refl _, fun k h => by simp at h⟩
  | L, q :: ks, z => by
    obtain ⟨a, b⟩ := low_le L ks (mn z (rd L q + 1))
    have h1 : mn z (rd L q + 1) ≤ z := by unfold mn; split <;> omega
    have h2 : mn z (rd L q + 1) ≤ rd L q + 1 := by unfold mn; split <;> omega
    refine ⟨by simp only [low]; omega, fun k hk => ?_⟩
    simp only [low]
    rcases List.mem_cons.1 hk with rfl | hk
    · omega
    · exact b k hk
theorem low_ge : ∀ (L ks : List Int) (z b : Int), b ≤ z → (∀ k, k ∈ ks → b ≤ rd L k + 1) → b ≤ low L ks z
  | L, [], z, b, h, _ => h
  | L, q :: ks, z, b, h, hk => by
    simp only [low]
    refine low_ge L ks _ b ?_ fun k h' => hk k (by simp [h'])
    have := hk q (by simp)
    unfold mn; split <;> omega
/-! ### the program -/
theorem beside_ok {W H i : Int} {L : List Int} (s : Sides W H L) (i0 : 0 ≤ i) (i1 : i < (L.length : Int)) : Ev (fun k => land_beside.f k i (W + 1) (H + 1)) (nbs W H i) := by
  obtain ⟨n0, n1⟩ := len_le s
  obtain ⟨a, b, c, d, e⟩ := id s
  have hn : 0 < W + 1 := by omega
  have x0 := Int.emod_nonneg i (show W + 1 ≠ 0 by omega)
  have x1 := Int.emod_lt_of_pos i hn
  have y0 : 0 ≤ i / (W + 1) := Int.ediv_nonneg i0 (by omega)
  have y1 : i / (W + 1) ≤ i := Int.ediv_le_self _ i0
  refine ⟨4, fun k hk => ?_⟩
  obtain ⟨k, rfl⟩ : ∃ m, k = m + 1 + 1 + 1 + 1 := ⟨k - 4, by omega⟩
  unfold land_beside.f nbs
  rw [Int.tmod_eq_emod_of_nonneg i0, w64_in (x := i % (W + 1) + 1) (by omega) (by omega), w64_in (x := i + 1) (by omega) (by omega)]
  have t : ∀ l : List Int, l.length ≤ 3 → (l.length < 17592186044416) = True := fun l h => eq_true (by omega)
  by_cases h1 : i % (W + 1) + 1 < W + 1 <;> by_cases h2 : i % (W + 1) > 0 <;> by_cases h3 : i / (W + 1) + 1 < H + 1 <;> by_cases h4 : i / (W + 1) > 0 <;>
    simp [h1, h2, h3, h4, land_beside.j0, land_beside.j1, land_beside.j2, Int.tmod_eq_emod_of_nonneg i0, Int.tdiv_eq_ediv_of_nonneg i0, w64_in (x := i / (W + 1)) (by omega) (by omega), w64_in (x := i / (W + 1) + 1) (by omega) (by omega), w64_in (x := i - 1) (by omega) (by omega), w64_in (x := i + (W + 1)) (by omega) (by omega), w64_in (x := i - (W + 1)) (by omega) (by omega), show ¬ (W + 1 = 0) by omega]
abbrev S4 := Int × Int × List Int × Int
theorem rd_at (P : List Int) (t : Int) (l : List Int) : rd (P ++ t :: l) (P.length : Int) = t := by unfold rd; simp
theorem l3_ok {W H i z : Int} {L : List Int} (hL : Hts L) {r : S4} : ∀ (suf pre : List Int) (a : Int), (pre ++ suf).length < 1000 → (∀ k, k ∈ suf → 0 ≤ k ∧ k < (L.length : Int)) →
    Ev (fun k => if low L suf a < z then (if 0 ≤ i then (if i < (L.length : Int) then land_Settle.l1 k H (W + 1) W H (L.set i.toNat (low L suf a)) else none) else none) else land_Settle.l2 k H (W + 1) L (L.length : Int) (wrap64 (i + 1)) W H L) r →
    Ev (fun k => land_Settle.l3 k H (W + 1) i z a L (L.length : Int) i (pre ++ suf) ((pre ++ suf).length : Int) (pre.length : Int) W H L) r
  | [], pre, a, hl, hk, h => by
    refine Ev.step (fun k => ?_) h
    simp only [land_Settle.l3]
    rw [if_neg (by simp)]
    rfl
  | t :: suf, pre, a, hl, hk, h => by
    have ht := hk t (by simp)
    have hz := hL t ht.1 ht.2
    have hp : (pre.length : Int) < ((pre ++ t :: suf).length : Int) := by simp; omega
    have hpb : pre.length < 1000 := by simp at hl; omega
    have ih := l3_ok (W := W) (H := H) (i := i) (z := z) hL suf (pre ++ [t]) (mn a (rd L t + 1)) (by simpa using hl) (fun k hk' => hk k (by simp [hk'])) h
    refine Ev.step (fun k => ?_) ih
    simp only [land_Settle.l3]
    rw [if_pos hp, if_pos (by omega), if_pos hp, rd_at, if_pos ht.1, if_pos ht.2, w64_in (x := rd L t + 1) (by omega) (by omega), w64_in (x := (pre.length : Int) + 1) (by omega) (by omega)]
    simp
theorem nbs_len (W H i : Int) : (nbs W H i).length < 1000 := by
  unfold nbs
  by_cases h1 : i % (W + 1) + 1 < W + 1 <;> by_cases h2 : i % (W + 1) > 0 <;> by_cases h3 : i / (W + 1) + 1 < H + 1 <;> by_cases h4 : i / (W + 1) > 0 <;> simp [h1, h2, h3, h4]
theorem settle_go {W H : Int} {O : List Int} (s : Sides W H O) : ∀ (d : Nat) (L : List Int), Best W O L → L.sum < d → ∃ M, Ev (fun k => land_Settle.l1 k H (W + 1) W H L) (W, H, M, 0) ∧ Best W O M ∧ Places W O.length M := by
  obtain ⟨n0, n1⟩ := len_le s
  obtain ⟨sa, sb, sc, sd, _⟩ := id s
  intro d; induction d with
  | zero => intro L g h; have := sum_hts g.hts; omega
  | succ d ih =>
    intro L g hd
    have hl := g.len
    have sL : Sides W H L := by unfold Sides at s ⊢; rw [hl]; exact s
    have scan : ∀ (e : Nat) (i : Int), 0 ≤ i → i + e = (L.length : Int) → (∀ j, 0 ≤ j → j < i → ∀ k, k ∈ nbs W H j → rd L j ≤ rd L k + 1) → ∃ M, Ev (fun k => land_Settle.l2 k H (W + 1) L (L.length : Int) i W H L) (W, H, M, 0) ∧ Best W O M ∧ Places W O.length M := by
      intro e; induction e with
      | zero =>
        intro i i0 hi hs
        refine ⟨L, Ev.step (fun k => ?_) (Ev.now _), g, nb_places s fun j j0 j1 => hs j j0 (by omega)⟩
        simp only [land_Settle.l2]; rw [if_neg (by omega)]
      | succ e ihe =>
        intro i i0 hi hs
        have i1 : i < (L.length : Int) := by omega
        have hb := beside_ok sL i0 i1
        have w1 : wrap64 (H + 1) = H + 1 := w64_in (by omega) (by omega)
        have go : ∀ {r : S4}, Ev (fun k => if low L (nbs W H i) (rd L i) < rd L i then (if 0 ≤ i then (if i < (L.length : Int) then land_Settle.l1 k H (W + 1) W H (L.set i.toNat (low L (nbs W H i) (rd L i))) else none) else none) else land_Settle.l2 k H (W + 1) L (L.length : Int) (wrap64 (i + 1)) W H L) r → Ev (fun k => land_Settle.l2 k H (W + 1) L (L.length : Int) i W H L) r := by
          intro r hr
          refine Ev.step (f := fun k => (land_beside.f k i (W + 1) (H + 1)).bind fun t => land_Settle.l3 k H (W + 1) i (rd L i) (rd L i) L (L.length : Int) i t (t.length : Int) 0 W H L) (fun k => ?_) (Ev.bind hb ?_)
          · simp only [land_Settle.l2]; rw [if_pos i1, if_pos i0, if_pos i1, w1]
          · exact l3_ok (W := W) (H := H) (i := i) (z := rd L i) g.hts (nbs W H i) [] (rd L i) (nbs_len W H i) (fun k hk => nbs_in sL i0 i1 hk) hr
        obtain ⟨a1, a2⟩ := low_le L (nbs W H i) (rd L i)
        have hz := g.hts i i0 i1
        by_cases hv : low L (nbs W H i) (rd L i) < rd L i
        · have v0 : 0 ≤ low L (nbs W H i) (rd L i) := low_ge _ _ _ 0 hz.1 fun k hk => by have := nbs_in sL i0 i1 hk; have := g.hts k this.1 this.2; omega
          obtain ⟨M, m1, m2, m3⟩ := ih (L.set i.toNat (low L (nbs W H i) (rd L i))) (g.put i0 (by omega) v0 a1 fun Y p q => low_ge _ _ _ _ (q i i0 (by omega)) fun k hk => by
            have h1 := places_nb s p i0 (by omega) hk
            have h2 := nbs_in s i0 (by omega) hk
            have := q k h2.1 h2.2; omega) (by
              have := sum_put L i.toNat (low L (nbs W H i) (rd L i)) (by omega) hv
              omega)
          refine ⟨M, go ?_, m2, m3⟩
          simp only [hv, i0, i1, if_true]; exact m1
        · have w2 : wrap64 (i + 1) = i + 1 := w64_in (by omega) (by omega)
          obtain ⟨M, m1, m2, m3⟩ := ihe (i + 1) (by omega) (by omega) (fun j j0 j1 k hk => by
            by_cases e' : j = i
            · subst e'; have := a2 k hk; omega
            · exact hs j j0 (by omega) k hk)
          refine ⟨M, go ?_, m2, m3⟩
          simp only [hv, if_false, w2]; exact m1
    obtain ⟨M, m1, m2, m3⟩ := scan L.length 0 (by omega) (by omega) (fun j j0 j1 => by omega)
    exact ⟨M, Ev.step (fun k => by simp only [land_Settle.l1]) m1, m2, m3⟩
def cl (z : Int) : Int := mn (mx z 0) 15
theorem cl_in (z : Int) : 0 ≤ cl z ∧ cl z ≤ 15 := by unfold cl mn mx; split <;> split <;> omega
theorem rd_map {h : List Int} {j : Int} (j0 : 0 ≤ j) (j1 : j < (h.length : Int)) : rd (h.map cl) j = cl (rd h j) := by
  unfold rd
  have : j.toNat < h.length := by omega
  simp [List.getD_eq_getElem?_getD, this]
theorem hts_cl (h : List Int) : Hts (h.map cl) := fun j j0 j1 => by
  rw [List.length_map] at j1
  rw [rd_map j0 j1]; exact cl_in _
theorem clamp_ok {W H a b : Int} {h : List Int} {r : S4} (hn : (h.length : Int) < 1000000) (hr : Ev (fun k => land_Settle.l1 k b (wrap64 (a + 1)) W H (h.map cl)) r) : ∀ (d : Nat) (i : Int) (L : List Int), 0 ≤ i → i + d = (h.length : Int) → L.length = h.length → (∀ j, 0 ≤ j → j < i → rd L j = cl (rd h j)) → Ev (fun k => land_Settle.l0 k a b h (h.length : Int) i W H L) r := by
  intro d; induction d with
  | zero =>
    intro i L i0 hi hl hs
    have e : L = h.map cl := rd_ext (by simp [hl]) fun j j0 j1 => by rw [rd_map j0 (by omega)]; exact hs j j0 (by omega)
    subst e
    refine Ev.step (fun k => ?_) hr
    simp only [land_Settle.l0]; rw [if_neg (by omega)]
  | succ d ih =>
    intro i L i0 hi hl hs
    have := ih (i + 1) (L.set i.toNat (cl (rd h i))) (by omega) (by omega) (by simp [hl]) (fun j j0 j1 => by
      rw [rd_put i0 (by omega) j0]
      split
      · rename_i e; rw [e]
      · exact hs j j0 (by omega))
    refine Ev.step (fun k => ?_) this
    simp only [land_Settle.l0]
    rw [if_pos (by omega), if_pos i0, if_pos (by omega), if_pos (by omega), w64_in (x := i + 1) (by omega) (by omega)]
    rfl
theorem sides_ok (w h : Int) : land_sides.f w h = some (decide (4 ≤ w ∧ w ≤ 32 ∧ 4 ≤ h ∧ h ≤ 32)) := by
  unfold land_sides.f
  by_cases h1 : w ≥ 4 <;> by_cases h2 : w ≤ 32 <;> by_cases h3 : h ≥ 4 <;> by_cases h4 : h ≤ 32 <;> simp [h1, h2, h3, h4]
theorem wrap_len {w h : Int} (a : 4 ≤ w) (b : w ≤ 32) (c : 4 ≤ h) (d : h ≤ 32) : wrap64 (wrap64 (w + 1) * wrap64 (h + 1)) = (h + 1) * (w + 1) := by
  have h1 := Int.mul_le_mul (show h + 1 ≤ 33 by omega) (show w + 1 ≤ 33 by omega) (by omega) (by omega)
  have h2 := Int.mul_nonneg (show 0 ≤ h + 1 by omega) (show 0 ≤ w + 1 by omega)
  rw [w64_in (x := w + 1) (by omega) (by omega), w64_in (x := h + 1) (by omega) (by omega), Int.mul_comm]
  exact w64_in (by omega) (by omega)
/-- The program's land of raw heights. -/
theorem settle_no {w h : Int} {l : List Int} (s : ¬ Sides w h l) : Ev (fun k => land_Settle.f k w h l) ((0, 0, [], 1) : S4) := by
  refine ⟨2, fun k hk => ?_⟩
  obtain ⟨k, rfl⟩ : ∃ m, k = m + 1 + 1 := ⟨k - 2, by omega⟩
  unfold land_Settle.f
  rw [sides_ok]
  simp only [Option.bind_some, decide_eq_true_eq]
  by_cases c : 4 ≤ w ∧ w ≤ 32 ∧ 4 ≤ h ∧ h ≤ 32
  · obtain ⟨a, b, c, d⟩ := c
    rw [if_pos ⟨a, b, c, d⟩, wrap_len a b c d]
    simp only [land_Settle.j0]
    rw [if_pos]
    simp only [bne_iff_ne]
    exact fun e => s ⟨a, b, c, d, e⟩
  · rw [if_neg c]
    simp only [land_Settle.j0]
    rw [if_pos trivial]
theorem settle_yes {w h : Int} {l : List Int} (s : Sides w h l) : ∃ M, Ev (fun k => land_Settle.f k w h l) ((w, h, M, 0) : S4) ∧ Best w (l.map cl) M ∧ Places w (l.map cl).length M := by
  obtain ⟨n0, n1⟩ := len_le s
  obtain ⟨a, b, c, d, e⟩ := id s
  have s' : Sides w h (l.map cl) := by unfold Sides; rw [List.length_map]; exact s
  have hs := sum_hts (hts_cl l)
  obtain ⟨M, m1, m2, m3⟩ := settle_go s' ((l.map cl).sum.toNat + 1) (l.map cl) (Best.refl (hts_cl l)) (by omega)
  refine ⟨M, ?_, m2, m3⟩
  have w1 : wrap64 (w + 1) = w + 1 := w64_in (by omega) (by omega)
  have hc := clamp_ok (W := w) (H := h) (a := w) (b := h) (h := l) (by omega) (by rw [w1]; exact m1) l.length 0 (List.replicate l.length 0) (by omega) (by omega) (by simp) (fun j j0 j1 => by omega)
  refine Ev.step (f := fun k => land_Settle.l0 k w h l (l.length : Int) 0 w h (List.replicate l.length 0)) (fun k => ?_) hc
  unfold land_Settle.f
  rw [sides_ok]
  simp only [Option.bind_some, decide_eq_true_eq]
  rw [if_pos ⟨a, b, c, d⟩, wrap_len a b c d, ← e]
  simp only [land_Settle.j0]
  rw [if_neg (by simp), if_pos (by omega), if_pos (by simp; omega)]
  simp
end Go.Proofs.Ytchflcnegpnkkab.Set
namespace Go.Proofs.Ytchflcnegpnkkab.Swp
open Go.RowKit Go.Proofs.YtchflcnegpnkkabOwn Go.Proofs.Ytchflcnegpnkkab.Q Go.Proofs.Ytchflcnegpnkkab.Val Go.Proofs.Ytchflcnegpnkkab.Set Go.Proofs.YtchflcnegpnkkabW.PrintWords Go.Proofs.YtchflcnegpnkkabW.PrintLast Go.Proofs.YtchflcnegpnkkabW.PrintMore
set_option linter.unusedVariables false
set_option linter.unusedSimpArgs false
set_option linter.unusedSectionVars false
/-- In the middle of a sweep over A: where it has been (p) and something is asked (g), the least of the place and one more than its neighbour (nb). -/
structure Mid (W : Int) (O A L : List Int) (g : Int → Prop) (nb : Int → Int) (p : Int → Prop) : Prop where
  good : Best W O L
  done : ∀ j : Int, 0 ≤ j → j < (O.length : Int) → g j → p j → rd L j = mn (rd A j) (rd L (nb j) + 1)
  rest : ∀ j : Int, 0 ≤ j → j < (O.length : Int) → ¬ (g j ∧ p j) → rd L j = rd A j
theorem Mid.start {W : Int} {O A : List Int} {g : Int → Prop} {nb : Int → Int} {p : Int → Prop} (h : Best W O A) (hp : ∀ j : Int, 0 ≤ j → j < (O.length : Int) → ¬ p j) : Mid W O A A g nb p := ⟨h, fun j a b _ h' => absurd h' (hp j a b), fun _ _ _ _ => rfl⟩
theorem Mid.skip {W i : Int} {O A L : List Int} {g : Int → Prop} {nb : Int → Int} {p p' : Int → Prop} (m : Mid W O A L g nb p) (hp : ∀ j, p' j ↔ p j ∨ j = i) (hi : ¬ g i) : Mid W O A L g nb p' := by
  refine ⟨m.good, fun j a b c d => ?_, fun j a b c => m.rest j a b fun h => c ⟨h.1, (hp j).2 (.inl h.2)⟩⟩
  rcases (hp j).1 d with h | rfl
  · exact m.done j a b c h
  · exact absurd c hi
theorem Mid.step {W i : Int} {O A L : List Int} {g : Int → Prop} {nb : Int → Int} {p p' : Int → Prop} (m : Mid W O A L g nb p) (hp : ∀ j, p' j ↔ p j ∨ j = i) (i0 : 0 ≤ i) (i1 : i < (O.length : Int)) (hi : ¬ p i) (gi : g i) (hn : ∀ j, 0 ≤ j → j < (O.length : Int) → g j → 0 ≤ nb j ∧ nb j < (O.length : Int)) (hne : nb i ≠ i) (hf : ∀ j, p j → nb j ≠ i) (hy : ∀ Y, Places W O.length Y → rd Y i ≤ rd Y (nb i) + 1) : Mid W O A (L.set i.toNat (mn (rd L i) (rd L (nb i) + 1))) g nb p' := by
  have hl := m.good.len
  have ni := hn i i0 i1 gi
  have hz := m.good.hts i i0 (by omega)
  have hk := m.good.hts (nb i) ni.1 (by omega)
  refine ⟨m.good.put i0 i1 (by unfold mn; split <;> omega) (by unfold mn; split <;> omega) fun Y py q => ?_, fun j a b c d => ?_, fun j a b c => ?_⟩
  · have h1 := hy Y py
    have h2 := q i i0 i1
    have h3 := q (nb i) ni.1 ni.2
    unfold mn; split <;> omega
  · have nj := hn j a b c
    rw [rd_put i0 (by omega) a, rd_put i0 (by omega) nj.1]
    rcases (hp j).1 d with h | rfl
    · rw [if_neg (fun (e : j = i) => hi (by rw [← e]; exact h)), if_neg (hf j h)]
      exact m.done j a b c h
    · rw [if_pos rfl, if_neg hne, m.rest j a b (fun h => hi h.2)]
  · rw [rd_put i0 (by omega) a, if_neg (fun (e : j = i) => c ⟨by rw [e]; exact gi, (hp j).2 (.inr e)⟩)]
    exact m.rest j a b fun h => c ⟨h.1, (hp j).2 (.inl h.2)⟩
/-- A whole sweep. -/
structure Swept (W : Int) (O A L : List Int) (g : Int → Prop) (nb : Int → Int) : Prop where
  good : Best W O L
  done : ∀ j : Int, 0 ≤ j → j < (O.length : Int) → g j → rd L j = mn (rd A j) (rd L (nb j) + 1)
  rest : ∀ j : Int, 0 ≤ j → j < (O.length : Int) → ¬ g j → rd L j = rd A j
theorem Mid.swept {W : Int} {O A L : List Int} {g : Int → Prop} {nb : Int → Int} {p : Int → Prop} (m : Mid W O A L g nb p) (hp : ∀ j : Int, 0 ≤ j → j < (O.length : Int) → p j) : Swept W O A L g nb := ⟨m.good, fun j a b c => m.done j a b c (hp j a b), fun j a b c => m.rest j a b fun h => c h.1⟩
theorem Swept.le {W : Int} {O A L : List Int} {g : Int → Prop} {nb : Int → Int} (m : Swept W O A L g nb) (j : Int) (a : 0 ≤ j) (b : j < (O.length : Int)) : rd L j ≤ rd A j := by
  by_cases h : g j
  · rw [m.done j a b h]; unfold mn; split <;> omega
  · rw [m.rest j a b h]; exact Int.le_refl _
abbrev gRF (W : Int) (j : Int) : Prop := 0 < j % (W + 1)
abbrev gRB (W : Int) (j : Int) : Prop := j % (W + 1) < W
abbrev gCF (W : Int) (j : Int) : Prop := W + 1 ≤ j
abbrev gCB (W : Int) (N : Nat) (j : Int) : Prop := j + (W + 1) < (N : Int)
theorem emod_le {i n : Int} (i0 : 0 ≤ i) (hn : 0 < n) : i % n ≤ i := by
  have h1 := Int.mul_ediv_add_emod i n
  have h2 := Int.mul_nonneg (show 0 ≤ n by omega) (Int.ediv_nonneg i0 (show 0 ≤ n by omega))
  omega
section
variable {W H : Int} {O : List Int} (s : Sides W H O)
include s
theorem y_rf {j : Int} (j0 : 0 ≤ j) (j1 : j < (O.length : Int)) (h : gRF W j) (Y : List Int) (p : Places W O.length Y) : rd Y j ≤ rd Y (j - 1) + 1 := by
  have := (p j j0 j1).1 h; unfold near at this; omega
theorem y_rb {j : Int} (j0 : 0 ≤ j) (j1 : j < (O.length : Int)) (h : gRB W j) (Y : List Int) (p : Places W O.length Y) : rd Y j ≤ rd Y (j + 1) + 1 := by
  have hn : 0 < W + 1 := by have := s.1; omega
  have x0 := Int.emod_nonneg j (show W + 1 ≠ 0 by omega)
  have := (p (j + 1) (by omega) (in_right s j0 j1 (by unfold gRB at h; omega))).1 (by rw [m_right hn (by unfold gRB at h; omega)]; omega)
  rw [show j + 1 - 1 = j by omega] at this; unfold near at this; omega
theorem y_cf {j : Int} (j0 : 0 ≤ j) (j1 : j < (O.length : Int)) (h : gCF W j) (Y : List Int) (p : Places W O.length Y) : rd Y j ≤ rd Y (j - (W + 1)) + 1 := by
  have := (p j j0 j1).2 (by unfold gCF at h; omega)
  rw [show j - W - 1 = j - (W + 1) by omega] at this; unfold near at this; omega
theorem y_cb {j : Int} (j0 : 0 ≤ j) (h : gCB W O.length j) (Y : List Int) (p : Places W O.length Y) : rd Y j ≤ rd Y (j + (W + 1)) + 1 := by
  have hn : 0 < W + 1 := by have := s.1; omega
  have := (p (j + (W + 1)) (by omega) h).2 (by omega)
  rw [show j + (W + 1) - W - 1 = j by omega] at this; unfold near at this; omega
theorem row_f {A : List Int} {c : Int} : ∀ (d : Nat) (i : Int) (L : List Int), 0 ≤ i → i + d = (O.length : Int) → Mid W O A L (gRF W) (fun j => j - 1) (fun j => j < i) → ∃ B, Swept W O A B (gRF W) (fun j => j - 1) ∧ ∀ r : S4, Ev (fun k => hinterlandref02_Settle.l3 k W H B ((O.length : Int) - 1) c) r → Ev (fun k => hinterlandref02_Settle.l2 k W H L c (O.length : Int) i) r := by
  obtain ⟨n0, n1⟩ := len_le s
  obtain ⟨sa, sb, sc, sd, _⟩ := id s
  have hn : 0 < W + 1 := by omega
  intro d; induction d with
  | zero =>
    intro i L i0 hi m
    refine ⟨L, m.swept fun j a b => by show j < i; omega, fun r hr => Ev.step (fun k => ?_) hr⟩
    simp only [hinterlandref02_Settle.l2]
    rw [if_neg (by omega), m.good.len, w64_in (by omega) (by omega)]
  | succ d ih =>
    intro i L i0 hi m
    have hl := m.good.len
    have i1 : i < (O.length : Int) := by omega
    have hm := emod_le i0 hn
    have w1 : wrap64 (W + 1) = W + 1 := w64_in (by omega) (by omega)
    have w2 : wrap64 (i + 1) = i + 1 := w64_in (by omega) (by omega)
    by_cases h : gRF W i
    · have hz := m.good.hts (i - 1) (by unfold gRF at h; omega) (by omega)
      have m' := m.step (p' := fun j => j < i + 1) (i := i) (fun j => by show j < i + 1 ↔ j < i ∨ j = i; omega) i0 i1 (by show ¬ i < i; omega) h (fun j a b c => by have := emod_le a hn; unfold gRF at c; show 0 ≤ j - 1 ∧ j - 1 < _; omega) (by show i - 1 ≠ i; omega) (fun j (q : j < i) => by show j - 1 ≠ i; omega) (y_rf s i0 i1 h)
      obtain ⟨B, b1, b2⟩ := ih (i + 1) _ (by omega) (by omega) m'
      refine ⟨B, b1, fun r hr => Ev.step (fun k => ?_) (b2 r hr)⟩
      simp only [hinterlandref02_Settle.l2]
      rw [if_pos i1, w1, if_neg (by omega), Int.tmod_eq_emod_of_nonneg i0, if_pos (show i % (W + 1) > 0 from h), if_pos i0, if_pos (by omega), w64_in (x := i - 1) (by unfold gRF at h; omega) (by omega), if_pos (by unfold gRF at h; omega), if_pos (by omega), w64_in (x := rd L (i - 1) + 1) (by omega) (by omega), w2]
    · obtain ⟨B, b1, b2⟩ := ih (i + 1) L (by omega) (by omega) (m.skip (i := i) (fun j => by show j < i + 1 ↔ j < i ∨ j = i; omega) h)
      refine ⟨B, b1, fun r hr => Ev.step (fun k => ?_) (b2 r hr)⟩
      simp only [hinterlandref02_Settle.l2]
      rw [if_pos i1, w1, if_neg (by omega), Int.tmod_eq_emod_of_nonneg i0, if_neg (show ¬ i % (W + 1) > 0 from h), w2]
theorem row_b {A : List Int} {c : Int} : ∀ (d : Nat) (i : Int) (L : List Int), i + 1 = d → i < (O.length : Int) → Mid W O A L (gRB W) (fun j => j + 1) (fun j => i < j) → ∃ B, Swept W O A B (gRB W) (fun j => j + 1) ∧ ∀ r : S4, Ev (fun k => hinterlandref02_Settle.l4 k W H B (W + 1) c) r → Ev (fun k => hinterlandref02_Settle.l3 k W H L i c) r := by
  obtain ⟨n0, n1⟩ := len_le s
  obtain ⟨sa, sb, sc, sd, _⟩ := id s
  have hn : 0 < W + 1 := by omega
  have w1 : wrap64 (W + 1) = W + 1 := w64_in (by omega) (by omega)
  intro d; induction d with
  | zero =>
    intro i L hi i1 m
    refine ⟨L, m.swept fun j a b => by show i < j; omega, fun r hr => Ev.step (fun k => ?_) hr⟩
    simp only [hinterlandref02_Settle.l3]
    rw [if_neg (by omega), w1]
  | succ d ih =>
    intro i L hi i1 m
    have hl := m.good.len
    have i0 : 0 ≤ i := by omega
    have w2 : wrap64 (i - 1) = i - 1 := w64_in (by omega) (by omega)
    have ir : ∀ j, 0 ≤ j → j < (O.length : Int) → gRB W j → 0 ≤ j + 1 ∧ j + 1 < (O.length : Int) := fun j a b c => ⟨by omega, in_right s a b (by unfold gRB at c; omega)⟩
    by_cases h : gRB W i
    · have hr := ir i i0 i1 h
      have hz := m.good.hts (i + 1) hr.1 (by omega)
      have m' := m.step (p' := fun j => i - 1 < j) (i := i) (fun j => by show i - 1 < j ↔ i < j ∨ j = i; omega) i0 i1 (by show ¬ i < i; omega) h ir (by show i + 1 ≠ i; omega) (fun j (q : i < j) => by show j + 1 ≠ i; omega) (y_rb s i0 i1 h)
      obtain ⟨B, b1, b2⟩ := ih (i - 1) _ (by omega) (by omega) m'
      refine ⟨B, b1, fun r hr' => Ev.step (fun k => ?_) (b2 r hr')⟩
      simp only [hinterlandref02_Settle.l3]
      rw [if_pos (show i ≥ 0 by omega), w1, if_neg (by omega), Int.tmod_eq_emod_of_nonneg i0, if_pos (show i % (W + 1) < W from h), if_pos i0, if_pos (by omega), w64_in (x := i + 1) (by omega) (by omega), if_pos (by omega), if_pos (by omega), w64_in (x := rd L (i + 1) + 1) (by omega) (by omega), w2]
    · obtain ⟨B, b1, b2⟩ := ih (i - 1) L (by omega) (by omega) (m.skip (i := i) (fun j => by show i - 1 < j ↔ i < j ∨ j = i; omega) h)
      refine ⟨B, b1, fun r hr => Ev.step (fun k => ?_) (b2 r hr)⟩
      simp only [hinterlandref02_Settle.l3]
      rw [if_pos (show i ≥ 0 by omega), w1, if_neg (by omega), Int.tmod_eq_emod_of_nonneg i0, if_neg (show ¬ i % (W + 1) < W from h), w2]
theorem col_f {A : List Int} {c : Int} : ∀ (d : Nat) (i : Int) (L : List Int), W + 1 ≤ i → i + d = (O.length : Int) → Mid W O A L (gCF W) (fun j => j - (W + 1)) (fun j => j < i) → ∃ B, Swept W O A B (gCF W) (fun j => j - (W + 1)) ∧ ∀ r : S4, Ev (fun k => hinterlandref02_Settle.l5 k W H B ((O.length : Int) - W - 2) c) r → Ev (fun k => hinterlandref02_Settle.l4 k W H L i c) r := by
  obtain ⟨n0, n1⟩ := len_le s
  obtain ⟨sa, sb, sc, sd, _⟩ := id s
  intro d; induction d with
  | zero =>
    intro i L i0 hi m
    refine ⟨L, m.swept fun j a b => by show j < i; omega, fun r hr => Ev.step (fun k => ?_) hr⟩
    simp only [hinterlandref02_Settle.l4]
    rw [m.good.len, if_neg (by omega), w64_in (x := (O.length : Int) - W) (by omega) (by omega), w64_in (x := (O.length : Int) - W - 2) (by omega) (by omega)]
  | succ d ih =>
    intro i L i0 hi m
    have hl := m.good.len
    have i1 : i < (O.length : Int) := by omega
    have w2 : wrap64 (i + 1) = i + 1 := w64_in (by omega) (by omega)
    have h : gCF W i := i0
    have hz := m.good.hts (i - (W + 1)) (by omega) (by omega)
    have m' := m.step (p' := fun j => j < i + 1) (i := i) (fun j => by show j < i + 1 ↔ j < i ∨ j = i; omega) (by omega) i1 (by show ¬ i < i; omega) h (fun j a b c => by unfold gCF at c; show 0 ≤ j - (W + 1) ∧ j - (W + 1) < _; omega) (by show i - (W + 1) ≠ i; omega) (fun j (q : j < i) => by show j - (W + 1) ≠ i; omega) (y_cf s (by omega) i1 h)
    obtain ⟨B, b1, b2⟩ := ih (i + 1) _ (by omega) (by omega) m'
    refine ⟨B, b1, fun r hr => Ev.step (fun k => ?_) (b2 r hr)⟩
    have e : i - W - 1 = i - (W + 1) := by omega
    simp only [hinterlandref02_Settle.l4]
    rw [if_pos (by omega), if_pos (by omega), w64_in (x := i - W) (by omega) (by omega), w64_in (x := i - W - 1) (by omega) (by omega), e, if_pos (by omega), if_pos (by omega), w64_in (x := rd L (i - (W + 1)) + 1) (by omega) (by omega), w2]
theorem col_b {A : List Int} {c : Int} (hc : 0 ≤ c ∧ c < 10) : ∀ (d : Nat) (i : Int) (L : List Int), i + 1 = d → i + (W + 1) < (O.length : Int) → Mid W O A L (gCB W O.length) (fun j => j + (W + 1)) (fun j => i < j) → ∃ B, Swept W O A B (gCB W O.length) (fun j => j + (W + 1)) ∧ ∀ r : S4, Ev (fun k => hinterlandref02_Settle.l1 k W H B (c + 1)) r → Ev (fun k => hinterlandref02_Settle.l5 k W H L i c) r := by
  obtain ⟨n0, n1⟩ := len_le s
  obtain ⟨sa, sb, sc, sd, _⟩ := id s
  intro d; induction d with
  | zero =>
    intro i L hi i1 m
    refine ⟨L, m.swept fun j a b => by show i < j; omega, fun r hr => Ev.step (fun k => ?_) hr⟩
    simp only [hinterlandref02_Settle.l5]
    rw [if_neg (by omega), w64_in (x := c + 1) (by omega) (by omega)]
  | succ d ih =>
    intro i L hi i1 m
    have hl := m.good.len
    have i0 : 0 ≤ i := by omega
    have w2 : wrap64 (i - 1) = i - 1 := w64_in (by omega) (by omega)
    have hz := m.good.hts (i + (W + 1)) (by omega) (by omega)
    have m' := m.step (p' := fun j => i - 1 < j) (i := i) (fun j => by show i - 1 < j ↔ i < j ∨ j = i; omega) i0 (by omega) (by show ¬ i < i; omega) i1 (fun j a b c => by unfold gCB at c; show 0 ≤ j + (W + 1) ∧ j + (W + 1) < _; omega) (by show i + (W + 1) ≠ i; omega) (fun j (q : i < j) => by show j + (W + 1) ≠ i; omega) (y_cb s i0 i1)
    obtain ⟨B, b1, b2⟩ := ih (i - 1) _ (by omega) (by omega) m'
    refine ⟨B, b1, fun r hr' => Ev.step (fun k => ?_) (b2 r hr')⟩
    have e : i + W + 1 = i + (W + 1) := by omega
    simp only [hinterlandref02_Settle.l5]
    rw [if_pos (show i ≥ 0 by omega), if_pos i0, if_pos (by omega), w64_in (x := i + W) (by omega) (by omega), w64_in (x := i + W + 1) (by omega) (by omega), e, if_pos (by omega), if_pos (by omega), w64_in (x := rd L (i + (W + 1)) + 1) (by omega) (by omega), w2]
def RowLip (W : Int) (N : Nat) (Y : List Int) : Prop := ∀ j : Int, 0 ≤ j → j < (N : Int) → 0 < j % (W + 1) → near (rd Y j) (rd Y (j - 1))
theorem lip_b {L A B : List Int} (a : Swept W O L A (gRF W) (fun j => j - 1)) (b : Swept W O A B (gRB W) (fun j => j + 1)) : RowLip W O.length B := by
  have hn : 0 < W + 1 := by have := s.1; omega
  intro j j0 j1 h
  have x1 := Int.emod_lt_of_pos j hn
  have p := m_pos hn j0 h
  have h1 := a.done j j0 j1 h
  have h2 := b.done (j - 1) (by omega) (by omega) (by show (j - 1) % (W + 1) < W; rw [m_left hn h]; omega)
  simp only [show j - 1 + 1 = j by omega] at h1 h2
  have h3 := b.le j j0 j1
  unfold mn at h1 h2; unfold near
  split at h1 <;> split at h2 <;> omega
theorem lip_c {B C : List Int} (hb : RowLip W O.length B) (c : Swept W O B C (gCF W) (fun j => j - (W + 1))) : RowLip W O.length C := by
  have hn : 0 < W + 1 := by have := s.1; omega
  have go : ∀ (d : Nat) (j : Int), 0 ≤ j → j < d → j < (O.length : Int) → 0 < j % (W + 1) → near (rd C j) (rd C (j - 1)) := by
    intro d; induction d with
    | zero => intro j a b; omega
    | succ d ih =>
      intro j j0 jd j1 h
      have p := m_pos hn j0 h
      have hB := hb j j0 j1 h
      by_cases g : W + 1 ≤ j
      · have hm := m_up (i := j) hn
        have p2 := m_pos (i := j - (W + 1)) hn (by omega) (by rw [hm]; exact h)
        have h1 := c.done j j0 j1 g
        have h2 := c.done (j - 1) (by omega) (by omega) (by show W + 1 ≤ j - 1; omega)
        have h3 := ih (j - (W + 1)) (by omega) (by omega) (by omega) (by rw [hm]; exact h)
        simp only [show j - 1 - (W + 1) = j - (W + 1) - 1 by omega] at h1 h2
        unfold mn at h1 h2; unfold near at hB h3 ⊢
        split at h1 <;> split at h2 <;> omega
      · rw [c.rest j j0 j1 g, c.rest (j - 1) (by omega) (by omega) (by show ¬ W + 1 ≤ j - 1; omega)]; exact hB
  exact fun j a b h => go (j.toNat + 1) j a (by omega) b h
theorem lip_d {C D : List Int} (hc : RowLip W O.length C) (e : Swept W O C D (gCB W O.length) (fun j => j + (W + 1))) : RowLip W O.length D := by
  have hn : 0 < W + 1 := by have := s.1; omega
  have hN : (O.length : Int) % (W + 1) = 0 := by rw [s.2.2.2.2, Int.mul_emod_left]
  have go : ∀ (d : Nat) (j : Int), 0 ≤ j → (O.length : Int) - j ≤ d → j < (O.length : Int) → 0 < j % (W + 1) → near (rd D j) (rd D (j - 1)) := by
    intro d; induction d with
    | zero => intro j a b; omega
    | succ d ih =>
      intro j j0 jd j1 h
      have p := m_pos hn j0 h
      have hC := hc j j0 j1 h
      have hm := m_down (i := j) hn
      by_cases g : j + (W + 1) < (O.length : Int)
      · have h1 := e.done j j0 j1 g
        have h2 := e.done (j - 1) (by omega) (by omega) (by show j - 1 + (W + 1) < _; omega)
        have h3 := ih (j + (W + 1)) (by omega) (by omega) g (by rw [hm]; exact h)
        simp only [show j - 1 + (W + 1) = j + (W + 1) - 1 by omega] at h1 h2
        unfold mn at h1 h2; unfold near at hC h3 ⊢
        split at h1 <;> split at h2 <;> omega
      · have hne : j + (W + 1) ≠ (O.length : Int) := fun he => by rw [he] at hm; omega
        rw [e.rest j j0 j1 g, e.rest (j - 1) (by omega) (by omega) (by show ¬ j - 1 + (W + 1) < _; omega)]; exact hC
  exact fun j a b h => go O.length j a (by omega) b h
theorem sweep {L : List Int} {c : Int} (hc : 0 ≤ c ∧ c < 2) (g : Best W O L) : ∃ D, Best W O D ∧ Places W O.length D ∧ ∀ r : S4, Ev (fun k => hinterlandref02_Settle.l1 k W H D (c + 1)) r → Ev (fun k => hinterlandref02_Settle.l1 k W H L c) r := by
  obtain ⟨n0, n1⟩ := len_le s
  obtain ⟨sa, sb, sc, sd, _⟩ := id s
  have h2 : 5 * (W + 1) ≤ (O.length : Int) := by rw [s.2.2.2.2]; exact Int.mul_le_mul_of_nonneg_right (by omega) (by omega)
  obtain ⟨A, a1, a2⟩ := row_f s (A := L) (c := c) O.length 0 L (by omega) (by omega) (Mid.start g fun j a b => by show ¬ j < 0; omega)
  obtain ⟨B, b1, b2⟩ := row_b s (A := A) (c := c) O.length ((O.length : Int) - 1) A (by omega) (by omega) (Mid.start a1.good fun j a b => by show ¬ (O.length : Int) - 1 < j; omega)
  obtain ⟨C, c1, c2⟩ := col_f s (A := B) (c := c) ((O.length : Int) - (W + 1)).toNat (W + 1) B (by omega) (by omega) (by
    refine ⟨b1.good, fun j a b g p => ?_, fun _ _ _ _ => rfl⟩
    have g' : W + 1 ≤ j := g
    have p' : j < W + 1 := p
    omega)
  obtain ⟨D, d1, d2⟩ := col_b s (A := C) (c := c) (by omega) ((O.length : Int) - W - 1).toNat ((O.length : Int) - W - 2) C (by omega) (by omega) (by
    refine ⟨c1.good, fun j a b g p => ?_, fun _ _ _ _ => rfl⟩
    have g' : j + (W + 1) < (O.length : Int) := g
    have p' : (O.length : Int) - W - 2 < j := p
    omega)
  have ld := lip_d s (lip_c s (lip_b s a1 b1) c1) d1
  refine ⟨D, d1.good, fun j j0 j1 => ⟨fun h => ld j j0 j1 h, fun h => ?_⟩, fun r hr => ?_⟩
  · have h1 := d1.done (j - (W + 1)) (by omega) (by omega) (by show j - (W + 1) + (W + 1) < _; omega)
    have h2 := d1.le j j0 j1
    have h3 := c1.done j j0 j1 (by show W + 1 ≤ j; omega)
    simp only [show j - (W + 1) + (W + 1) = j by omega] at h1
    rw [show j - W - 1 = j - (W + 1) by omega]
    unfold mn at h1 h3; unfold near
    split at h1 <;> split at h3 <;> omega
  · refine Ev.step (fun k => ?_) (a2 r (b2 r (c2 r (d2 r hr))))
    simp only [hinterlandref02_Settle.l1]
    rw [if_pos (by omega), g.len]
end
theorem clamp2_ok {W H : Int} {h : List Int} {r : S4} (hn : (h.length : Int) < 1000000) (hr : Ev (fun k => hinterlandref02_Settle.l1 k W H (h.map cl) 0) r) : ∀ (d : Nat) (i : Int) (L : List Int), 0 ≤ i → i + d = (h.length : Int) → L.length = h.length → (∀ j, 0 ≤ j → j < i → rd L j = cl (rd h j)) → Ev (fun k => hinterlandref02_Settle.l0 k W H L h (h.length : Int) i) r := by
  intro d; induction d with
  | zero =>
    intro i L i0 hi hl hs
    have e : L = h.map cl := rd_ext (by simp [hl]) fun j j0 j1 => by rw [rd_map j0 (by omega)]; exact hs j j0 (by omega)
    subst e
    refine Ev.step (fun k => ?_) hr
    simp only [hinterlandref02_Settle.l0]; rw [if_neg (by omega)]
  | succ d ih =>
    intro i L i0 hi hl hs
    have := ih (i + 1) (L.set i.toNat (cl (rd h i))) (by omega) (by omega) (by simp [hl]) (fun j j0 j1 => by
      rw [rd_put i0 (by omega) j0]
      split
      · rename_i e; rw [e]
      · exact hs j j0 (by omega))
    refine Ev.step (fun k => ?_) this
    simp only [hinterlandref02_Settle.l0]
    rw [if_pos (by omega), if_pos i0, if_pos (by omega), if_pos (by omega), w64_in (x := i + 1) (by omega) (by omega)]
    rfl
theorem ref_yes {w h : Int} {l : List Int} (s : Sides w h l) : ∃ M, Ev (fun k => hinterlandref02_Settle.f k w h l) ((w, h, M, 0) : S4) ∧ Best w (l.map cl) M ∧ Places w (l.map cl).length M := by
  obtain ⟨n0, n1⟩ := len_le s
  obtain ⟨a, b, c, d, e⟩ := id s
  have s' : Sides w h (l.map cl) := by unfold Sides; rw [List.length_map]; exact s
  obtain ⟨D, d1, d2, d3⟩ := sweep s' (c := 0) (by omega) (Best.refl (hts_cl l))
  obtain ⟨M, m1, m2, m3⟩ := sweep s' (c := 1) (by omega) d1
  have hr : Ev (fun k => hinterlandref02_Settle.l1 k w h (l.map cl) 0) ((w, h, M, 0) : S4) := d3 _ (m3 _ (Ev.step (fun k => by simp only [hinterlandref02_Settle.l1]; rw [if_neg (by omega)]) (Ev.now _)))
  refine ⟨M, ?_, m1, m2⟩
  have hc := clamp2_ok (W := w) (H := h) (h := l) (by omega) hr l.length 0 (List.replicate l.length 0) (by omega) (by omega) (by simp) (fun j j0 j1 => by omega)
  refine Ev.step (f := fun k => hinterlandref02_Settle.l0 k w h (List.replicate l.length 0) l (l.length : Int) 0) (fun k => ?_) hc
  unfold hinterlandref02_Settle.f hinterlandref02_side.f
  rw [if_pos (show w ≥ 4 by omega), if_pos (show h ≥ 4 by omega)]
  simp only [Option.bind_some, decide_eq_true_eq]
  rw [if_pos b, if_pos d, wrap_len a b c d, ← e]
  simp only [hinterlandref02_Settle.j0]
  rw [if_neg (by simp), if_pos (by omega), if_pos (by simp; omega)]
  simp
theorem ref_no {w h : Int} {l : List Int} (s : ¬ Sides w h l) : Ev (fun k => hinterlandref02_Settle.f k w h l) ((0, 0, [], 1) : S4) := by
  refine ⟨2, fun k hk => ?_⟩
  obtain ⟨k, rfl⟩ : ∃ m, k = m + 1 + 1 := ⟨k - 2, by omega⟩
  unfold hinterlandref02_Settle.f hinterlandref02_side.f
  by_cases h1 : w ≥ 4
  · by_cases h2 : w ≤ 32
    · by_cases h3 : h ≥ 4
      · by_cases h4 : h ≤ 32
        · simp only [h1, h2, h3, h4, if_true, Option.bind_some, decide_true]
          rw [wrap_len h1 h2 h3 h4]
          simp only [hinterlandref02_Settle.j0]
          rw [if_pos]
          simp only [bne_iff_ne]
          exact fun e => s ⟨h1, h2, h3, h4, e⟩
        · simp [h1, h2, h3, h4, hinterlandref02_Settle.j0]
      · simp [h1, h2, h3, hinterlandref02_Settle.j0]
    · simp [h1, h2, hinterlandref02_Settle.j0]
  · simp [h1, hinterlandref02_Settle.j0]
/-- Both make the same land of raw heights. -/
theorem settle_both (w h : Int) (l : List Int) : ∃ r : S4, Ev (fun k => land_Settle.f k w h l) r ∧ Ev (fun k => hinterlandref02_Settle.f k w h l) r ∧ r.2.2.1.length ≤ l.length ∧ (r.2.2.2 = 0 → Sides w h l ∧ r.1 = w ∧ r.2.1 = h ∧ Best w (l.map cl) r.2.2.1 ∧ Places w (l.map cl).length r.2.2.1) := by
  by_cases s : Sides w h l
  · obtain ⟨M, m1, m2, m3⟩ := settle_yes s
    obtain ⟨N, n1, n2, n3⟩ := ref_yes s
    have e := m2.same n2 m3 n3
    subst e
    refine ⟨(w, h, M, 0), m1, n1, ?_, fun _ => ⟨s, rfl, rfl, m2, m3⟩⟩
    have := m2.len; rw [List.length_map] at this
    show M.length ≤ _; omega
  · exact ⟨(0, 0, [], 1), settle_no s, ref_no s, by simp, fun h => absurd h (by decide)⟩
end Go.Proofs.Ytchflcnegpnkkab.Swp
namespace Go.Proofs.Ytchflcnegpnkkab.Draw
open Go.RowKit Go.Proofs.YtchflcnegpnkkabOwn Go.Proofs.Ytchflcnegpnkkab.Q Go.Proofs.YtchflcnegpnkkabW.PrintWords Go.Proofs.YtchflcnegpnkkabW.PrintLast
/-- What a stream's place becomes as a number. -/
def mix (A : Int) : Int := Go.bits .xor .u64 (IntKind.u64.wrap ((Go.bits .xor .u64 (IntKind.u64.wrap ((Go.bits .xor .u64 A (A / 1073741824)) * 13787848793156543929)) ((IntKind.u64.wrap ((Go.bits .xor .u64 A (A / 1073741824)) * 13787848793156543929)) / 134217728)) * 10723151780598845931)) ((IntKind.u64.wrap ((Go.bits .xor .u64 (IntKind.u64.wrap ((Go.bits .xor .u64 A (A / 1073741824)) * 13787848793156543929)) ((IntKind.u64.wrap ((Go.bits .xor .u64 A (A / 1073741824)) * 13787848793156543929)) / 134217728)) * 10723151780598845931)) / 2147483648)
theorem next_tells (A : Int) : roll_Next.f A = some (mix (IntKind.u64.wrap (A + 11400714819323198485)), IntKind.u64.wrap (A + 11400714819323198485)) := rfl
theorem at_tells (s k : Int) : hinterlandref01_At.f s k = some (mix (IntKind.u64.wrap (s + IntKind.u64.wrap (k * 11400714819323198485)))) := rfl
theorem mix_range (A : Int) : 0 ≤ mix A ∧ mix A ≤ 18446744073709551615 := bounds_u64 (wf_bits _ _ _ _)
theorem mix_zero : mix 0 = 0 := by decide +kernel
theorem not_u64 (x : Int) (h0 : 0 ≤ x) (h1 : x < 18446744073709551616) : Go.bits .xor .u64 IntKind.u64.max x = 18446744073709551615 - x := by
  have e : IntKind.u64.max = ((18446744073709551615 : Nat) : Int) := by decide +kernel
  obtain ⟨n, rfl⟩ : ∃ n : Nat, x = (n : Int) := ⟨x.toNat, by omega⟩
  rw [e, bits_xor_u64_nat _ _ (by omega) (by omega)]
  have h : (BitVec.allOnes 64 ^^^ BitVec.ofNat 64 n).toNat = 18446744073709551615 ^^^ n := by
    rw [BitVec.toNat_xor, BitVec.toNat_allOnes, BitVec.toNat_ofNat, Nat.mod_eq_of_lt (by omega)]
  have h2 : (BitVec.allOnes 64 ^^^ BitVec.ofNat 64 n).toNat = 18446744073709551615 - n := by
    rw [BitVec.allOnes_xor, BitVec.toNat_not, BitVec.toNat_ofNat, Nat.mod_eq_of_lt (by omega)]
  rw [← h, h2]
  omega
/-- The stream's state behind i numbers. -/
def st (s : Int) (i : Int) : Int := (s + i * 11400714819323198485) % 18446744073709551616
/-- There is a number at last that may be used: the one of the state 0. -/
theorem zero_at (s : Int) (h0 : 0 ≤ s) (h1 : s ≤ 18446744073709551615) : ∃ d : Nat, st s (d + 1) = 0 := by
  have key : ∀ t : Int, (s + ((18446744073709551616 - s) * 17428512612931826493 - 18446744073709551616 * t) * 11400714819323198485) % 18446744073709551616 = 0 := by intro t; omega
  refine ⟨((18446744073709551616 - s) * 17428512612931826493 + 18446744073709551615).toNat, ?_⟩
  have := key (-1)
  unfold st
  rw [show ((((18446744073709551616 - s) * 17428512612931826493 + 18446744073709551615).toNat : Int) + 1) = (18446744073709551616 - s) * 17428512612931826493 - 18446744073709551616 * (-1) by omega]
  exact this
theorem st_next (s : Int) (i : Nat) : IntKind.u64.wrap (st s i + 11400714819323198485) = st s ((i : Int) + 1) := by rw [u64w]; unfold st; omega
theorem st_at (s : Int) (i : Nat) : IntKind.u64.wrap (s + IntKind.u64.wrap (((i : Int) + 1) % 18446744073709551616 * 11400714819323198485)) = st s ((i : Int) + 1) := by rw [u64w, u64w]; unfold st; omega
theorem st_count (i : Nat) : IntKind.u64.wrap (((i : Int) + 1) % 18446744073709551616 + 1) = (((i + 1 : Nat) : Int) + 1) % 18446744073709551616 := by rw [u64w]; omega
theorem st_range (s : Int) (i : Int) : 0 ≤ st s i ∧ st s i ≤ 18446744073709551615 := by unfold st; omega
theorem neg_u64 (u : Int) (h0 : 0 < u) (h1 : u ≤ 9223372036854775807) : IntKind.u64.wrap (-u) = 18446744073709551616 - u := by rw [u64w]; omega
theorem l0_open (m u A : Int) (k : Nat) (hu : 0 ≤ u) (hum : u < 18446744073709551616) :
    roll_Below.l0 (k + 1) m u A = (roll_Next.f A).bind fun p => (if p.1 ≤ 18446744073709551615 - u then (if m = 0 then (none) else (some (wrap64 (Int.tmod p.1 m), p.2))) else (roll_Below.l0 k m u p.2)) := by
  rw [roll_Below.l0, not_u64 u hu hum]
theorem l0_acc (m u z B : Int) (k : Nat) (hm : 1 ≤ m) (hm1 : m ≤ 9223372036854775807) (hz : 0 ≤ z) (h : z ≤ 18446744073709551615 - u) :
    ((some (z, B)).bind fun p => (if p.1 ≤ 18446744073709551615 - u then (if m = 0 then (none) else (some (wrap64 (Int.tmod p.1 m), p.2))) else (roll_Below.l0 k m u p.2))) = some (z % m, B) := by
  have hmod : z % m < m := Int.emod_lt_of_pos _ (by omega)
  have hmod0 : 0 ≤ z % m := Int.emod_nonneg _ (by omega)
  simp only [Option.bind_some]
  rw [if_pos h, if_neg (by omega), Int.tmod_eq_emod_of_nonneg hz, w64_in (by omega) (by omega)]
theorem l0_rej (m u z B : Int) (k : Nat) (h : ¬ z ≤ 18446744073709551615 - u) :
    ((some (z, B)).bind fun p => (if p.1 ≤ 18446744073709551615 - u then (if m = 0 then (none) else (some (wrap64 (Int.tmod p.1 m), p.2))) else (roll_Below.l0 k m u p.2))) = roll_Below.l0 k m u B := by
  simp only [Option.bind_some]
  rw [if_neg h]
theorem acc_roll (m u A : Int) (hm : 1 ≤ m) (hm1 : m ≤ 9223372036854775807) (hu : 0 ≤ u) (hum : u < m) (k : Nat) (h : mix (IntKind.u64.wrap (A + 11400714819323198485)) ≤ 18446744073709551615 - u) :
    roll_Below.l0 (k + 1) m u A = some (mix (IntKind.u64.wrap (A + 11400714819323198485)) % m, IntKind.u64.wrap (A + 11400714819323198485)) :=
  (l0_open m u A k hu (by omega)).trans ((congrArg (fun o => Option.bind o _) (next_tells A)).trans (l0_acc m u _ _ k hm hm1 (mix_range _).1 h))
theorem rej_roll (m u A : Int) (hm1 : m ≤ 9223372036854775807) (hu : 0 ≤ u) (hum : u < m) (k : Nat) (h : ¬ mix (IntKind.u64.wrap (A + 11400714819323198485)) ≤ 18446744073709551615 - u) :
    roll_Below.l0 (k + 1) m u A = roll_Below.l0 k m u (IntKind.u64.wrap (A + 11400714819323198485)) :=
  (l0_open m u A k hu (by omega)).trans ((congrArg (fun o => Option.bind o _) (next_tells A)).trans (l0_rej m u _ _ k h))
theorem acc_ref (m u s c B : Int) (hB : IntKind.u64.wrap (s + IntKind.u64.wrap (c * 11400714819323198485)) = B) (hm : 1 ≤ m) (hm1 : m ≤ 9223372036854775807) (hu : 0 ≤ u) (hum : u < m) (k : Nat) (h : mix B ≤ 18446744073709551615 - u) :
    hinterlandref01_Below.l0 (k + 1 + 1) m u c s = some (mix B % m, B) := by
  rw [hinterlandref01_Below.l0, at_tells, hB]
  have hr := mix_range B
  generalize mix B = z at h hr ⊢
  have hmod : z % m < m := Int.emod_lt_of_pos _ (by omega)
  have hmod0 : 0 ≤ z % m := Int.emod_nonneg _ (by omega)
  have yes : hinterlandref01_Below.j1 (k + 1) m u c z true s = some (z % m, B) := by
    rw [hinterlandref01_Below.j1, if_pos rfl, if_neg (by omega), Int.tmod_eq_emod_of_nonneg hr.1, w64_in (by omega) (by omega), hB]
  simp only [Option.bind_some]
  by_cases hu0 : u = 0
  · rw [if_pos hu0]; exact yes
  · rw [if_neg hu0, neg_u64 u (by omega) (by omega), decide_eq_true (by omega)]; exact yes
theorem rej_ref (m u s c B : Int) (hB : IntKind.u64.wrap (s + IntKind.u64.wrap (c * 11400714819323198485)) = B) (hm1 : m ≤ 9223372036854775807) (hu : 0 ≤ u) (hum : u < m) (k : Nat) (h : ¬ mix B ≤ 18446744073709551615 - u) :
    hinterlandref01_Below.l0 (k + 1 + 1) m u c s = hinterlandref01_Below.l0 k m u (IntKind.u64.wrap (c + 1)) s := by
  rw [hinterlandref01_Below.l0, at_tells, hB]
  have hr := mix_range B
  generalize mix B = z at h hr ⊢
  simp only [Option.bind_some]
  rw [if_neg (by omega), neg_u64 u (by omega) (by omega), decide_eq_false (by omega), hinterlandref01_Below.j1, if_neg (by decide)]
theorem below_fin (s m u : Int) (hm : 1 ≤ m) (hm1 : m ≤ 9223372036854775807) (hu : 0 ≤ u) (hum : u < m) (i : Nat) (h : mix (st s ((i : Int) + 1)) ≤ 18446744073709551615 - u) :
    ∃ v t, 0 ≤ v ∧ v < m ∧ 0 ≤ t ∧ t ≤ 18446744073709551615 ∧ ∀ k, 2 ≤ k → roll_Below.l0 k m u (st s i) = some (v, t) ∧ hinterlandref01_Below.l0 k m u (((i : Int) + 1) % 18446744073709551616) s = some (v, t) := by
  have hr := st_range s ((i : Int) + 1)
  refine ⟨mix (st s ((i : Int) + 1)) % m, st s ((i : Int) + 1), Int.emod_nonneg _ (by omega), Int.emod_lt_of_pos _ (by omega), hr.1, hr.2, fun k hk => ?_⟩
  obtain ⟨k, rfl⟩ : ∃ q, k = q + 1 + 1 := ⟨k - 2, by omega⟩
  refine ⟨?_, acc_ref m u s _ _ (st_at s i) hm hm1 hu hum k h⟩
  rw [acc_roll m u _ hm hm1 hu hum (k + 1) (by rw [st_next]; exact h), st_next]
theorem below_loops (s m u : Int) (hm : 1 ≤ m) (hm1 : m ≤ 9223372036854775807) (hu : 0 ≤ u) (hum : u < m) (d : Nat) : ∀ (i : Nat), st s ((i : Int) + d + 1) = 0 →
    ∃ v t, 0 ≤ v ∧ v < m ∧ 0 ≤ t ∧ t ≤ 18446744073709551615 ∧ ∀ k, 2 * d + 2 ≤ k → roll_Below.l0 k m u (st s i) = some (v, t) ∧ hinterlandref01_Below.l0 k m u (((i : Int) + 1) % 18446744073709551616) s = some (v, t) := by
  induction d with
  | zero =>
    intro i hz
    have hz2 : st s ((i : Int) + 1) = 0 := hz
    exact below_fin s m u hm hm1 hu hum i (by rw [hz2, mix_zero]; omega)
  | succ d ih =>
    intro i hz
    by_cases h : mix (st s ((i : Int) + 1)) ≤ 18446744073709551615 - u
    · obtain ⟨v, t, h1, h2, h3, h4, h5⟩ := below_fin s m u hm hm1 hu hum i h
      exact ⟨v, t, h1, h2, h3, h4, fun k hk => h5 k (by omega)⟩
    · have e : ((i + 1 : Nat) : Int) + (d : Int) + 1 = (i : Int) + ((d + 1 : Nat) : Int) + 1 := by omega
      obtain ⟨v, t, h1, h2, h3, h4, h5⟩ := ih (i + 1) (by rw [e]; exact hz)
      refine ⟨v, t, h1, h2, h3, h4, fun k hk => ?_⟩
      obtain ⟨k, rfl⟩ : ∃ q, k = q + 1 + 1 := ⟨k - 2, by omega⟩
      have h6 := h5 k (by omega)
      have h7 := h5 (k + 1) (by omega)
      rw [rej_roll m u _ hm1 hu hum (k + 1) (by rw [st_next]; exact h), st_next, rej_ref m u s _ _ (st_at s i) hm1 hu hum k h, st_count]
      exact ⟨h7.1, h6.2⟩
/-- The number below a bound, by both. -/
theorem below_ok (s n : Int) (hs0 : 0 ≤ s) (hs1 : s ≤ 18446744073709551615) (hn : 1 ≤ n) (hn1 : n ≤ 9223372036854775807) :
    ∃ (v t : Int) (K : Nat), 0 ≤ v ∧ v < n ∧ 0 ≤ t ∧ t ≤ 18446744073709551615 ∧ ∀ k, K ≤ k → roll_Below.f k s n = some (v, t) ∧ hinterlandref01_Below.f k s n = some (v, t) := by
  obtain ⟨d, hd⟩ := zero_at s hs0 hs1
  have hu0 : 0 ≤ (18446744073709551616 - n) % n := Int.emod_nonneg _ (by omega)
  have hu1 : (18446744073709551616 - n) % n < n := Int.emod_lt_of_pos _ (by omega)
  obtain ⟨v, t, h1, h2, h3, h4, h5⟩ := below_loops s n ((18446744073709551616 - n) % n) hn hn1 hu0 hu1 d 0 (by rw [show (((0 : Nat) : Int) + (d : Int) + 1) = (d : Int) + 1 by omega]; exact hd)
  refine ⟨v, t, 2 * d + 2, h1, h2, h3, h4, fun k hk => ?_⟩
  have h6 := h5 k hk
  have ew : IntKind.u64.wrap n = n := by rw [u64w]; omega
  have es : st s ((0 : Nat) : Int) = s := by unfold st; omega
  rw [es] at h6
  have e1 : Int.tmod (IntKind.u64.wrap (-n)) n = (18446744073709551616 - n) % n := by
    rw [u64w, show (-n) % 18446744073709551616 = 18446744073709551616 - n by omega, Int.tmod_eq_emod_of_nonneg (by omega)]
  have e2 : Int.tmod (IntKind.u64.wrap (((18446744073709551615 : Int) % n) + 1)) n = (18446744073709551616 - n) % n := by
    have h7 : 0 ≤ (18446744073709551615 : Int) % n := Int.emod_nonneg _ (by omega)
    have h8 : (18446744073709551615 : Int) % n < n := Int.emod_lt_of_pos _ (by omega)
    rw [u64w, Int.emod_eq_of_lt (b := 18446744073709551616) (by omega) (by omega), Int.tmod_eq_emod_of_nonneg (by omega), Int.emod_add_emod, Int.sub_emod_right]
    rfl
  unfold roll_Below.f hinterlandref01_Below.f
  rw [if_neg (by omega), if_neg (by omega), ew, if_neg (by omega), if_neg (by omega), e1, e2]
  exact ⟨h6.1, by simpa using h6.2⟩
end Go.Proofs.Ytchflcnegpnkkab.Draw
namespace Go.Proofs.Ytchflcnegpnkkab.Gro
open Go.RowKit Go.Proofs.YtchflcnegpnkkabOwn Go.Proofs.Ytchflcnegpnkkab.Q Go.Proofs.Ytchflcnegpnkkab.Val Go.Proofs.Ytchflcnegpnkkab.Set Go.Proofs.Ytchflcnegpnkkab.Swp Go.Proofs.Ytchflcnegpnkkab.Draw Go.Proofs.YtchflcnegpnkkabW.PrintWords Go.Proofs.YtchflcnegpnkkabW.PrintLast Go.Proofs.YtchflcnegpnkkabW.PrintMore
set_option linter.unusedVariables false
set_option linter.unusedSimpArgs false
set_option linter.unusedSectionVars false
theorem mulb {a b A B : Int} (a0 : 0 ≤ a) (a1 : a ≤ A) (b0 : 0 ≤ b) (b1 : b ≤ B) : 0 ≤ a * b ∧ a * b ≤ A * B := ⟨Int.mul_nonneg a0 b0, Int.mul_le_mul a1 b1 b0 (by omega)⟩
def ex (q u v a b c d : Int) : Int := a * (q - u) * (q - v) + b * u * (q - v) + c * (q - u) * v + d * u * v
section
variable {q u v a b c d : Int} (hq : 1 ≤ q ∧ q ≤ 8) (hu : 0 ≤ u ∧ u < q) (hv : 0 ≤ v ∧ v < q) (ha : 0 ≤ a ∧ a ≤ 32) (hb : 0 ≤ b ∧ b ≤ 32) (hc : 0 ≤ c ∧ c ≤ 32) (hd : 0 ≤ d ∧ d ≤ 32)
include hq hu hv ha hb hc hd
theorem ex_in : 0 ≤ ex q u v a b c d ∧ ex q u v a b c d ≤ 8192 := by
  have p0 := mulb ha.1 ha.2 (show 0 ≤ q - u by omega) (show q - u ≤ 8 by omega)
  have p1 := mulb hb.1 hb.2 hu.1 (show u ≤ 8 by omega)
  have p2 := mulb hc.1 hc.2 (show 0 ≤ q - u by omega) (show q - u ≤ 8 by omega)
  have p3 := mulb hd.1 hd.2 hu.1 (show u ≤ 8 by omega)
  have r0 := mulb p0.1 p0.2 (show 0 ≤ q - v by omega) (show q - v ≤ 8 by omega)
  have r1 := mulb p1.1 p1.2 (show 0 ≤ q - v by omega) (show q - v ≤ 8 by omega)
  have r2 := mulb p2.1 p2.2 hv.1 (show v ≤ 8 by omega)
  have r3 := mulb p3.1 p3.2 hv.1 (show v ≤ 8 by omega)
  unfold ex
  omega
theorem ex_a : wrap64 (wrap64 (wrap64 (wrap64 (wrap64 (a * wrap64 (q - u)) * wrap64 (q - v)) + wrap64 (wrap64 (b * u) * wrap64 (q - v))) + wrap64 (wrap64 (c * wrap64 (q - u)) * v)) + wrap64 (wrap64 (d * u) * v)) = ex q u v a b c d := by
  have p0 := mulb ha.1 ha.2 (show 0 ≤ q - u by omega) (show q - u ≤ 8 by omega)
  have p1 := mulb hb.1 hb.2 hu.1 (show u ≤ 8 by omega)
  have p2 := mulb hc.1 hc.2 (show 0 ≤ q - u by omega) (show q - u ≤ 8 by omega)
  have p3 := mulb hd.1 hd.2 hu.1 (show u ≤ 8 by omega)
  have r0 := mulb p0.1 p0.2 (show 0 ≤ q - v by omega) (show q - v ≤ 8 by omega)
  have r1 := mulb p1.1 p1.2 (show 0 ≤ q - v by omega) (show q - v ≤ 8 by omega)
  have r2 := mulb p2.1 p2.2 hv.1 (show v ≤ 8 by omega)
  have r3 := mulb p3.1 p3.2 hv.1 (show v ≤ 8 by omega)
  rw [w64_in (x := q - u) (by omega) (by omega), w64_in (x := q - v) (by omega) (by omega), w64_in (x := a * (q - u)) (by omega) (by omega), w64_in (x := b * u) (by omega) (by omega), w64_in (x := c * (q - u)) (by omega) (by omega), w64_in (x := d * u) (by omega) (by omega)]
  rw [w64_in (x := a * (q - u) * (q - v)) (by omega) (by omega), w64_in (x := b * u * (q - v)) (by omega) (by omega), w64_in (x := c * (q - u) * v) (by omega) (by omega), w64_in (x := d * u * v) (by omega) (by omega)]
  unfold ex
  rw [w64_in (x := a * (q - u) * (q - v) + b * u * (q - v)) (by omega) (by omega), w64_in (x := a * (q - u) * (q - v) + b * u * (q - v) + c * (q - u) * v) (by omega) (by omega)]
  exact w64_in (by omega) (by omega)
theorem ex_b : wrap64 (wrap64 (wrap64 (wrap64 (a * wrap64 (q - u)) + wrap64 (b * u)) * wrap64 (q - v)) + wrap64 (wrap64 (wrap64 (c * wrap64 (q - u)) + wrap64 (d * u)) * v)) = ex q u v a b c d := by
  have p0 := mulb ha.1 ha.2 (show 0 ≤ q - u by omega) (show q - u ≤ 8 by omega)
  have p1 := mulb hb.1 hb.2 hu.1 (show u ≤ 8 by omega)
  have p2 := mulb hc.1 hc.2 (show 0 ≤ q - u by omega) (show q - u ≤ 8 by omega)
  have p3 := mulb hd.1 hd.2 hu.1 (show u ≤ 8 by omega)
  have r0 := mulb p0.1 p0.2 (show 0 ≤ q - v by omega) (show q - v ≤ 8 by omega)
  have r1 := mulb p1.1 p1.2 (show 0 ≤ q - v by omega) (show q - v ≤ 8 by omega)
  have r2 := mulb p2.1 p2.2 hv.1 (show v ≤ 8 by omega)
  have r3 := mulb p3.1 p3.2 hv.1 (show v ≤ 8 by omega)
  rw [w64_in (x := q - u) (by omega) (by omega), w64_in (x := q - v) (by omega) (by omega), w64_in (x := a * (q - u)) (by omega) (by omega), w64_in (x := b * u) (by omega) (by omega), w64_in (x := c * (q - u)) (by omega) (by omega), w64_in (x := d * u) (by omega) (by omega)]
  rw [w64_in (x := a * (q - u) + b * u) (by omega) (by omega), w64_in (x := c * (q - u) + d * u) (by omega) (by omega), Int.add_mul, Int.add_mul]
  unfold ex
  rw [w64_in (x := a * (q - u) * (q - v) + b * u * (q - v)) (by omega) (by omega), w64_in (x := c * (q - u) * v + d * u * v) (by omega) (by omega), w64_in (by omega) (by omega)]
  omega
end
def Bd (N : Nat) (B : Int) (S : List Int) : Prop := S.length = N ∧ ∀ j : Int, 0 ≤ j → j < (N : Int) → 0 ≤ rd S j ∧ rd S j ≤ B
theorem Bd.put {N : Nat} {B p e : Int} {S : List Int} (h : Bd N B S) (p0 : 0 ≤ p) (p1 : p < (N : Int)) (e0 : 0 ≤ e) (e1 : e ≤ 8192) : Bd N (B + 8192) (S.set p.toNat (rd S p + e)) := by
  refine ⟨by rw [List.length_set]; exact h.1, fun j j0 j1 => ?_⟩
  have hl := h.1
  rw [rd_put p0 (by omega) j0]
  have a := h.2 j j0 j1
  have b := h.2 p p0 p1
  split <;> omega
section
variable {W H r q : Int} (hW : 4 ≤ W ∧ W ≤ 32) (hH : 4 ≤ H ∧ H ≤ 32) (hr : 0 ≤ r ∧ r ≤ 4) (hq : 1 ≤ q ∧ q ≤ 8)
include hW hH hq
theorem div_in {x : Int} (x0 : 0 ≤ x) (X : Int) (hx : x ≤ X) : 0 ≤ x / q ∧ x / q ≤ X / q ∧ x / q ≤ x := ⟨Int.ediv_nonneg x0 (by omega), Int.ediv_le_ediv (by omega) hx, Int.ediv_le_self _ x0⟩
/-- One place of the sums. -/
theorem cells {N : Nat} {T : List Int} {s kk : Int} {j : Int} (hN : (N : Int) = (H + 1) * (W + 1)) (hT : (T.length : Int) = (W / q + 2) * (H / q + 2)) (ht : ∀ j : Int, 0 ≤ j → j < (T.length : Int) → 0 ≤ rd T j ∧ rd T j ≤ 32) {y : Int} (y0 : 0 ≤ y) (y1 : y ≤ H) : ∀ (d : Nat) (x : Int) (S : List Int) (B : Int), 0 ≤ x → x + d = W + 1 → 0 ≤ B → B + 8192 * d ≤ 1000000000000 → Bd N B S → ∃ S', Bd N (B + 8192 * d) S' ∧
    (∀ res : S4, Ev (fun k => land_Grow.l2 k W H r S' kk q (W / q + 2) T (y + 1) s) res → Ev (fun k => land_Grow.l3 k W H r S kk q (W / q + 2) T y x s) res) ∧
    (∀ res : S4, Ev (fun k => hinterlandref02_Grow.l2 k W H r S' q (W / q + 2) T (y + 1) [8, 4, 2, 1] 4 j s) res → Ev (fun k => hinterlandref02_Grow.l3 k W H r S q (W / q + 2) T y x [8, 4, 2, 1] 4 j s) res) := by
  obtain ⟨W0, W1⟩ := hW
  obtain ⟨H0, H1⟩ := hH
  have w1 : wrap64 (W + 1) = W + 1 := w64_in (by omega) (by omega)
  have wy : wrap64 (y + 1) = y + 1 := w64_in (by omega) (by omega)
  have dW := div_in ⟨W0, W1⟩ ⟨H0, H1⟩ hq (show 0 ≤ W by omega) W (Int.le_refl _)
  have dH := div_in ⟨W0, W1⟩ ⟨H0, H1⟩ hq (show 0 ≤ H by omega) H (Int.le_refl _)
  have dy := div_in ⟨W0, W1⟩ ⟨H0, H1⟩ hq y0 H y1
  have uy0 := Int.emod_nonneg y (show q ≠ 0 by omega)
  have uy1 := Int.emod_lt_of_pos y (show 0 < q by omega)
  obtain ⟨p0, p1⟩ := row_in (m := W + 1) y0 y1 (by omega)
  have pm := (mulb (show 0 ≤ H + 1 by omega) (show H + 1 ≤ 33 by omega) (show 0 ≤ W + 1 by omega) (show W + 1 ≤ 33 by omega)).2
  have hT2 : (W / q + 2) * (H / q + 2) = H / q * (W / q + 2) + 2 * (W / q + 2) := by rw [Int.mul_comm, Int.add_mul]
  have qm := (mulb (show 0 ≤ H / q by omega) (show H / q ≤ 32 by omega) (show 0 ≤ W / q + 2 by omega) (show W / q + 2 ≤ 34 by omega)).2
  have ym : 0 ≤ y / q * (W / q + 2) ∧ y / q * (W / q + 2) ≤ H / q * (W / q + 2) := ⟨Int.mul_nonneg dy.1 (by omega), Int.mul_le_mul_of_nonneg_right dy.2.1 (by omega)⟩
  have qq := mulb (show 0 ≤ q - 1 by omega) (show q - 1 ≤ 7 by omega) (show 0 ≤ q by omega) hq.2
  rw [Int.sub_mul, Int.one_mul] at qq
  intro d; induction d with
  | zero =>
    intro x S B x0 hx hB hb hS
    refine ⟨S, by simpa using hS, fun res h => Ev.step (fun k => ?_) h, fun res h => Ev.step (fun k => ?_) h⟩
    · simp only [land_Grow.l3]; rw [if_neg (by omega), wy]
    · simp only [hinterlandref02_Grow.l3]; rw [if_neg (by omega), wy]
  | succ d ih =>
    intro x S B x0 hx hB hb hS
    have x1 : x ≤ W := by omega
    have dx := div_in ⟨W0, W1⟩ ⟨H0, H1⟩ hq x0 W x1
    have ux0 := Int.emod_nonneg x (show q ≠ 0 by omega)
    have ux1 := Int.emod_lt_of_pos x (show 0 < q by omega)
    generalize hD : W / q + 2 = D at *
    generalize hE : H / q * D = E at *
    generalize hA : y / q * D = A at *
    have t0 := ht (A + x / q) (by omega) (by omega)
    have t1 := ht (A + x / q + 1) (by omega) (by omega)
    have t2 := ht (A + x / q + D) (by omega) (by omega)
    have t3 := ht (A + x / q + D + 1) (by omega) (by omega)
    have xin := ex_in hq ⟨ux0, ux1⟩ ⟨uy0, uy1⟩ t0 t1 t2 t3
    have xa := ex_a hq ⟨ux0, ux1⟩ ⟨uy0, uy1⟩ t0 t1 t2 t3
    have xb := ex_b hq ⟨ux0, ux1⟩ ⟨uy0, uy1⟩ t0 t1 t2 t3
    generalize hX : ex q (x % q) (y % q) (rd T (A + x / q)) (rd T (A + x / q + 1)) (rd T (A + x / q + D)) (rd T (A + x / q + D + 1)) = X at *
    have Xd : 0 ≤ X / (q * q) ∧ X / (q * q) ≤ X := ⟨Int.ediv_nonneg xin.1 (by omega), Int.ediv_le_self _ xin.1⟩
    generalize hP : y * (W + 1) = P at *
    have hs := hS.2 (P + x) (by omega) (by omega)
    have hl := hS.1
    obtain ⟨S', s1, s2, s3⟩ := ih (x + 1) (S.set (P + x).toNat (rd S (P + x) + X / (q * q))) (B + 8192) (by omega) (by omega) (by omega) (by omega) (hS.put (by omega) (by omega) Xd.1 (by omega))
    have e1 : wrap64 (Int.tdiv y q) = y / q := by rw [Int.tdiv_eq_ediv_of_nonneg y0]; exact w64_in (by omega) (by omega)
    have e2 : wrap64 (Int.tdiv x q) = x / q := by rw [Int.tdiv_eq_ediv_of_nonneg x0]; exact w64_in (by omega) (by omega)
    have e3 : wrap64 A = A := w64_in (by omega) (by omega)
    have e4 : wrap64 (A + x / q) = A + x / q := w64_in (by omega) (by omega)
    have e5 : wrap64 (A + x / q + 1) = A + x / q + 1 := w64_in (by omega) (by omega)
    have e6 : wrap64 (A + x / q + D) = A + x / q + D := w64_in (by omega) (by omega)
    have e7 : wrap64 (A + x / q + D + 1) = A + x / q + D + 1 := w64_in (by omega) (by omega)
    have e8 : wrap64 P = P := w64_in (by omega) (by omega)
    have e9 : wrap64 (P + x) = P + x := w64_in (by omega) (by omega)
    have e10 : wrap64 (q * q) = q * q := w64_in (by omega) (by omega)
    have e11 : Int.tmod x q = x % q := Int.tmod_eq_emod_of_nonneg x0
    have e12 : Int.tmod y q = y % q := Int.tmod_eq_emod_of_nonneg y0
    have e13 : wrap64 (Int.tdiv X (q * q)) = X / (q * q) := by rw [Int.tdiv_eq_ediv_of_nonneg xin.1]; exact w64_in (by omega) (by omega)
    have e14 : wrap64 (rd S (P + x) + X / (q * q)) = rd S (P + x) + X / (q * q) := w64_in (by omega) (by omega)
    have e15 : wrap64 (x + 1) = x + 1 := w64_in (by omega) (by omega)
    have c1 : (q = 0) = False := eq_false (by omega)
    have c2 : (q * q = 0) = False := eq_false (by omega)
    have c3 : (0 ≤ A + x / q) = True := eq_true (by omega)
    have c4 : (A + x / q < (T.length : Int)) = True := eq_true (by omega)
    have c5 : (0 ≤ A + x / q + 1) = True := eq_true (by omega)
    have c6 : (A + x / q + 1 < (T.length : Int)) = True := eq_true (by omega)
    have c7 : (0 ≤ A + x / q + D) = True := eq_true (by omega)
    have c8 : (A + x / q + D < (T.length : Int)) = True := eq_true (by omega)
    have c9 : (0 ≤ A + x / q + D + 1) = True := eq_true (by omega)
    have c10 : (A + x / q + D + 1 < (T.length : Int)) = True := eq_true (by omega)
    have c11 : (0 ≤ P + x) = True := eq_true (by omega)
    have c12 : (P + x < (S.length : Int)) = True := eq_true (by omega)
    have c13 : (x ≤ W) = True := eq_true x1
    refine ⟨S', ?_, fun res h => Ev.step (fun k => ?_) (s2 res h), fun res h => Ev.step (fun k => ?_) (s3 res h)⟩
    · have : B + 8192 + 8192 * (d : Int) = B + 8192 * ((d + 1 : Nat) : Int) := by omega
      rw [← this]; exact s1
    · simp only [land_Grow.l3, e1, e2, hA, e3, e4, e5, e6, e7, w1, hP, e8, e9, e10, e11, e12, c1, c2, c3, c4, c5, c6, c7, c8, c9, c10, c11, c12, c13, if_true, if_false, xa, e13, e14, e15]
    · simp only [hinterlandref02_Grow.l3, e1, e2, hA, e3, e4, e5, e6, e7, w1, hP, e8, e9, e10, e11, e12, c1, c2, c3, c4, c5, c6, c7, c8, c9, c10, c11, c12, c13, if_true, if_false, xb, e13, e14, e15]
theorem lines {N : Nat} {T : List Int} {s kk : Int} {j : Int} (hk : 0 ≤ kk ∧ kk ≤ 3) (hj : 0 ≤ j ∧ j ≤ 3) (hN : (N : Int) = (H + 1) * (W + 1)) (hT : (T.length : Int) = (W / q + 2) * (H / q + 2)) (ht : ∀ j : Int, 0 ≤ j → j < (T.length : Int) → 0 ≤ rd T j ∧ rd T j ≤ 32) : ∀ (d : Nat) (y : Int) (S : List Int) (B : Int), 0 ≤ y → y + d = H + 1 → 0 ≤ B → B + 300000 * d ≤ 1000000000000 → Bd N B S → ∃ (S' : List Int) (B' : Int), 0 ≤ B' ∧ B' ≤ B + 300000 * d ∧ Bd N B' S' ∧
    (∀ res : S4, Ev (fun k => land_Grow.l0 k W H r S' (kk - 1) s) res → Ev (fun k => land_Grow.l2 k W H r S kk q (W / q + 2) T y s) res) ∧
    (∀ res : S4, Ev (fun k => hinterlandref02_Grow.l0 k W H r S' [8, 4, 2, 1] 4 (j + 1) s) res → Ev (fun k => hinterlandref02_Grow.l2 k W H r S q (W / q + 2) T y [8, 4, 2, 1] 4 j s) res) := by
  intro d; induction d with
  | zero =>
    intro y S B y0 hy hB hb hS
    refine ⟨S, B, hB, by omega, hS, fun res h => Ev.step (fun k => ?_) h, fun res h => Ev.step (fun k => ?_) h⟩
    · simp only [land_Grow.l2]; rw [if_neg (by omega), w64_in (x := kk - 1) (by omega) (by omega)]
    · simp only [hinterlandref02_Grow.l2]; rw [if_neg (by omega), w64_in (x := j + 1) (by omega) (by omega)]
  | succ d ih =>
    intro y S B y0 hy hB hb hS
    obtain ⟨S1, a1, a2, a3⟩ := cells (r := r) (s := s) (kk := kk) (j := j) hW hH hq hN hT ht y0 (by omega) (W + 1).toNat 0 S B (by omega) (by omega) hB (by omega) hS
    obtain ⟨S2, B2, b1, b2, b3, b4, b5⟩ := ih (y + 1) S1 _ (by omega) (by omega) (by omega) (by omega) a1
    refine ⟨S2, B2, b1, by omega, b3, fun res h => Ev.step (fun k => ?_) (a2 res (b4 res h)), fun res h => Ev.step (fun k => ?_) (a3 res (b5 res h))⟩
    · simp only [land_Grow.l2]; rw [if_pos (by omega)]
    · simp only [hinterlandref02_Grow.l2]; rw [if_pos (by omega)]
include hr
theorem table {S : List Int} {kk D : Int} {j : Int} : ∀ (d : Nat) (i : Int) (T : List Int) (s : Int), 0 ≤ i → i + d = (T.length : Int) → T.length ≤ 100000 → 0 ≤ s → s ≤ 18446744073709551615 → (∀ j : Int, 0 ≤ j → j < i → 0 ≤ rd T j ∧ rd T j ≤ 32) → ∃ (T' : List Int) (s' : Int), T'.length = T.length ∧ (∀ j : Int, 0 ≤ j → j < (T.length : Int) → 0 ≤ rd T' j ∧ rd T' j ≤ 32) ∧ 0 ≤ s' ∧ s' ≤ 18446744073709551615 ∧
    (∀ res : S4, Ev (fun k => land_Grow.l2 k W H r S kk q D T' 0 s') res → Ev (fun k => land_Grow.l1 k W H r S kk q D T (T.length : Int) i s) res) ∧
    (∀ res : S4, Ev (fun k => hinterlandref02_Grow.l2 k W H r S q D T' 0 [8, 4, 2, 1] 4 j s') res → Ev (fun k => hinterlandref02_Grow.l1 k W H r S q D T [8, 4, 2, 1] 4 j (T.length : Int) i s) res) := by
  have rq := mulb hr.1 hr.2 (show 0 ≤ q by omega) hq.2
  have w1 : wrap64 (wrap64 (r * q) + 1) = r * q + 1 := by rw [w64_in (x := r * q) (by omega) (by omega)]; exact w64_in (by omega) (by omega)
  intro d; induction d with
  | zero =>
    intro i T s i0 hi hl s0 s1 hT
    refine ⟨T, s, rfl, fun j a b => hT j a (by omega), s0, s1, fun res h => Ev.step (fun k => ?_) h, fun res h => Ev.step (fun k => ?_) h⟩
    · simp only [land_Grow.l1]; rw [if_neg (by omega)]
    · simp only [hinterlandref02_Grow.l1]; rw [if_neg (by omega)]
  | succ d ih =>
    intro i T s i0 hi hl s0 s1 hT
    obtain ⟨v, t, K, v0, v1, t0, t1, hv⟩ := below_ok s (r * q + 1) s0 s1 (by omega) (by omega)
    have w2 : wrap64 (i + 1) = i + 1 := w64_in (by omega) (by omega)
    have i1 : i < (T.length : Int) := by omega
    obtain ⟨T', s', a1, a2, a3, a4, a5, a6⟩ := ih (i + 1) (T.set i.toNat v) t (by omega) (by rw [List.length_set]; omega) (by rw [List.length_set]; omega) t0 t1 (fun j j0 j1 => by
      rw [rd_put i0 i1 j0]
      split
      · omega
      · exact hT j j0 (by omega))
    rw [List.length_set] at a1 a2 a5 a6
    refine ⟨T', s', a1, a2, a3, a4, fun res h => ?_, fun res h => ?_⟩
    · refine Ev.step (f := fun k => (roll_Below.f k s (r * q + 1)).bind fun p => land_Grow.l1 k W H r S kk q D (T.set i.toNat p.1) (T.length : Int) (i + 1) p.2) (fun k => ?_) (Ev.bind ⟨K, fun k hk => (hv k hk).1⟩ (a5 res h))
      simp only [land_Grow.l1, i1, if_true, w1, i0, w2]
    · refine Ev.step (f := fun k => (hinterlandref01_Below.f k s (r * q + 1)).bind fun p => hinterlandref02_Grow.l1 k W H r S q D (T.set i.toNat p.1) [8, 4, 2, 1] 4 j (T.length : Int) (i + 1) p.2) (fun k => ?_) (Ev.bind ⟨K, fun k hk => (hv k hk).2⟩ (a6 res h))
      simp only [hinterlandref02_Grow.l1, i1, if_true, w1, i0, w2]
/-- One of the four grids. -/
theorem level {N : Nat} {kk : Int} {j : Int} (hk : 0 ≤ kk ∧ kk ≤ 3) (hj : 0 ≤ j ∧ j ≤ 3) (hN : (N : Int) = (H + 1) * (W + 1)) (e1 : shl .i64 1 kk = q) (e2 : rd [8, 4, 2, 1] j = q) (S : List Int) (B s : Int) (hB : 0 ≤ B) (hb : B ≤ 900000000000) (hS : Bd N B S) (s0 : 0 ≤ s) (s1 : s ≤ 18446744073709551615) : ∃ (S' : List Int) (B' s' : Int), 0 ≤ B' ∧ B' ≤ B + 10000000 ∧ Bd N B' S' ∧ 0 ≤ s' ∧ s' ≤ 18446744073709551615 ∧
    (∀ res : S4, Ev (fun k => land_Grow.l0 k W H r S' (kk - 1) s') res → Ev (fun k => land_Grow.l0 k W H r S kk s) res) ∧
    (∀ res : S4, Ev (fun k => hinterlandref02_Grow.l0 k W H r S' [8, 4, 2, 1] 4 (j + 1) s') res → Ev (fun k => hinterlandref02_Grow.l0 k W H r S [8, 4, 2, 1] 4 j s) res) := by
  obtain ⟨W0, W1⟩ := id hW
  obtain ⟨H0, H1⟩ := id hH
  have dW := div_in hW hH hq (show 0 ≤ W by omega) W (Int.le_refl _)
  have dH := div_in hW hH hq (show 0 ≤ H by omega) H (Int.le_refl _)
  have pm := mulb (show 0 ≤ W / q + 2 by omega) (show W / q + 2 ≤ 34 by omega) (show 0 ≤ H / q + 2 by omega) (show H / q + 2 ≤ 34 by omega)
  have w1 : wrap64 (wrap64 (Int.tdiv W q) + 2) = W / q + 2 := by rw [Int.tdiv_eq_ediv_of_nonneg (by omega), w64_in (x := W / q) (by omega) (by omega)]; exact w64_in (by omega) (by omega)
  have w2 : wrap64 (wrap64 (Int.tdiv H q) + 2) = H / q + 2 := by rw [Int.tdiv_eq_ediv_of_nonneg (by omega), w64_in (x := H / q) (by omega) (by omega)]; exact w64_in (by omega) (by omega)
  have w3 : wrap64 ((W / q + 2) * (H / q + 2)) = (W / q + 2) * (H / q + 2) := w64_in (by omega) (by omega)
  have hlen : ((List.replicate ((W / q + 2) * (H / q + 2)).toNat (0 : Int)).length : Int) = (W / q + 2) * (H / q + 2) := by rw [List.length_replicate]; omega
  obtain ⟨T, t, a1, a2, a3, a4, a5, a6⟩ := table hW hH hr hq (S := S) (kk := kk) (D := W / q + 2) (j := j) (List.replicate ((W / q + 2) * (H / q + 2)).toNat (0 : Int)).length 0 (List.replicate ((W / q + 2) * (H / q + 2)).toNat (0 : Int)) s (by omega) (by omega) (by omega) s0 s1 (fun j a b => by omega)
  obtain ⟨S', B', b1, b2, b3, b4, b5⟩ := lines (r := r) (s := t) hW hH hq hk hj hN (T := T) (by rw [a1]; exact hlen) (by rw [a1]; exact a2) (H + 1).toNat 0 S B (by omega) (by omega) hB (by omega) hS
  refine ⟨S', B', t, b1, by omega, b3, a3, a4, fun res h => Ev.step (fun k => ?_) (a5 res (b4 res h)), fun res h => Ev.step (fun k => ?_) (a6 res (b5 res h))⟩
  · simp only [land_Grow.l0, e1, w1, w2, w3]
    rw [if_pos (show kk ≥ 0 by omega), if_pos hk.1, if_neg (by omega), if_pos pm.1, if_pos (by omega)]
    simp only [Option.bind_some]
  · simp only [hinterlandref02_Grow.l0, e2, w1, w2, w3]
    rw [if_pos (by omega), if_pos hj.1, if_pos (by simp; omega), if_neg (by omega), if_pos pm.1, if_pos (by omega)]
    simp only [Option.bind_some]
end
def half (S : List Int) : List Int := S.map fun z => z / 2
theorem rd_half {S : List Int} {j : Int} (j0 : 0 ≤ j) (j1 : j < (S.length : Int)) : rd (half S) j = rd S j / 2 := by
  unfold half rd
  have : j.toNat < S.length := by omega
  simp [List.getD_eq_getElem?_getD, this]
theorem half_ok {W H : Int} {O : List Int} (hO : O.length ≤ 100000) (hb : ∀ j : Int, 0 ≤ j → j < (O.length : Int) → 0 ≤ rd O j ∧ rd O j ≤ 1000000000000) : ∀ (d : Nat) (i : Int) (S : List Int), 0 ≤ i → i + d = (O.length : Int) → S.length = O.length → (∀ j : Int, 0 ≤ j → j < i → rd S j = rd O j / 2) → (∀ j : Int, i ≤ j → j < (O.length : Int) → rd S j = rd O j) →
    (∀ res : S4, Ev (fun k => land_Settle.f k W H (half O)) res → Ev (fun k => land_Grow.l4 k W H S (O.length : Int) i) res) ∧ (∀ res : S4, Ev (fun k => hinterlandref02_Settle.f k W H (half O)) res → Ev (fun k => hinterlandref02_Grow.l4 k W H S (O.length : Int) i) res) := by
  intro d; induction d with
  | zero =>
    intro i S i0 hi hl h1 h2
    have e : S = half O := rd_ext (by rw [hl]; unfold half; rw [List.length_map]) fun j j0 j1 => by rw [rd_half j0 (by omega)]; exact h1 j j0 (by omega)
    subst e
    refine ⟨fun res h => Ev.step (f := fun k => (land_Settle.f k W H (half O)).bind fun b => some (b.1, b.2.1, b.2.2.1, b.2.2.2)) (fun k => ?_) (Ev.bind h (Ev.now _)), fun res h => Ev.step (f := fun k => (hinterlandref02_Settle.f k W H (half O)).bind fun b => some (b.1, b.2.1, b.2.2.1, b.2.2.2)) (fun k => ?_) (Ev.bind h (Ev.now _))⟩
    · simp only [land_Grow.l4]; rw [if_neg (by omega)]
    · simp only [hinterlandref02_Grow.l4]; rw [if_neg (by omega)]
  | succ d ih =>
    intro i S i0 hi hl h1 h2
    have i1 : i < (O.length : Int) := by omega
    have hz := hb i i0 i1
    have e1 := h2 i (Int.le_refl _) i1
    have e2 : wrap64 (Int.tdiv (rd S i) 2) = rd O i / 2 := by rw [e1, Int.tdiv_eq_ediv_of_nonneg hz.1]; exact w64_in (by omega) (by omega)
    have e3 : wrap64 (i + 1) = i + 1 := w64_in (by omega) (by omega)
    obtain ⟨a, b⟩ := ih (i + 1) (S.set i.toNat (rd O i / 2)) (by omega) (by omega) (by rw [List.length_set]; exact hl) (fun j j0 j1 => by
      rw [rd_put i0 (by omega) j0]
      split
      · rename_i e; rw [e]
      · exact h1 j j0 (by omega)) (fun j j0 j1 => by rw [rd_put i0 (by omega) (by omega), if_neg (by omega)]; exact h2 j (by omega) j1)
    refine ⟨fun res h => Ev.step (fun k => ?_) (a res h), fun res h => Ev.step (fun k => ?_) (b res h)⟩
    · simp only [land_Grow.l4]; rw [if_pos i1, if_pos i0, if_pos (by omega), e2, e3]
    · simp only [hinterlandref02_Grow.l4]; rw [if_pos i1, if_pos i0, if_pos (by omega), e2, e3]
theorem new_ok (s : ByteArray) (hs : s.size ≤ 9223372036854775807) (d : Nat) : ∀ (i acc : Int), 0 ≤ acc → acc ≤ 18446744073709551615 → 0 ≤ i → i ≤ s.size → (s.size : Int) - i = d →
    ∃ r, 0 ≤ r ∧ r ≤ 18446744073709551615 ∧ ∀ k, d < k → roll_New.l0 k s acc (s.size : Int) i = some r ∧ hinterlandref01_New.l0 k s acc i = some r := by
  induction d with
  | zero =>
    intro i acc b0 b1 h0 h1 hd
    refine ⟨acc, b0, b1, fun k hk => ?_⟩
    obtain ⟨k, rfl⟩ : ∃ q, k = q + 1 := ⟨k - 1, by omega⟩
    simp only [roll_New.l0, hinterlandref01_New.l0]
    rw [if_neg (by omega), if_neg (by omega)]
    exact ⟨rfl, rfl⟩
  | succ d ih =>
    intro i acc b0 b1 h0 h1 hd
    have hw : ∀ x : Int, 0 ≤ IntKind.u64.wrap x ∧ IntKind.u64.wrap x ≤ 18446744073709551615 := fun x => by rw [u64w]; omega
    have hw' := hw ((Go.bits .xor .u64 acc (IntKind.u64.wrap (bt s i))) * 1099511628211)
    obtain ⟨r, r0, r1, hr⟩ := ih (i + 1) (IntKind.u64.wrap ((Go.bits .xor .u64 acc (IntKind.u64.wrap (bt s i))) * 1099511628211)) hw'.1 hw'.2 (by omega) (by omega) (by omega)
    refine ⟨r, r0, r1, fun k hk => ?_⟩
    obtain ⟨k, rfl⟩ : ∃ q, k = q + 1 := ⟨k - 1, by omega⟩
    have h := hr k (by omega)
    simp only [roll_New.l0, hinterlandref01_New.l0]
    rw [if_pos (by omega), if_pos h0, if_pos (by omega), if_pos (by omega), if_pos h0, w64_in (by omega) (by omega)]
    exact h
theorem grow_both (a W H r : Int) (a0 : 0 ≤ a) (a1 : a ≤ 18446744073709551615) : ∃ res : S4, Ev (fun k => land_Grow.f k a W H r) res ∧ Ev (fun k => hinterlandref02_Grow.f k a W H r) res ∧ res.2.2.1.length ≤ 100000 ∧ (res.2.2.2 = 0 → Valid res.1 res.2.1 res.2.2.1) := by
  by_cases c : (4 ≤ W ∧ W ≤ 32 ∧ 4 ≤ H ∧ H ≤ 32) ∧ (0 ≤ r ∧ r ≤ 4)
  · obtain ⟨⟨W0, W1, H0, H1⟩, hr⟩ := c
    have hW : 4 ≤ W ∧ W ≤ 32 := ⟨W0, W1⟩
    have hH : 4 ≤ H ∧ H ≤ 32 := ⟨H0, H1⟩
    obtain ⟨s, s0, s1, hs⟩ := new_ok (⟨#[108, 97, 110, 100]⟩ : ByteArray) (by decide) (⟨#[108, 97, 110, 100]⟩ : ByteArray).size 0 a a0 a1 (by omega) (by omega) (by omega)
    have pm := mulb (show 0 ≤ H + 1 by omega) (show H + 1 ≤ 33 by omega) (show 0 ≤ W + 1 by omega) (show W + 1 ≤ 33 by omega)
    have wl : wrap64 (wrap64 (W + 1) * wrap64 (H + 1)) = (H + 1) * (W + 1) := wrap_len W0 W1 H0 H1
    have hN : ((((H + 1) * (W + 1)).toNat : Nat) : Int) = (H + 1) * (W + 1) := by omega
    have hz : Bd ((H + 1) * (W + 1)).toNat 0 (List.replicate ((H + 1) * (W + 1)).toNat 0) := by
      refine ⟨List.length_replicate, fun j j0 j1 => ?_⟩
      unfold rd
      simp [List.getD_eq_getElem?_getD, List.getElem?_replicate]
      split <;> simp
    obtain ⟨S1, B1, t1, p1, p2, p3, p4, p5, p6, p7⟩ := level hW hH hr (q := 8) (by omega) (kk := 3) (j := 0) (by omega) (by omega) hN (by decide +kernel) (by decide +kernel) _ 0 s (by omega) (by omega) hz s0 s1
    obtain ⟨S2, B2, t2, q1, q2, q3, q4, q5, q6, q7⟩ := level hW hH hr (q := 4) (by omega) (kk := 2) (j := 1) (by omega) (by omega) hN (by decide +kernel) (by decide +kernel) _ B1 t1 p1 (by omega) p3 p4 p5
    obtain ⟨S3, B3, t3, r1, r2, r3, r4, r5, r6, r7⟩ := level hW hH hr (q := 2) (by omega) (kk := 1) (j := 2) (by omega) (by omega) hN (by decide +kernel) (by decide +kernel) _ B2 t2 q1 (by omega) q3 q4 q5
    obtain ⟨S4', B4, t4, u1, u2, u3, u4, u5, u6, u7⟩ := level hW hH hr (q := 1) (by omega) (kk := 0) (j := 3) (by omega) (by omega) hN (by decide +kernel) (by decide +kernel) _ B3 t3 r1 (by omega) r3 r4 r5
    have ul := u3.1
    obtain ⟨h1, h2⟩ := half_ok (W := W) (H := H) (O := S4') (by omega) (fun j j0 j1 => by have := u3.2 j j0 (by omega); omega) S4'.length 0 S4' (by omega) (by omega) rfl (fun j j0 j1 => by omega) (fun j j0 j1 => rfl)
    obtain ⟨res, v1, v2, v3, v4⟩ := settle_both W H (half S4')
    have hl : (half S4').length = S4'.length := by unfold half; rw [List.length_map]
    refine ⟨res, ?_, ?_, by omega, fun e => ?_⟩
    · have k1 : Ev (fun k => land_Grow.l0 k W H r (List.replicate ((H + 1) * (W + 1)).toNat 0) 3 s) res := p6 _ (q6 _ (r6 _ (u6 _ (Ev.step (fun k => by simp only [land_Grow.l0]; rw [if_neg (by omega)]) (h1 res v1)))))
      refine Ev.step (f := fun k => (roll_New.f (k) a (⟨#[108, 97, 110, 100]⟩ : ByteArray)).bind fun t => land_Grow.l0 k W H r (List.replicate ((H + 1) * (W + 1)).toNat 0) 3 t) (fun k => ?_) (Ev.bind ⟨10, fun k hk => (hs k (by have : (⟨#[108, 97, 110, 100]⟩ : ByteArray).size = 4 := rfl; omega)).1⟩ k1)
      unfold land_Grow.f
      rw [sides_ok]
      simp only [Option.bind_some, decide_eq_true_eq]
      rw [if_pos ⟨W0, W1, H0, H1⟩, if_neg (by omega), decide_eq_false (by omega)]
      simp only [land_Grow.j0, wl, pm.1, if_true, show (((H + 1) * (W + 1)).toNat ≤ 35184372088832) = True from eq_true (by omega)]
      rfl
    · have k1 : Ev (fun k => hinterlandref02_Grow.l0 k W H r (List.replicate ((H + 1) * (W + 1)).toNat 0) [8, 4, 2, 1] 4 0 s) res := p7 _ (q7 _ (r7 _ (u7 _ (Ev.step (fun k => by simp only [hinterlandref02_Grow.l0]; rw [if_neg (by omega)]) (h2 res v2)))))
      refine Ev.step (f := fun k => (hinterlandref01_New.f (k) a (⟨#[108, 97, 110, 100]⟩ : ByteArray)).bind fun t => hinterlandref02_Grow.l0 k W H r (List.replicate ((H + 1) * (W + 1)).toNat 0) [8, 4, 2, 1] 4 0 t) (fun k => ?_) (Ev.bind ⟨10, fun k hk => (hs k (by have : (⟨#[108, 97, 110, 100]⟩ : ByteArray).size = 4 := rfl; omega)).2⟩ k1)
      unfold hinterlandref02_Grow.f hinterlandref02_side.f
      rw [if_pos (show W ≥ 4 by omega), if_pos (show H ≥ 4 by omega)]
      simp only [Option.bind_some, decide_eq_true_eq]
      rw [if_pos W1, if_pos H1, if_neg (by omega), decide_eq_false (by omega)]
      simp only [hinterlandref02_Grow.j0, wl, pm.1, if_true, show (((H + 1) * (W + 1)).toNat ≤ 35184372088832) = True from eq_true (by omega), Option.bind_some]
      rfl
    · obtain ⟨z1, z2, z3, z4, z5⟩ := v4 e
      rw [z2, z3]
      have hlm := z4.len
      rw [List.length_map] at hlm
      have z1' : Sides W H res.2.2.1 := by unfold Sides at z1 ⊢; rw [hlm]; exact z1
      refine ⟨z1', z4.hts, fun y x y0 y1 x0 x1 => (steps_places z1').2 (fun j j0 j1 => z5 j j0 (by rw [List.length_map]; omega)) y x y0 y1 x0 x1⟩
  · refine ⟨(0, 0, [], 1), ⟨1, fun k hk => ?_⟩, ⟨1, fun k hk => ?_⟩, by simp, fun h => absurd h (by decide)⟩ <;> obtain ⟨k, rfl⟩ : ∃ m, k = m + 1 := ⟨k - 1, by omega⟩
    · unfold land_Grow.f
      rw [sides_ok]
      simp only [Option.bind_some, decide_eq_true_eq, land_Grow.j0]
      by_cases h1 : 4 ≤ W ∧ W ≤ 32 ∧ 4 ≤ H ∧ H ≤ 32
      · rw [if_pos h1]
        by_cases h2 : r < 0
        · rw [if_pos h2, if_pos trivial]
        · rw [if_neg h2, if_pos (show r > 4 by omega)]
      · rw [if_neg h1, if_pos trivial]
    · unfold hinterlandref02_Grow.f hinterlandref02_side.f
      simp only [hinterlandref02_Grow.j0]
      by_cases h1 : W ≥ 4
      · by_cases h2 : W ≤ 32
        · by_cases h3 : H ≥ 4
          · by_cases h4 : H ≤ 32
            · by_cases h5 : r < 0
              · simp [h1, h2, h3, h4, h5]
              · simp [h1, h2, h3, h4, h5, show r > 4 by omega]
            · simp [h1, h2, h3, h4]
          · simp [h1, h2, h3]
        · simp [h1, h2]
      · simp [h1]
end Go.Proofs.Ytchflcnegpnkkab.Gro
namespace Go.Proofs.Ytchflcnegpnkkab.Pure
open Go.RowKit Go.Proofs.YtchflcnegpnkkabOwn Go.Proofs.Ytchflcnegpnkkab.Q Go.Proofs.Ytchflcnegpnkkab.Val Go.Proofs.Ytchflcnegpnkkab.Set Go.Proofs.Ytchflcnegpnkkab.Swp Go.Proofs.Ytchflcnegpnkkab.Gro Go.Proofs.YtchflcnegpnkkabW.PrintWords Go.Proofs.YtchflcnegpnkkabW.PrintLast
theorem known_ev : Ev (fun k => hinterlandlaw02_known.f k) true := Ev.of hinterlandlaw02_known.mono (k := 200) (by decide +kernel)
theorem list_self {l : List Int} (hl : l.length < 1000000000) : ∀ (d : Nat) (i : Int), 0 ≤ i → i + d = l.length → Ev (fun k => hinterlandsame_List_int.l0 k l l i) true := by
  intro d; induction d with
  | zero =>
    intro i i0 hd
    refine Ev.step (fun _ => rfl) ?_
    simp only [hinterlandsame_List_int.l0, show ¬ i < (l.length : Int) by omega, if_false]; exact Ev.now _
  | succ d ih =>
    intro i i0 hd
    refine Ev.step (fun _ => rfl) ?_
    simp only [hinterlandsame_List_int.l0, show i < (l.length : Int) by omega, i0, if_true, show wrap64 (i + 1) = i + 1 from w64_in (by omega) (by omega)]
    exact ih (i + 1) (by omega) (by omega)
theorem land_self (a b : Int) {l : List Int} (hl : l.length < 1000000000) : Ev (fun k => hinterlandsame_Land.f k a b l a b l) true := by
  unfold hinterlandsame_Land.f
  simp only [if_true]
  refine Ev.bind (?_ : Ev _ true) (Ev.now _)
  unfold hinterlandsame_List_int.f
  simp only [if_true]
  exact list_self hl l.length 0 (by omega) (by omega)
/-- The land that grows from a seed. -/
theorem LandGrows : hinterlandlaw02_LandGrows.Pure := by
  intro a w h r ha _ _ _
  have ha := wInt_u64 ha
  refine Ev.rounds ?_
  unfold hinterlandlaw02_LandGrows.f
  obtain ⟨res, h1, h2, h3, h4⟩ := grow_both a w h r ha.1 ha.2
  refine Ev.bind h1 (Ev.bind h2 ?_)
  simp only [if_true]
  refine Ev.bind (land_self res.1 res.2.1 (l := res.2.2.1) (by omega)) ?_
  simp only [if_true]
  by_cases e : res.2.2.2 = 0
  · simp only [e, if_true]
    obtain ⟨v, v1, v2⟩ := validate_ok res.1 res.2.1 res.2.2.1
    have v0 := v2.2 (h4 e)
    subst v0
    refine Ev.bind v1 ?_
    simp only [if_true]
    exact Ev.bind known_ev (Ev.now _)
  · simp only [e, if_false]
    exact Ev.bind known_ev (Ev.now _)
end Go.Proofs.Ytchflcnegpnkkab.Pure

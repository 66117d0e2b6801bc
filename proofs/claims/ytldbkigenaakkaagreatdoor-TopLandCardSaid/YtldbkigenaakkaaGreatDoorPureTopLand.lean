/- What is proved: law TopLand of this seat, all in one text (laid by prune.py). -/
import Derived.Test.YtldbkigenaakkaaGreatDoorOpen
import Derived.Laws.Bits64
import Derived.OpenShut
import Derived.Test.YtldbkigenaakkaaGreatDoorQ1
import Derived.Test.YtldbkigenaakkaaGreatDoorQ8
import Derived.Test.YtldbkigenaakkaaGreatDoorQ10
import Derived.Test.YtldbkigenaakkaaGreatDoorQ13
import Derived.Test.YtldbkigenaakkaaGreatDoorQ14
import Derived.Test.YtldbkigenaakkaaGreatDoorQ17
import Derived.Test.YtldbkigenaakkaaGreatDoorQ24
import Derived.Test.YtldbkigenaakkaaGreatDoorQ25
namespace Go.Proofs.YtldbkigenaakkaaGreatDoorOwn
open Go.RowKit Go.Proofs.YtldbkigenaakkaaGreatDoorW.PrintWords
theorem wInt_u64 {n : Int} (h : wInt .u64 n) : 0 ≤ n ∧ n ≤ 18446744073709551615 := bounds_u64 h
theorem u64w (x : Int) : IntKind.u64.wrap x = x % 18446744073709551616 := by
  simp [IntKind.wrap, IntKind.signed, IntKind.bits]
theorem w64_in {x : Int} (h0 : -9223372036854775808 ≤ x) (h1 : x ≤ 9223372036854775807) : wrap64 x = x := by unfold wrap64; omega
end Go.Proofs.YtldbkigenaakkaaGreatDoorOwn
namespace Go.Proofs.YtldbkigenaakkaaGreatDoor.Val
open Go.RowKit Go.Proofs.YtldbkigenaakkaaGreatDoorOwn Go.Proofs.YtldbkigenaakkaaGreatDoor.Q Go.Proofs.YtldbkigenaakkaaGreatDoorW.PrintWords Go.Proofs.YtldbkigenaakkaaGreatDoorW.PrintLast
/-- Two heights lie within one step. -/
def near (a b : Int) : Prop := a - b ≤ 1 ∧ b - a ≤ 1
instance (a b : Int) : Decidable (near a b) := by unfold near; infer_instance
def Hts (L : List Int) : Prop := ∀ i : Int, 0 ≤ i → i < (L.length : Int) → 0 ≤ rd L i ∧ rd L i ≤ 15
def cell (W H : Int) (L : List Int) (y x : Int) : Prop := (x < W → near (rd L (y * (W + 1) + x)) (rd L (y * (W + 1) + x + 1))) ∧ (y < H → near (rd L (y * (W + 1) + x)) (rd L ((y + 1) * (W + 1) + x)))
def place (W : Int) (L : List Int) (i : Int) : Prop := (0 < i % (W + 1) → near (rd L i) (rd L (i - 1))) ∧ (W < i → near (rd L i) (rd L (i - W - 1)))
instance (W H : Int) (L : List Int) (y x : Int) : Decidable (cell W H L y x) := by unfold cell; infer_instance
instance (W : Int) (L : List Int) (i : Int) : Decidable (place W L i) := by unfold place; infer_instance
def Steps (W H : Int) (L : List Int) : Prop := ∀ y x : Int, 0 ≤ y → y ≤ H → 0 ≤ x → x ≤ W → cell W H L y x
def Sides (W H : Int) (L : List Int) : Prop := 4 ≤ W ∧ W ≤ 32 ∧ 4 ≤ H ∧ H ≤ 32 ∧ (L.length : Int) = (H + 1) * (W + 1)
def Valid (W H : Int) (L : List Int) : Prop := Sides W H L ∧ Hts L ∧ Steps W H L
def Res (g : Nat → Option Int) (P : Prop) : Prop := ∃ r, Ev g r ∧ (r = 0 ∨ r = 5) ∧ (r = 0 ↔ P)
theorem row_in {y H m : Int} (h0 : 0 ≤ y) (h1 : y ≤ H) (hm : 0 ≤ m) : 0 ≤ y * m ∧ y * m + m ≤ (H + 1) * m := by
  constructor
  · exact Int.mul_nonneg h0 hm
  · have := Int.mul_le_mul_of_nonneg_right (show y + 1 ≤ H + 1 by omega) hm
    rw [Int.add_mul y 1 m, Int.one_mul] at this; exact this
theorem len_le {W H : Int} {L : List Int} (s : Sides W H L) : 25 ≤ (L.length : Int) ∧ (L.length : Int) ≤ 1089 := by
  obtain ⟨a, b, c, d, e⟩ := s
  have h1 := Int.mul_le_mul (show H + 1 ≤ 33 by omega) (show W + 1 ≤ 33 by omega) (by omega) (by omega)
  have h2 := Int.mul_le_mul (show 5 ≤ H + 1 by omega) (show 5 ≤ W + 1 by omega) (by omega) (by omega)
  omega
theorem apart_ok {a b : Int} (ha : 0 ≤ a ∧ a ≤ 15) (hb : 0 ≤ b ∧ b ≤ 15) : land_apart.f a b = some (!decide (near a b)) := by
  unfold land_apart.f
  rw [w64_in (by omega) (by omega), w64_in (by omega) (by omega)]
  by_cases h : a - b > 1
  · rw [if_pos h, decide_eq_false (p := near a b) (by unfold near; omega)]; rfl
  · rw [if_neg h]
    by_cases h2 : b - a > 1
    · rw [decide_eq_true h2, decide_eq_false (p := near a b) (by unfold near; omega)]; rfl
    · rw [decide_eq_false h2, decide_eq_true (p := near a b) (by unfold near; omega)]; rfl
theorem l0_ok {W H : Int} {L : List Int} {r : Int} (hn : (L.length : Int) ≤ 1089) (hg : Ev (fun k => land_Validate.l1 k 0 W H L) r) : ∀ (d : Nat) (i : Int), 0 ≤ i → i + d = L.length → (∀ j, i ≤ j → j < (L.length : Int) → 0 ≤ rd L j ∧ rd L j ≤ 15) → Ev (fun k => land_Validate.l0 k L (L.length : Int) i W H L) r := by
  intro d; induction d with
  | zero =>
    intro i h0 hd hh
    refine Ev.step (f := fun k => land_Validate.l1 k 0 W H L) (fun k => ?_) hg
    simp only [land_Validate.l0]; rw [if_neg (by omega)]
  | succ d ih =>
    intro i h0 hd hh
    have h1 := hh i (by omega) (by omega)
    obtain ⟨K, hK⟩ := ih (i + 1) (by omega) (by omega) (fun j a b => hh j (by omega) b)
    refine ⟨K + 2, fun k hk => ?_⟩
    obtain ⟨k, rfl⟩ : ∃ m, k = m + 1 + 1 := ⟨k - 2, by omega⟩
    simp only [land_Validate.l0, land_Validate.j2]
    rw [if_pos (by omega), if_pos (by omega), if_pos (by omega), if_neg (by omega), if_neg (by simp; omega), w64_in (by omega) (by omega)]
    exact hK k (by omega)
theorem l0_no {W H : Int} {L : List Int} (hn : (L.length : Int) ≤ 1089) : ∀ (d : Nat) (i : Int), 0 ≤ i → i + d = L.length → (∃ j, i ≤ j ∧ j < (L.length : Int) ∧ ¬ (0 ≤ rd L j ∧ rd L j ≤ 15)) → Ev (fun k => land_Validate.l0 k L (L.length : Int) i W H L) 1 := by
  intro d; induction d with
  | zero => intro i h0 hd hh; obtain ⟨j, a, b, _⟩ := hh; omega
  | succ d ih =>
    intro i h0 hd hh
    by_cases h1 : 0 ≤ rd L i ∧ rd L i ≤ 15
    · obtain ⟨K, hK⟩ := ih (i + 1) (by omega) (by omega) (by
        obtain ⟨j, a, b, c⟩ := hh
        refine ⟨j, ?_, b, c⟩
        by_cases e : j = i
        · subst e; exact absurd h1 c
        · omega)
      refine ⟨K + 2, fun k hk => ?_⟩
      obtain ⟨k, rfl⟩ : ∃ m, k = m + 1 + 1 := ⟨k - 2, by omega⟩
      simp only [land_Validate.l0, land_Validate.j2]
      rw [if_pos (by omega), if_pos (by omega), if_pos (by omega), if_neg (by omega), if_neg (by simp; omega), w64_in (by omega) (by omega)]
      exact hK k (by omega)
    · refine ⟨2, fun k hk => ?_⟩
      obtain ⟨k, rfl⟩ : ∃ m, k = m + 1 + 1 := ⟨k - 2, by omega⟩
      simp only [land_Validate.l0, land_Validate.j2]
      rw [if_pos (by omega), if_pos (by omega), if_pos (by omega)]
      by_cases h2 : rd L i < 0
      · rw [if_pos h2, if_pos trivial]
      · rw [if_neg h2, if_pos (by simp; omega)]
theorem row_ok {W H : Int} {L : List Int} (s : Sides W H L) (hh : Hts L) {y : Int} (y0 : 0 ≤ y) (y1 : y ≤ H) {P : Prop} (hn : Res (fun k => land_Validate.l1 k (y + 1) W H L) P) : ∀ (d : Nat) (x : Int), 0 ≤ x → x + d = W + 1 → Res (fun k => land_Validate.l2 k y x W H L) ((∀ x', x ≤ x' → x' ≤ W → cell W H L y x') ∧ P) := by
  obtain ⟨a, b, c, e, f⟩ := id s
  obtain ⟨l0, l1⟩ := len_le s
  obtain ⟨p0, p1⟩ := row_in (m := W + 1) y0 y1 (by omega)
  intro d; induction d with
  | zero =>
    intro x h0 hd
    obtain ⟨r, ⟨K, hK⟩, hr, hi⟩ := hn
    refine ⟨r, ⟨K + 1, fun k hk => ?_⟩, hr, by rw [hi]; exact ⟨fun h => ⟨fun x' h1 h2 => by omega, h⟩, fun h => h.2⟩⟩
    obtain ⟨k, rfl⟩ : ∃ m, k = m + 1 := ⟨k - 1, by omega⟩
    simp only [land_Validate.l2]
    rw [if_neg (by omega), w64_in (by omega) (by omega)]
    exact hK k (by omega)
  | succ d ih =>
    intro x h0 hd
    obtain ⟨r, ⟨K, hK⟩, hr, hi⟩ := ih (x + 1) (by omega) (by omega)
    have ep : (y + 1) * (W + 1) = y * (W + 1) + (W + 1) := by rw [Int.add_mul, Int.one_mul]
    have hc : cell W H L y x ↔ ((x < W → near (rd L (y * (W + 1) + x)) (rd L (y * (W + 1) + x + 1))) ∧ (y < H → near (rd L (y * (W + 1) + x)) (rd L (y * (W + 1) + (W + 1) + x)))) := by unfold cell; rw [ep]
    have hq : y < H → y * (W + 1) + (W + 1) + (W + 1) ≤ (H + 1) * (W + 1) := fun h => by
      have := (row_in (m := W + 1) (show 0 ≤ y + 1 by omega) (show y + 1 ≤ H by omega) (by omega)).2; omega
    have go : ∀ k, land_Validate.l2 (k + 1 + 1) y x W H L = if cell W H L y x then land_Validate.l2 k y (x + 1) W H L else some 5 := by
      intro k
      simp only [land_Validate.l2, land_Validate.j5]
      rw [w64_in (x := W + 1) (by omega) (by omega), w64_in (x := y + 1) (by omega) (by omega), ep]
      generalize y * (W + 1) = p at *
      rw [w64_in (x := p) (by omega) (by omega), w64_in (x := p + (W + 1)) (by omega) (by omega), w64_in (x := p + (W + 1) + x) (by omega) (by omega), w64_in (x := p + x) (by omega) (by omega), w64_in (x := p + x + 1) (by omega) (by omega), w64_in (x := x + 1) (by omega) (by omega)]
      rw [if_pos (by omega), if_pos (by omega), if_pos (by omega)]
      by_cases hx : x < W
      · rw [if_pos hx, if_pos (by omega), if_pos (by omega), apart_ok (hh _ (by omega) (by omega)) (hh _ (by omega) (by omega))]
        simp only [Option.bind_some]
        by_cases h1 : near (rd L (p + x)) (rd L (p + x + 1))
        · rw [if_neg (by simpa using h1)]
          by_cases hy : y < H
          · have := hq hy
            rw [if_pos hy, if_pos (by omega), if_pos (by omega), apart_ok (hh _ (by omega) (by omega)) (hh _ (by omega) (by omega))]
            simp only [Option.bind_some]
            by_cases h2 : near (rd L (p + x)) (rd L (p + (W + 1) + x))
            · rw [if_neg (by simpa using h2), if_pos (hc.2 ⟨fun _ => h1, fun _ => h2⟩)]
            · rw [if_pos (by simpa using h2), if_neg (fun h => h2 ((hc.1 h).2 hy))]
          · rw [if_neg hy, if_neg (by simp), if_pos (hc.2 ⟨fun _ => h1, fun h => absurd h hy⟩)]
        · rw [if_pos (by simpa using h1), if_pos trivial, if_neg (fun h => h1 ((hc.1 h).1 hx))]
      · rw [if_neg hx]
        by_cases hy : y < H
        · have := hq hy
          rw [if_pos hy, if_pos (by omega), if_pos (by omega), apart_ok (hh _ (by omega) (by omega)) (hh _ (by omega) (by omega))]
          simp only [Option.bind_some]
          by_cases h2 : near (rd L (p + x)) (rd L (p + (W + 1) + x))
          · rw [if_neg (by simpa using h2), if_pos (hc.2 ⟨fun h => absurd h hx, fun _ => h2⟩)]
          · rw [if_pos (by simpa using h2), if_neg (fun h => h2 ((hc.1 h).2 hy))]
        · rw [if_neg hy, if_neg (by simp), if_pos (hc.2 ⟨fun h => absurd h hx, fun h => absurd h hy⟩)]
    by_cases hcell : cell W H L y x
    · refine ⟨r, ⟨K + 2, fun k hk => ?_⟩, hr, ?_⟩
      · obtain ⟨k, rfl⟩ : ∃ m, k = m + 1 + 1 := ⟨k - 2, by omega⟩
        show land_Validate.l2 (k + 1 + 1) y x W H L = _
        rw [go, if_pos hcell]; exact hK k (by omega)
      · rw [hi]
        refine ⟨fun h => ⟨fun x' h1 h2 => ?_, h.2⟩, fun h => ⟨fun x' h1 h2 => h.1 x' (by omega) h2, h.2⟩⟩
        by_cases e : x' = x
        · subst e; exact hcell
        · exact h.1 x' (by omega) h2
    · refine ⟨5, ⟨2, fun k hk => ?_⟩, Or.inr rfl, ?_⟩
      · obtain ⟨k, rfl⟩ : ∃ m, k = m + 1 + 1 := ⟨k - 2, by omega⟩
        show land_Validate.l2 (k + 1 + 1) y x W H L = _
        rw [go, if_neg hcell]
      · exact ⟨fun h => absurd h (by decide), fun h => absurd (h.1 x (by omega) (by omega)) hcell⟩
theorem rows_ok {W H : Int} {L : List Int} (s : Sides W H L) (hh : Hts L) : ∀ (d : Nat) (y : Int), 0 ≤ y → y + d = H + 1 → Res (fun k => land_Validate.l1 k y W H L) (∀ y' x', y ≤ y' → y' ≤ H → 0 ≤ x' → x' ≤ W → cell W H L y' x') := by
  obtain ⟨a, b, c, e, f⟩ := id s
  intro d; induction d with
  | zero =>
    intro y h0 hd
    refine ⟨0, ⟨1, fun k hk => ?_⟩, Or.inl rfl, ⟨fun _ y' x' h1 h2 => by omega, fun _ => rfl⟩⟩
    obtain ⟨k, rfl⟩ : ∃ m, k = m + 1 := ⟨k - 1, by omega⟩
    simp only [land_Validate.l1]
    rw [if_neg (by omega)]
  | succ d ih =>
    intro y h0 hd
    obtain ⟨r, ⟨K, hK⟩, hr, hi⟩ := row_ok s hh h0 (by omega) (ih (y + 1) (by omega) (by omega)) (W + 1).toNat 0 (by omega) (by omega)
    refine ⟨r, ⟨K + 1, fun k hk => ?_⟩, hr, ?_⟩
    · obtain ⟨k, rfl⟩ : ∃ m, k = m + 1 := ⟨k - 1, by omega⟩
      simp only [land_Validate.l1]
      rw [if_pos (by omega)]
      exact hK k (by omega)
    · rw [hi]
      refine ⟨fun h y' x' h1 h2 h3 h4 => ?_, fun h => ⟨fun x' h1 h2 => h y x' (by omega) (by omega) h1 h2, fun y' x' h1 h2 h3 h4 => h y' x' (by omega) h2 h3 h4⟩⟩
      by_cases e : y' = y
      · subst e; exact h.1 x' h3 h4
      · exact h.2 y' x' (by omega) h2 h3 h4
theorem near_comm {a b : Int} : near a b ↔ near b a := by unfold near; omega
theorem steps_places {W H : Int} {L : List Int} (s : Sides W H L) : (∀ y' x', 0 ≤ y' → y' ≤ H → 0 ≤ x' → x' ≤ W → cell W H L y' x') ↔ (∀ j, 0 ≤ j → j < (L.length : Int) → place W L j) := by
  obtain ⟨a, b, c, e, f⟩ := id s
  constructor
  · intro h j j0 j1
    have hx0 := Int.emod_nonneg j (show W + 1 ≠ 0 by omega)
    have hx1 := Int.emod_lt_of_pos j (show 0 < W + 1 by omega)
    have hd := Int.mul_ediv_add_emod j (W + 1)
    have hy0 : 0 ≤ j / (W + 1) := Int.ediv_nonneg j0 (by omega)
    have hy1 : j / (W + 1) ≤ H := by
      have : j / (W + 1) < H + 1 := Int.ediv_lt_of_lt_mul (by omega) (by omega)
      omega
    rw [Int.mul_comm] at hd
    generalize hy : j / (W + 1) = y at *
    generalize hx : j % (W + 1) = x at *
    have ep : (y - 1) * (W + 1) = y * (W + 1) - (W + 1) := by rw [Int.sub_mul, Int.one_mul]
    refine ⟨fun g => ?_, fun g => ?_⟩
    · rw [hx] at g
      have := (h y (x - 1) hy0 hy1 (by omega) (by omega)).1 (by omega)
      rw [show y * (W + 1) + (x - 1) = j - 1 by omega, show j - 1 + 1 = j by omega] at this
      exact near_comm.1 this
    · have hyp : 1 ≤ y := by
        by_cases h0 : y = 0
        · subst h0; omega
        · omega
      have := (h (y - 1) x (by omega) (by omega) (by omega) (by omega)).2 (by omega)
      rw [ep, show y - 1 + 1 = y by omega, show y * (W + 1) - (W + 1) + x = j - W - 1 by omega, show y * (W + 1) + x = j by omega] at this
      exact near_comm.1 this
  · intro h y x y0 y1 x0 x1
    have ep : (y + 1) * (W + 1) = y * (W + 1) + (W + 1) := by rw [Int.add_mul, Int.one_mul]
    obtain ⟨p0, p1⟩ := row_in (m := W + 1) y0 y1 (by omega)
    refine ⟨fun g => ?_, fun g => ?_⟩
    · have := (h (y * (W + 1) + x + 1) (by omega) (by omega)).1 (by
        rw [show y * (W + 1) + x + 1 = (x + 1) + y * (W + 1) by omega, Int.add_mul_emod_self_right, Int.emod_eq_of_lt (by omega) (by omega)]; omega)
      rw [show y * (W + 1) + x + 1 - 1 = y * (W + 1) + x by omega] at this
      exact near_comm.1 this
    · have q := (row_in (m := W + 1) (show 0 ≤ y + 1 by omega) (show y + 1 ≤ H by omega) (by omega)).2
      have := (h ((y + 1) * (W + 1) + x) (by omega) (by omega)).2 (by omega)
      rw [show (y + 1) * (W + 1) + x - W - 1 = y * (W + 1) + x by omega] at this
      exact near_comm.1 this
theorem validate_ok (W H : Int) (L : List Int) : ∃ r, Ev (fun k => land_Validate.f k W H L) r ∧ (r = 0 ↔ Valid W H L) := by
  by_cases s : Sides W H L
  · obtain ⟨a, b, c, e, f⟩ := id s
    obtain ⟨n0, n1⟩ := len_le s
    have hlen : wrap64 (wrap64 (W + 1) * wrap64 (H + 1)) = (L.length : Int) := by
      rw [w64_in (x := W + 1) (by omega) (by omega), w64_in (x := H + 1) (by omega) (by omega), Int.mul_comm, ← f]
      exact w64_in (by omega) (by omega)
    have hA : ∀ k, land_Validate.f (k + 1) W H L = land_Validate.l0 k L (L.length : Int) 0 W H L := by
      intro k
      unfold land_Validate.f
      rw [if_neg (by omega), if_neg (by omega), if_neg (by omega), if_neg (by omega), hlen]
      simp only [land_Validate.j0]
      rw [if_neg (by simp)]
    by_cases hh : Hts L
    · obtain ⟨r, h1, h2, h3⟩ := rows_ok s hh (H + 1).toNat 0 (by omega) (by omega)
      refine ⟨r, Ev.step hA (l0_ok n1 h1 L.length 0 (by omega) (by omega) (fun j => hh j)), ?_⟩
      rw [h3]
      exact ⟨fun h => ⟨s, hh, fun y x a b c d => h y x a b c d⟩, fun h => fun y x a b c d => h.2.2 y x a b c d⟩
    · have hx : ∃ j, 0 ≤ j ∧ j < (L.length : Int) ∧ ¬ (0 ≤ rd L j ∧ rd L j ≤ 15) := by
        refine Classical.byContradiction fun h => hh fun i h0 h1 => ?_
        exact Classical.byContradiction fun h' => h ⟨i, h0, h1, h'⟩
      exact ⟨1, Ev.step hA (l0_no n1 L.length 0 (by omega) (by omega) hx), ⟨fun h => absurd h (by decide), fun h => absurd h.2.1 hh⟩⟩
  · refine ⟨1, ⟨1, fun k hk => ?_⟩, ⟨fun h => absurd h (by decide), fun h => absurd h.1 s⟩⟩
    obtain ⟨k, rfl⟩ : ∃ m, k = m + 1 := ⟨k - 1, by omega⟩
    show land_Validate.f (k + 1) W H L = _
    unfold land_Validate.f
    simp only [land_Validate.j0]
    by_cases h1 : W < 4
    · rw [if_pos h1, if_pos trivial]
    by_cases h2 : W > 32
    · rw [if_neg h1, if_pos h2, if_pos trivial]
    by_cases h3 : H < 4
    · rw [if_neg h1, if_neg h2, if_pos h3, if_pos trivial]
    by_cases h4 : H > 32
    · rw [if_neg h1, if_neg h2, if_neg h3, if_pos h4, if_pos trivial]
    rw [if_neg h1, if_neg h2, if_neg h3, if_neg h4, if_pos]
    simp only [bne_iff_ne]
    intro h5
    refine s ⟨by omega, by omega, by omega, by omega, ?_⟩
    rw [h5, w64_in (x := W + 1) (by omega) (by omega), w64_in (x := H + 1) (by omega) (by omega), Int.mul_comm]
    have := Int.mul_le_mul (show H + 1 ≤ 33 by omega) (show W + 1 ≤ 33 by omega) (by omega) (by omega)
    have := Int.mul_nonneg (show 0 ≤ H + 1 by omega) (show 0 ≤ W + 1 by omega)
    exact w64_in (by omega) (by omega)
end Go.Proofs.YtldbkigenaakkaaGreatDoor.Val
namespace Go.Proofs.YtldbkigenaakkaaGreatDoor.Til
open Go.RowKit Go.Proofs.YtldbkigenaakkaaGreatDoorOwn Go.Proofs.YtldbkigenaakkaaGreatDoor.Q Go.Proofs.YtldbkigenaakkaaGreatDoor.Val Go.Proofs.YtldbkigenaakkaaGreatDoorW.PrintWords Go.Proofs.YtldbkigenaakkaaGreatDoorW.PrintLast
def isT (W H t : Int) : Prop := 0 ≤ t ∧ t < W * H
instance (W H t : Int) : Decidable (isT W H t) := by unfold isT; infer_instance
def pl (W t : Int) : Int := t / W * (W + 1) + t % W
theorem area {W H : Int} {L : List Int} (s : Sides W H L) : wrap64 (W * H) = W * H := by
  obtain ⟨a, b, c, e, f⟩ := s
  have h1 := Int.mul_le_mul b e (by omega) (by omega)
  have h2 := Int.mul_nonneg (show 0 ≤ W by omega) (show 0 ≤ H by omega)
  exact w64_in (by omega) (by omega)
theorem isTile_ok {W H : Int} {L : List Int} (s : Sides W H L) (t : Int) : land_isTile.f W H L t = some (decide (isT W H t)) := by
  unfold land_isTile.f
  rw [area s]
  by_cases h : t ≥ 0
  · rw [if_pos h]; exact congrArg some (decide_eq_decide.mpr ⟨fun a => ⟨h, a⟩, fun a => a.2⟩)
  · rw [if_neg h]; exact congrArg some (decide_eq_false (fun a => h a.1)).symm
theorem tile_xy {W H : Int} {L : List Int} (s : Sides W H L) {t : Int} (ht : isT W H t) : 0 ≤ t / W ∧ t / W < H ∧ 0 ≤ t % W ∧ t % W < W ∧ t / W * W + t % W = t := by
  obtain ⟨a, b, c, e, f⟩ := s
  obtain ⟨h0, h1⟩ := ht
  refine ⟨Int.ediv_nonneg h0 (by omega), Int.ediv_lt_of_lt_mul (by omega) (by rw [Int.mul_comm]; exact h1), Int.emod_nonneg t (by omega), Int.emod_lt_of_pos t (by omega), ?_⟩
  rw [Int.mul_comm]; exact Int.mul_ediv_add_emod t W
theorem pl_in {W H : Int} {L : List Int} (s : Sides W H L) {t : Int} (ht : isT W H t) : 0 ≤ pl W t ∧ pl W t + W + 2 < (L.length : Int) := by
  obtain ⟨y0, y1, x0, x1, _⟩ := tile_xy s ht
  obtain ⟨a, b, c, e, f⟩ := s
  unfold pl
  have h1 := row_in (m := W + 1) (show 0 ≤ t / W + 1 by omega) (show t / W + 1 ≤ H by omega) (by omega)
  have h2 := row_in (m := W + 1) y0 (show t / W ≤ H by omega) (by omega)
  have ep : (t / W + 1) * (W + 1) = t / W * (W + 1) + (W + 1) := by rw [Int.add_mul, Int.one_mul]
  omega
theorem pl_wrap {W H : Int} {L : List Int} (s : Sides W H L) {t : Int} (ht : isT W H t) : wrap64 (wrap64 (wrap64 (Int.tdiv t W) * wrap64 (W + 1)) + Int.tmod t W) = pl W t := by
  obtain ⟨y0, y1, x0, x1, _⟩ := tile_xy s ht
  obtain ⟨i0, i1⟩ := pl_in s ht
  obtain ⟨l0, l1⟩ := len_le s
  obtain ⟨a, b, c, e, f⟩ := s
  have h2 := row_in (m := W + 1) y0 (show t / W ≤ H by omega) (by omega)
  rw [Int.tdiv_eq_ediv_of_nonneg ht.1, Int.tmod_eq_emod_of_nonneg ht.1, w64_in (x := t / W) (by omega) (by omega), w64_in (x := W + 1) (by omega) (by omega), w64_in (x := t / W * (W + 1)) (by omega) (by omega)]
  exact w64_in (x := pl W t) (by omega) (by omega)
theorem four_ok {W H : Int} {L M : List Int} (s : Sides W H L) (hm : M.length = L.length) {t : Int} (ht : isT W H t) : land_four.f W H M t = some (rd M (pl W t), rd M (pl W t + 1), rd M (pl W t + W + 2), rd M (pl W t + W + 1)) := by
  have hw := pl_wrap s ht
  obtain ⟨i0, i1⟩ := pl_in s ht
  obtain ⟨l0, l1⟩ := len_le s
  obtain ⟨a, b, c, e, f⟩ := s
  unfold land_four.f
  rw [if_neg (by omega), hw, w64_in (x := pl W t + 1) (by omega) (by omega), w64_in (x := pl W t + W) (by omega) (by omega), w64_in (x := pl W t + W + 2) (by omega) (by omega), w64_in (x := pl W t + W + 1) (by omega) (by omega), hm]
  rw [if_pos (by omega), if_pos (by omega), if_pos (by omega), if_pos (by omega), if_pos (by omega), if_pos (by omega), if_pos (by omega), if_pos (by omega)]
end Go.Proofs.YtldbkigenaakkaaGreatDoor.Til
namespace Go.Proofs.YtldbkigenaakkaaGreatDoor.Shf
open Go.RowKit Go.Proofs.YtldbkigenaakkaaGreatDoorOwn Go.Proofs.YtldbkigenaakkaaGreatDoor.Q Go.Proofs.YtldbkigenaakkaaGreatDoor.Val Go.Proofs.YtldbkigenaakkaaGreatDoor.Til Go.Proofs.YtldbkigenaakkaaGreatDoorW.PrintWords Go.Proofs.YtldbkigenaakkaaGreatDoorW.PrintLast
set_option linter.unusedVariables false
set_option linter.unusedSimpArgs false
def dist (W x y i : Int) : Int := mx (x - i % (W + 1)) (i % (W + 1) - x) + mx (y - i / (W + 1)) (i / (W + 1) - y)
def nv (W x y z : Int) (up : Bool) (L : List Int) (i : Int) : Int := if up = true then mx (rd L i) (z - dist W x y i) else mn (rd L i) (z + dist W x y i)
theorem rd_app {N : List Int} {v j : Int} (h0 : 0 ≤ j) (h : j < (N.length : Int)) : rd (N ++ [v]) j = rd N j := by
  unfold rd
  rw [List.getD_eq_getElem?_getD, List.getD_eq_getElem?_getD, List.getElem?_append_left (by omega)]
theorem rd_end {N : List Int} {v : Int} : rd (N ++ [v]) (N.length : Int) = v := by unfold rd; simp
theorem drop_at {L : List Int} {i : Int} (h0 : 0 ≤ i) (h : i < (L.length : Int)) : L.drop i.toNat = rd L i :: L.drop (i.toNat + 1) := by
  unfold rd
  rw [List.drop_eq_getElem_cons (by omega), List.getD_eq_getElem?_getD, List.getElem?_eq_getElem (by omega)]; rfl
theorem place_xy {W cx cy : Int} (hW : 0 ≤ W) (x0 : 0 ≤ cx) (x1 : cx ≤ W) : (cy * (W + 1) + cx) % (W + 1) = cx ∧ (cy * (W + 1) + cx) / (W + 1) = cy := by
  have e : cy * (W + 1) + cx = cx + (W + 1) * cy := by rw [Int.mul_comm]; omega
  rw [e, Int.add_mul_emod_self_left, Int.add_mul_ediv_left _ _ (by omega), Int.emod_eq_of_lt x0 (by omega), Int.ediv_eq_zero_of_lt x0 (by omega)]
  exact ⟨rfl, by omega⟩
theorem dist_at {W x y cx cy : Int} (hW : 0 ≤ W) (x0 : 0 ≤ cx) (x1 : cx ≤ W) : dist W x y (cy * (W + 1) + cx) = mx (x - cx) (cx - x) + mx (y - cy) (cy - y) := by
  unfold dist
  rw [(place_xy hW x0 x1).1, (place_xy hW x0 x1).2]
theorem dist_self {W cx cy : Int} (hW : 0 ≤ W) (x0 : 0 ≤ cx) (x1 : cx ≤ W) : dist W cx cy (cy * (W + 1) + cx) = 0 := by
  rw [dist_at hW x0 x1]; unfold mx; split <;> split <;> omega
theorem dist_pos (W x y q : Int) : 0 ≤ dist W x y q := by unfold dist mx; split <;> split <;> omega
theorem near_nv {a b z da db : Int} (up : Bool) (h : near a b) (hd : near da db) : near (if up = true then mx a (z - da) else mn a (z + da)) (if up = true then mx b (z - db) else mn b (z + db)) := by
  unfold near mx mn at *
  cases up with
  | true => simp only [if_true]; split <;> split <;> omega
  | false => simp only [Bool.false_eq_true, if_false]; split <;> split <;> omega
theorem nv_valid {W H : Int} {L M : List Int} (v : Valid W H L) {x y z : Int} (z0 : 0 ≤ z ∧ z ≤ 15) (up : Bool) (hm : M.length = L.length) (hv : ∀ q : Int, 0 ≤ q → q < (L.length : Int) → rd M q = nv W x y z up L q) : Valid W H M := by
  obtain ⟨s, hh, st⟩ := v
  obtain ⟨sa, sb, sc, se, sf⟩ := id s
  refine ⟨⟨sa, sb, sc, se, by rw [hm]; exact sf⟩, ?_, ?_⟩
  · intro q q0 q1
    have hq := hh q q0 (by omega)
    have hd := dist_pos W x y q
    rw [hv q q0 (by omega)]
    unfold nv mx mn; split <;> split <;> omega
  · intro cy cx y0 y1 x0 x1
    obtain ⟨c1, c2⟩ := st cy cx y0 y1 x0 x1
    obtain ⟨r0, r1⟩ := row_in (m := W + 1) y0 y1 (by omega)
    have e0 := hv (cy * (W + 1) + cx) (by omega) (by omega)
    have d0 := dist_at (W := W) (x := x) (y := y) (cx := cx) (cy := cy) (by omega) x0 x1
    unfold nv at e0
    rw [d0] at e0
    refine ⟨fun hx => ?_, fun hy => ?_⟩
    · have e1 := hv (cy * (W + 1) + cx + 1) (by omega) (by omega)
      have d1 := dist_at (W := W) (x := x) (y := y) (cx := cx + 1) (cy := cy) (by omega) (by omega) (by omega)
      rw [← Int.add_assoc] at d1
      unfold nv at e1
      rw [d1] at e1
      rw [e0, e1]
      refine near_nv up (c1 hx) ?_
      unfold near mx; split <;> split <;> split <;> omega
    · obtain ⟨r2, r3⟩ := row_in (y := cy + 1) (H := H) (m := W + 1) (by omega) (by omega) (by omega)
      have e1 := hv ((cy + 1) * (W + 1) + cx) (by omega) (by omega)
      have d1 := dist_at (W := W) (x := x) (y := y) (cx := cx) (cy := cy + 1) (by omega) x0 x1
      unfold nv at e1
      rw [d1] at e1
      rw [e0, e1]
      refine near_nv up (c2 hy) ?_
      unfold near mx; split <;> split <;> split <;> omega
theorem Apart_ok {a b : Int} (ha : -4000 ≤ a ∧ a ≤ 4000) (hb : -4000 ≤ b ∧ b ≤ 4000) : hinterlandref02_Apart.f a b = some (mx (a - b) (b - a)) := by
  unfold hinterlandref02_Apart.f mx
  rw [w64_in (by omega) (by omega), w64_in (by omega) (by omega)]
  by_cases h : a < b
  · rw [if_pos h]; congr 1; split <;> omega
  · rw [if_neg h]; congr 1; split <;> omega
/-- How far two heights lie apart. -/
def df (a b : Int) : Int := mx (a - b) (b - a)
theorem df_self (a : Int) : df a a = 0 := by unfold df mx; split <;> omega
/-- How far the first n corners of two lands lie apart. -/
def mv (f g : Int → Int) : Nat → Int
  | 0 => 0
  | n + 1 => mv f g n + df (f (n : Int)) (g (n : Int))
theorem mv_nn (f g : Int → Int) : ∀ n, 0 ≤ mv f g n
  | 0 => Int.le_refl 0
  | n + 1 => by have := mv_nn f g n; unfold mv df mx; split <;> omega
theorem mv_self (f : Int → Int) : ∀ n, mv f f n = 0
  | 0 => rfl
  | n + 1 => by unfold mv; rw [mv_self f n, df_self]; rfl
theorem mv_tri (f g h : Int → Int) : ∀ n, mv f h n ≤ mv f g n + mv g h n
  | 0 => Int.le_refl 0
  | n + 1 => by have := mv_tri f g h n; unfold mv df mx; split <;> split <;> split <;> omega
theorem mv_le {f g : Int → Int} : ∀ n : Nat, (∀ q : Int, 0 ≤ q → q < (n : Int) → df (f q) (g q) ≤ 15) → mv f g n ≤ 15 * n
  | 0, _ => by unfold mv; omega
  | n + 1, h => by have := mv_le n (fun q a b => h q a (by omega)); have := h (n : Int) (by omega) (by omega); unfold mv; omega
theorem mv_ext {f f' g : Int → Int} : ∀ n : Nat, (∀ q : Int, 0 ≤ q → q < (n : Int) → f q = f' q) → mv f g n = mv f' g n
  | 0, _ => rfl
  | n + 1, h => by unfold mv; rw [mv_ext n (fun q a b => h q a (by omega)), h (n : Int) (by omega) (by omega)]
theorem good_loop {W H : Int} {L : List Int} (s : Sides W H L) (hh : Hts L) {x y z : Int} (x0 : 0 ≤ x ∧ x ≤ W) (y0 : 0 ≤ y ∧ y ≤ H) (z0 : 0 ≤ z ∧ z ≤ 15) (up : Bool) : ∀ (d : Nat) (i : Int) (N : List Int) (C : List S96) (S : Int), 0 ≤ i → i + d = L.length → (N.length : Int) = i → (∀ q : Int, 0 ≤ q → q < i → rd N q = nv W x y z up L q) → (C.length : Int) ≤ i → (0 ≤ S ∧ S ≤ 30000 * i ∧ S = 250 * mv (nv W x y z up L) (rd L) i.toNat) → ∃ (M : List Int) (C2 : List S96) (S2 : Int), Ev (fun k => land_Shift.l0 k x y up [] z C S L (L.length : Int) i W H L W H (N ++ L.drop i.toNat)) (W, H, M, C2, S2, 0) ∧ M.length = L.length ∧ (∀ q : Int, 0 ≤ q → q < (L.length : Int) → rd M q = nv W x y z up L q) ∧ (0 ≤ S2 ∧ S2 ≤ 32670000 ∧ S2 = 250 * mv (nv W x y z up L) (rd L) L.length) := by
  obtain ⟨n0, n1⟩ := len_le s
  obtain ⟨sa, sb, sc, se, sf⟩ := id s
  intro d; induction d with
  | zero =>
    intro i N C S i0 hd hN hv hC hS
    have hnot : ¬ i < (L.length : Int) := by omega
    have hdr : L.drop i.toNat = [] := List.drop_eq_nil_of_le (by omega)
    rw [hdr, List.append_nil]
    obtain ⟨hS1, hS2, hS3⟩ := hS
    rw [show i.toNat = L.length by omega] at hS3
    refine ⟨N, C, S, Ev.step (fun _ => rfl) ?_, by omega, fun q a b => hv q a (by omega), hS1, by omega, hS3⟩
    simp only [land_Shift.l0, hnot, if_false]
    refine Ev.step (fun _ => rfl) ?_
    simp only [land_Shift.l1, show ¬ (0 : Int) < (([] : List Int).length : Int) by simp, if_false]; exact Ev.now _
  | succ d ih =>
    intro i N C S i0 hd hN hv hC hS
    have hi : i < (L.length : Int) := by omega
    have hz := hh i i0 hi
    have w1 : wrap64 (i + 1) = i + 1 := w64_in (by omega) (by omega)
    have wW : wrap64 (W + 1) = W + 1 := w64_in (by omega) (by omega)
    have wN : ¬ W + 1 = 0 := by omega
    have m0 := Int.emod_nonneg i (show W + 1 ≠ 0 by omega)
    have m1 := Int.emod_lt_of_pos i (show 0 < W + 1 by omega)
    have d0 := Int.ediv_nonneg i0 (show 0 ≤ W + 1 by omega)
    have d1 : i / (W + 1) < H + 1 := Int.ediv_lt_of_lt_mul (by omega) (by omega)
    have tm : Int.tmod i (W + 1) = i % (W + 1) := Int.tmod_eq_emod_of_nonneg i0
    have td : wrap64 (Int.tdiv i (W + 1)) = i / (W + 1) := by rw [Int.tdiv_eq_ediv_of_nonneg i0, w64_in (by omega) (by omega)]
    have hdist : 0 ≤ dist W x y i ∧ dist W x y i ≤ 70 := by unfold dist mx; split <;> split <;> omega
    have hfar : land_far.f x y (i % (W + 1)) (i / (W + 1)) = some (dist W x y i) := by
      unfold land_far.f
      rw [w64_in (x := x - i % (W + 1)) (by omega) (by omega), w64_in (x := i % (W + 1) - x) (by omega) (by omega), w64_in (x := y - i / (W + 1)) (by omega) (by omega), w64_in (x := i / (W + 1) - y) (by omega) (by omega)]
      exact congrArg some (w64_in (x := dist W x y i) (by omega) (by omega))
    have zm : wrap64 (z - dist W x y i) = z - dist W x y i := w64_in (by omega) (by omega)
    have zp : wrap64 (z + dist W x y i) = z + dist W x y i := w64_in (by omega) (by omega)
    have nb : 0 ≤ nv W x y z up L i ∧ nv W x y z up L i ≤ 15 := by unfold nv mx mn; split <;> split <;> omega
    have la : ∀ k, land_Shift.l0 (k + 1) x y up [] z C S L (L.length : Int) i W H L W H (N ++ L.drop i.toNat) = land_Shift.j4 k x y up [] z C S i (rd L i) (i % (W + 1)) (i / (W + 1)) (nv W x y z up L i) L (L.length : Int) i W H L W H (N ++ L.drop i.toNat) := by
      intro k
      simp only [land_Shift.l0, wW, tm, td, hfar, Option.bind_some, zm, zp]
      rw [if_pos hi, if_pos i0, if_pos hi, if_neg wN]
      unfold nv
      split <;> rfl
    have hnew : ∀ q : Int, 0 ≤ q → q < i + 1 → rd (N ++ [nv W x y z up L i]) q = nv W x y z up L q := by
      intro q q0 q1
      by_cases e : q < i
      · rw [rd_app q0 (by omega)]; exact hv q q0 e
      · have : q = i := by omega
        rw [this, ← hN, rd_end, hN]
    have hlen : ((N ++ [nv W x y z up L i]).length : Int) = i + 1 := by simp; omega
    have tn : (i + 1).toNat = i.toNat + 1 := by omega
    have ti : ((i.toNat : Nat) : Int) = i := by omega
    obtain ⟨hS0, hS1, hS9⟩ := hS
    have mvs : mv (nv W x y z up L) (rd L) (i + 1).toNat = mv (nv W x y z up L) (rd L) i.toNat + df (nv W x y z up L i) (rd L i) := by rw [tn, mv, ti]
    by_cases hc : nv W x y z up L i = rd L i
    · obtain ⟨M, C2, S2, e1, e2⟩ := ih (i + 1) (N ++ [nv W x y z up L i]) C S (by omega) (by omega) hlen hnew (by omega) ⟨hS0, by omega, by rw [mvs, hc, df_self, Int.add_zero]; exact hS9⟩
      refine ⟨M, C2, S2, Ev.step la (Ev.step (fun _ => rfl) ?_), e2⟩
      simp only [land_Shift.j4, hc, if_true, w1]
      rw [tn, hc, List.append_assoc, List.singleton_append, ← drop_at i0 hi] at e1
      exact e1
    · have hx : 0 ≤ mx (nv W x y z up L i - rd L i) (rd L i - nv W x y z up L i) ∧ mx (nv W x y z up L i - rd L i) (rd L i - nv W x y z up L i) ≤ 15 := by unfold mx; split <;> omega
      have hS2 : wrap64 (S + wrap64 (mx (wrap64 (nv W x y z up L i - rd L i)) (wrap64 (rd L i - nv W x y z up L i)) * 250)) = S + mx (nv W x y z up L i - rd L i) (rd L i - nv W x y z up L i) * 250 := by
        rw [w64_in (x := nv W x y z up L i - rd L i) (by omega) (by omega), w64_in (x := rd L i - nv W x y z up L i) (by omega) (by omega), w64_in (x := mx (nv W x y z up L i - rd L i) (rd L i - nv W x y z up L i) * 250) (by omega) (by omega), w64_in (by omega) (by omega)]
      obtain ⟨M, C2, S2, e1, e2⟩ := ih (i + 1) (N ++ [nv W x y z up L i]) (C ++ [⟨i % (W + 1), i / (W + 1), nv W x y z up L i⟩]) (S + mx (nv W x y z up L i - rd L i) (rd L i - nv W x y z up L i) * 250) (by omega) (by omega) hlen hnew (by simp; omega) ⟨by omega, by omega, by rw [mvs, hS9]; unfold df; omega⟩
      have hCn : C.length < 5864062014805 := by omega
      have hML : i < ((N ++ L.drop i.toNat).length : Int) := by simp; omega
      have hset : (N ++ L.drop i.toNat).set i.toNat (nv W x y z up L i) = N ++ [nv W x y z up L i] ++ L.drop (i + 1).toNat := by
        rw [drop_at i0 hi, tn, List.append_assoc, List.singleton_append, List.set_append_right _ _ (by omega), show i.toNat - N.length = 0 by omega]
        rfl
      refine ⟨M, C2, S2, Ev.step la (Ev.step (fun _ => rfl) ?_), e2⟩
      simp only [land_Shift.j4, hc, if_false, i0, hML, hCn, if_true, w1, hset, hS2]
      exact e1
theorem shift_good {W H : Int} {L : List Int} (v : Valid W H L) {x y : Int} (x0 : 0 ≤ x ∧ x ≤ W) (y0 : 0 ≤ y ∧ y ≤ H) (up : Bool) {z : Int} (hzz : (if up = true then rd L (y * (W + 1) + x) + 1 else rd L (y * (W + 1) + x) - 1) = z) (z0 : 0 ≤ z ∧ z ≤ 15) : ∃ (M : List Int) (C2 : List S96) (S2 : Int), Ev (fun k => land_Shift.f k W H L x y up []) (W, H, M, C2, S2, 0) ∧ M.length = L.length ∧ (∀ q : Int, 0 ≤ q → q < (L.length : Int) → rd M q = nv W x y z up L q) ∧ (0 ≤ S2 ∧ S2 ≤ 32670000 ∧ S2 = 250 * mv (rd M) (rd L) L.length) := by
  obtain ⟨e, v1, v3⟩ := validate_ok W H L
  have he := v3.2 v
  rw [he] at v1
  have s := v.1
  obtain ⟨n0, n1⟩ := len_le s
  obtain ⟨sa, sb, sc, se, sf⟩ := id s
  obtain ⟨p0, p1⟩ := row_in (m := W + 1) y0.1 y0.2 (by omega)
  have hp : wrap64 (wrap64 (y * wrap64 (W + 1)) + x) = y * (W + 1) + x := by
    rw [w64_in (x := W + 1) (by omega) (by omega), w64_in (x := y * (W + 1)) (by omega) (by omega), w64_in (by omega) (by omega)]
  have q0 : 0 ≤ y * (W + 1) + x := by omega
  have q1 : y * (W + 1) + x < (L.length : Int) := by omega
  have hz := v.2.1 _ q0 q1
  have w1 : wrap64 (rd L (y * (W + 1) + x) - 1) = rd L (y * (W + 1) + x) - 1 := w64_in (by omega) (by omega)
  have w2 : wrap64 (rd L (y * (W + 1) + x) - 1 + 2) = rd L (y * (W + 1) + x) + 1 := by rw [w64_in (by omega) (by omega)]; omega
  obtain ⟨M, C2, S2, e1, e2⟩ := good_loop s v.2.1 x0 y0 z0 up L.length 0 [] [] 0 (by omega) (by omega) rfl (fun q a b => by omega) (by simp) ⟨by omega, by omega, rfl⟩
  rw [← mv_ext (f := rd M) (f' := nv W x y z up L) (g := rd L) L.length (fun q a b => e2.2.1 q a b)] at e2
  have hlen : ([] : List Int).length + L.length < 17592186044416 := by simp; omega
  refine ⟨M, C2, S2, ?_, e2⟩
  unfold land_Shift.f
  refine Ev.bind v1 ?_
  simp only [if_true, show ¬ x < 0 by omega, show ¬ x > W by omega, show ¬ y < 0 by omega, show ¬ y > H by omega, if_false, decide_false]
  have tail : Ev (fun k => land_Shift.j1 k x y up [] z W H L) (W, H, M, C2, S2, 0) := by
    refine Ev.step (fun _ => rfl) ?_
    simp only [land_Shift.j1, show ¬ z < 0 by omega, show ¬ z > 15 by omega, if_false, decide_false]
    refine Ev.step (fun _ => rfl) ?_
    simp only [land_Shift.j2, Bool.false_eq_true, if_false, hlen, if_true]
    exact e1
  refine Ev.step (fun _ => rfl) ?_
  simp only [land_Shift.j0, Bool.false_eq_true, if_false, hp, q0, q1, if_true, w1, w2]
  cases up with
  | true => simp only [if_true] at hzz ⊢; rw [hzz]; exact tail
  | false => simp only [Bool.false_eq_true, if_false] at hzz ⊢; rw [hzz]; exact tail
abbrev R := Int × Int × List Int × List S96 × Int × Int
def way (up : Bool) : Int := if up = true then 1 else -1
theorem shift_err {W H : Int} {L : List Int} {x y : Int} (up : Bool) (h : ¬ (Valid W H L ∧ (0 ≤ x ∧ x ≤ W) ∧ (0 ≤ y ∧ y ≤ H) ∧ 0 ≤ rd L (y * (W + 1) + x) + way up ∧ rd L (y * (W + 1) + x) + way up ≤ 15)) : ∃ e, ¬ e = 0 ∧ Ev (fun k => land_Shift.f k W H L x y up []) ((0, 0, [], [], 0, e) : R) := by
  obtain ⟨e, v1, v3⟩ := validate_ok W H L
  unfold land_Shift.f
  by_cases he : e = 0
  · have v := v3.1 he
    rw [he] at v1
    have s := v.1
    obtain ⟨n0, n1⟩ := len_le s
    obtain ⟨sa, sb, sc, se, sf⟩ := id s
    have bad : Ev (fun k => land_Shift.j0 k x y up [] true W H L) ((0, 0, [], [], 0, 2) : R) := by
      refine Ev.step (fun _ => rfl) ?_
      simp only [land_Shift.j0, if_true]; exact Ev.now _
    by_cases c1 : x < 0
    · refine ⟨2, by omega, Ev.bind v1 ?_⟩
      simp only [if_true, c1]; exact bad
    by_cases c2 : x > W
    · refine ⟨2, by omega, Ev.bind v1 ?_⟩
      simp only [if_true, c1, c2, if_false]; exact bad
    by_cases c3 : y < 0
    · refine ⟨2, by omega, Ev.bind v1 ?_⟩
      simp only [if_true, c1, c2, c3, if_false]; exact bad
    by_cases c4 : y > H
    · refine ⟨2, by omega, Ev.bind v1 ?_⟩
      simp only [if_true, c1, c2, c3, c4, if_false, decide_true]; exact bad
    obtain ⟨p0, p1⟩ := row_in (m := W + 1) (show 0 ≤ y by omega) (show y ≤ H by omega) (by omega)
    have hp : wrap64 (wrap64 (y * wrap64 (W + 1)) + x) = y * (W + 1) + x := by
      rw [w64_in (x := W + 1) (by omega) (by omega), w64_in (x := y * (W + 1)) (by omega) (by omega), w64_in (by omega) (by omega)]
    have q0 : 0 ≤ y * (W + 1) + x := by omega
    have q1 : y * (W + 1) + x < (L.length : Int) := by omega
    have hzz := v.2.1 _ q0 q1
    have w1 : wrap64 (rd L (y * (W + 1) + x) - 1) = rd L (y * (W + 1) + x) - 1 := w64_in (by omega) (by omega)
    have w2 : wrap64 (rd L (y * (W + 1) + x) - 1 + 2) = rd L (y * (W + 1) + x) + 1 := by rw [w64_in (by omega) (by omega)]; omega
    have hb : ¬ (0 ≤ rd L (y * (W + 1) + x) + way up ∧ rd L (y * (W + 1) + x) + way up ≤ 15) := fun c => h ⟨v, by omega, by omega, c⟩
    have tail : ∀ z : Int, z = rd L (y * (W + 1) + x) + way up → Ev (fun k => land_Shift.j1 k x y up [] z W H L) ((0, 0, [], [], 0, 6) : R) := by
      intro z hz
      rw [← hz] at hb
      have stop : Ev (fun k => land_Shift.j2 k x y up [] z true W H L) ((0, 0, [], [], 0, 6) : R) := by
        refine Ev.step (fun _ => rfl) ?_
        simp only [land_Shift.j2, if_true]; exact Ev.now _
      refine Ev.step (fun _ => rfl) ?_
      by_cases d1 : z < 0
      · simp only [land_Shift.j1, d1, if_true]; exact stop
      · have d2 : z > 15 := by omega
        simp only [land_Shift.j1, d1, d2, if_false, decide_true]; exact stop
    refine ⟨6, by omega, Ev.bind v1 ?_⟩
    simp only [if_true, c1, c2, c3, c4, if_false, decide_false]
    refine Ev.step (fun _ => rfl) ?_
    simp only [land_Shift.j0, Bool.false_eq_true, if_false, hp, q0, q1, if_true, w1, w2]
    cases up with
    | true => simp only [if_true]; exact tail _ rfl
    | false => simp only [Bool.false_eq_true, if_false]; exact tail _ rfl
  · refine ⟨e, he, Ev.bind v1 ?_⟩
    simp only [he, if_false]; exact Ev.now _
abbrev FL := Int × Int × List Int × Int × Int
/-- What a land is made into: a land, paid for. -/
def Fin (W H : Int) (L : List Int) (r : FL) : Prop := ∃ (N : List Int) (S : Int), r = (W, H, N, S, 0) ∧ Valid W H N ∧ 250 * mv (rd N) (rd L) L.length ≤ S ∧ S ≤ 2000000000
theorem flat_l3 {W H ht : Int} (hh : 0 ≤ ht ∧ ht ≤ 15) {T : List Int} {L0 : List Int} {cx cy p B : Int} (s : Sides W H L0) (hB : 0 ≤ B ∧ B ≤ 1500000000) (x0 : 0 ≤ cx) (x1 : cx ≤ W) (y0 : 0 ≤ cy) (y1 : cy ≤ H) (hp : p = cy * (W + 1) + cx) (j ix q0 q1 q2 q3 q4 q5 q6 q7 : Int)
    (cont : ∀ (S : Int) (N : List Int), Valid W H N → (250 * mv (rd N) (rd L0) L0.length ≤ S ∧ S ≤ B + 500000000) → ∃ r, Ev (fun k => land_Level.l2 k ht [] S T (T.length : Int) j (wrap64 (ix + 1)) W H L0 W H N q0 q1 q2 q3 q4 q5 q6 q7) r ∧ Fin W H L0 r) :
    ∀ (d : Nat) (N : List Int) (S : Int), d ≤ 15 → Valid W H N → (ht - rd N p).natAbs = d → (250 * mv (rd N) (rd L0) L0.length ≤ S ∧ S + 32670000 * d ≤ B + 500000000) → ∃ r, Ev (fun k => land_Level.l3 k ht [] S T (T.length : Int) j ix W H L0 W H N cx cy q0 q1 q2 q3 q4 q5 q6 q7) r ∧ Fin W H L0 r := by
  obtain ⟨n0, n1⟩ := len_le s
  obtain ⟨sa, sb, sc, se, sf⟩ := id s
  obtain ⟨r0, r1⟩ := row_in (m := W + 1) y0 y1 (by omega)
  have pw : wrap64 (wrap64 (cy * wrap64 (W + 1)) + cx) = p := by
    rw [w64_in (x := W + 1) (by omega) (by omega), w64_in (x := cy * (W + 1)) (by omega) (by omega), w64_in (by omega) (by omega)]; exact hp.symm
  have pa : 0 ≤ p := by omega
  have pb : p < (L0.length : Int) := by omega
  intro d; induction d with
  | zero =>
    intro N S _ v hd hS
    have he : rd N p = ht := by omega
    have pc : p < (N.length : Int) := by have := v.1.2.2.2.2; omega
    obtain ⟨r, e1, e2⟩ := cont S N v (by omega)
    refine ⟨r, Ev.step (fun _ => rfl) ?_, e2⟩
    simp only [land_Level.l3, pw, pa, pc, he, if_true]
    exact e1
  | succ d ih =>
    intro N S hd15 v hd hS
    have he : ¬ rd N p = ht := by omega
    have hNL : (N.length : Int) = (L0.length : Int) := by have := v.1.2.2.2.2; omega
    have hNL' : N.length = L0.length := by omega
    have pc : p < (N.length : Int) := by omega
    have hb := v.2.1 p pa pc
    have hz : 0 ≤ (if decide (rd N p < ht) = true then rd N p + 1 else rd N p - 1) ∧ (if decide (rd N p < ht) = true then rd N p + 1 else rd N p - 1) ≤ 15 := by
      by_cases h1 : rd N p < ht
      · simp only [h1, decide_true, if_true]; omega
      · simp only [h1, decide_false, Bool.false_eq_true, if_false]; omega
    obtain ⟨M, C2, S2, e1, m1, m2, m3, m4, m5⟩ := shift_good v ⟨x0, x1⟩ ⟨y0, y1⟩ (decide (rd N p < ht)) (z := if decide (rd N p < ht) = true then rd N p + 1 else rd N p - 1) (by rw [← hp]) hz
    have vM := nv_valid v hz (decide (rd N p < ht)) m1 m2
    have hM : rd M p = (if decide (rd N p < ht) = true then rd N p + 1 else rd N p - 1) := by
      rw [m2 p pa pc]
      unfold nv
      rw [hp, dist_self (by omega) x0 x1, ← hp]
      by_cases h1 : rd N p < ht
      · simp only [h1, decide_true, if_true]; unfold mx; split <;> omega
      · simp only [h1, decide_false, Bool.false_eq_true, if_false]; unfold mn; split <;> omega
    rw [hNL'] at m5
    have nn := mv_nn (rd N) (rd L0) L0.length
    have tri := mv_tri (rd M) (rd N) (rd L0) L0.length
    have wS : wrap64 (S + S2) = S + S2 := w64_in (by omega) (by omega)
    obtain ⟨r, f1, f2⟩ := ih M (S + S2) (by omega) vM (by
      by_cases h1 : rd N p < ht
      · simp only [h1, decide_true, if_true] at hM; omega
      · simp only [h1, decide_false, Bool.false_eq_true, if_false] at hM; omega) (by omega)
    refine ⟨r, Ev.step (fun _ => rfl) ?_, f2⟩
    simp only [land_Level.l3, pw, pa, pc, he, if_true, if_false]
    refine Ev.bind e1 ?_
    simp only [if_true, wS]; exact f1
theorem level_good {W H t ht : Int} {L : List Int} (v : Valid W H L) (tt : isT W H t) (hh : 0 ≤ ht ∧ ht ≤ 15) : ∃ r, Ev (fun k => land_Level.f k W H L [t] ht []) r ∧ Fin W H L r := by
  obtain ⟨e, v1, v3⟩ := validate_ok W H L
  have he := v3.2 v
  rw [he] at v1
  have s := v.1
  obtain ⟨n0, n1⟩ := len_le s
  obtain ⟨sa, sb, sc, se, sf⟩ := id s
  obtain ⟨a0, a1, b0, b1, e'⟩ := tile_xy s tt
  have W0 : ¬ W = 0 := by omega
  have t0 := tt.1
  have tx : Int.tmod t W = t % W := Int.tmod_eq_emod_of_nonneg t0
  have ty : wrap64 (Int.tdiv t W) = t / W := by
    have : t < 1024 := by have := tt.2; have := Int.mul_le_mul sb se (by omega) (by omega); omega
    rw [Int.tdiv_eq_ediv_of_nonneg t0, w64_in (by omega) (by omega)]
  have tx1 : wrap64 (t % W + 1) = t % W + 1 := w64_in (by omega) (by omega)
  have ty1 : wrap64 (t / W + 1) = t / W + 1 := w64_in (by omega) (by omega)
  have hin := pl_in s tt
  have hpl : pl W t = t / W * (W + 1) + t % W := rfl
  have one : (([t] : List Int).length : Int) = 1 := rfl
  have rt : rd [t] 0 = t := rfl
  have w01 : wrap64 (0 + 1) = 1 := w64_in (by omega) (by omega)
  have hn : ∀ N : List Int, Valid W H N → (N.length : Int) = (L.length : Int) := fun N vn => by have := vn.1.2.2.2.2; omega
  have near15 : ∀ (N : List Int) (q : Int), Valid W H N → 0 ≤ q → q < (L.length : Int) → (ht - rd N q).natAbs ≤ 15 := fun N q vn a b => by have := vn.2.1 q a (by have := hn N vn; omega); omega
  generalize hX : t % W = X at *
  generalize hY : t / W = Y at *
  have last : ∀ (S : Int) (N : List Int), Valid W H N → (250 * mv (rd N) (rd L) L.length ≤ S ∧ S ≤ 1500000000 + 500000000) → ∃ r, Ev (fun k => land_Level.l2 k ht [] S [t] (([t] : List Int).length : Int) 0 (wrap64 (3 + 1)) W H L W H N X Y (X + 1) Y (X + 1) (Y + 1) X (Y + 1)) r ∧ Fin W H L r := by
    intro S N vn hS
    refine ⟨(W, H, N, S, 0), Ev.step (fun _ => rfl) ?_, N, S, rfl, vn, by omega, by omega⟩
    rw [show wrap64 (3 + 1) = 4 from w64_in (by omega) (by omega)]
    simp only [land_Level.l2, show ¬ (4 : Int) < 4 by omega, if_false, w01]
    refine Ev.step (fun _ => rfl) ?_
    simp only [land_Level.l1, one, show ¬ (1 : Int) < 1 by omega, if_false]; exact Ev.now _
  have c3 : ∀ (S : Int) (N : List Int), Valid W H N → (250 * mv (rd N) (rd L) L.length ≤ S ∧ S ≤ 1000000000 + 500000000) → ∃ r, Ev (fun k => land_Level.l2 k ht [] S [t] (([t] : List Int).length : Int) 0 (wrap64 (2 + 1)) W H L W H N X Y (X + 1) Y (X + 1) (Y + 1) X (Y + 1)) r ∧ Fin W H L r := by
    intro S N vn hS
    have n15 := near15 N (pl W t + W + 1) vn (by omega) (by omega)
    obtain ⟨r, f1, f2⟩ := flat_l3 (T := [t]) hh (cx := X) (cy := Y + 1) (p := pl W t + W + 1) (B := 1500000000) s (by omega) (by omega) (by omega) (by omega) (by omega) (by rw [hpl, Int.add_mul]; omega) 0 3 X Y (X + 1) Y (X + 1) (Y + 1) X (Y + 1) last _ N S n15 vn rfl (by omega)
    refine ⟨r, Ev.step (fun _ => rfl) ?_, f2⟩
    rw [show wrap64 (2 + 1) = 3 from w64_in (by omega) (by omega)]
    simp only [land_Level.l2, show (3 : Int) < 4 by omega, show (0 : Int) ≤ 3 by omega, if_true]
    exact f1
  have c2 : ∀ (S : Int) (N : List Int), Valid W H N → (250 * mv (rd N) (rd L) L.length ≤ S ∧ S ≤ 500000000 + 500000000) → ∃ r, Ev (fun k => land_Level.l2 k ht [] S [t] (([t] : List Int).length : Int) 0 (wrap64 (1 + 1)) W H L W H N X Y (X + 1) Y (X + 1) (Y + 1) X (Y + 1)) r ∧ Fin W H L r := by
    intro S N vn hS
    have n15 := near15 N (pl W t + W + 2) vn (by omega) (by omega)
    obtain ⟨r, f1, f2⟩ := flat_l3 (T := [t]) hh (cx := X + 1) (cy := Y + 1) (p := pl W t + W + 2) (B := 1000000000) s (by omega) (by omega) (by omega) (by omega) (by omega) (by rw [hpl, Int.add_mul]; omega) 0 2 X Y (X + 1) Y (X + 1) (Y + 1) X (Y + 1) c3 _ N S n15 vn rfl (by omega)
    refine ⟨r, Ev.step (fun _ => rfl) ?_, f2⟩
    rw [show wrap64 (1 + 1) = 2 from w64_in (by omega) (by omega)]
    simp only [land_Level.l2, show (2 : Int) < 4 by omega, show (0 : Int) ≤ 2 by omega, if_true]
    exact f1
  have c1 : ∀ (S : Int) (N : List Int), Valid W H N → (250 * mv (rd N) (rd L) L.length ≤ S ∧ S ≤ 0 + 500000000) → ∃ r, Ev (fun k => land_Level.l2 k ht [] S [t] (([t] : List Int).length : Int) 0 (wrap64 (0 + 1)) W H L W H N X Y (X + 1) Y (X + 1) (Y + 1) X (Y + 1)) r ∧ Fin W H L r := by
    intro S N vn hS
    have n15 := near15 N (pl W t + 1) vn (by omega) (by omega)
    obtain ⟨r, f1, f2⟩ := flat_l3 (T := [t]) hh (cx := X + 1) (cy := Y) (p := pl W t + 1) (B := 500000000) s (by omega) (by omega) (by omega) (by omega) (by omega) (by rw [hpl]; omega) 0 1 X Y (X + 1) Y (X + 1) (Y + 1) X (Y + 1) c2 _ N S n15 vn rfl (by omega)
    refine ⟨r, Ev.step (fun _ => rfl) ?_, f2⟩
    rw [w01]
    simp only [land_Level.l2, show (1 : Int) < 4 by omega, show (0 : Int) ≤ 1 by omega, if_true]
    exact f1
  have n15 := near15 L (pl W t) v (by omega) (by omega)
  obtain ⟨r, f1, f2⟩ := flat_l3 (T := [t]) hh (cx := X) (cy := Y) (p := pl W t) (B := 0) s (by omega) (by omega) (by omega) (by omega) (by omega) hpl 0 0 X Y (X + 1) Y (X + 1) (Y + 1) X (Y + 1) c1 _ L 0 n15 v rfl (by rw [mv_self]; omega)
  have hlen : ([] : List Int).length + L.length < 17592186044416 := by simp; omega
  refine ⟨r, ?_, f2⟩
  unfold land_Level.f
  refine Ev.bind v1 ?_
  simp only [if_true, show ¬ ht < 0 by omega, show ¬ ht > 15 by omega, if_false, one, show ¬ (1 : Int) > 1000 by omega, decide_false]
  refine Ev.step (fun _ => rfl) ?_
  simp only [land_Level.j0, Bool.false_eq_true, if_false, one]
  refine Ev.step (fun _ => rfl) ?_
  simp only [land_Level.l0, one, show (0 : Int) < 1 by omega, show (0 : Int) ≤ 0 by omega, if_true, rt, isTile_ok s, tt, decide_true, Option.bind_some, w01]
  refine Ev.step (fun _ => rfl) ?_
  simp only [land_Level.l0, one, show ¬ (1 : Int) < 1 by omega, if_false, hlen, if_true, List.nil_append]
  refine Ev.step (fun _ => rfl) ?_
  simp only [land_Level.l1, one, show (0 : Int) < 1 by omega, show (0 : Int) ≤ 0 by omega, if_true, W0, if_false, rt, tx, ty, tx1, ty1]
  refine Ev.step (fun _ => rfl) ?_
  simp only [land_Level.l2, show (0 : Int) < 4 by omega, show (0 : Int) ≤ 0 by omega, if_true]
  exact f1
theorem level_bad {W H t ht : Int} {L : List Int} (h : ¬ (Valid W H L ∧ isT W H t ∧ 0 ≤ ht ∧ ht ≤ 15)) : ∃ e, ¬ e = 0 ∧ Ev (fun k => land_Level.f k W H L [t] ht []) ((0, 0, [], 0, e) : FL) := by
  obtain ⟨e, v1, v3⟩ := validate_ok W H L
  have one : (([t] : List Int).length : Int) = 1 := rfl
  have rt : rd [t] 0 = t := rfl
  unfold land_Level.f
  by_cases he : e = 0
  · have v := v3.1 he
    rw [he] at v1
    have bad : Ev (fun k => land_Level.j0 k [t] ht [] true W H L) ((0, 0, [], 0, 1) : FL) := by
      refine Ev.step (fun _ => rfl) ?_
      simp only [land_Level.j0, if_true]; exact Ev.now _
    by_cases h1 : ht < 0
    · refine ⟨1, by omega, Ev.bind v1 ?_⟩
      simp only [if_true, h1]; exact bad
    by_cases h2 : ht > 15
    · refine ⟨1, by omega, Ev.bind v1 ?_⟩
      simp only [if_true, h1, h2, if_false]; exact bad
    · have nt : ¬ isT W H t := fun c => h ⟨v, c, by omega, by omega⟩
      refine ⟨2, by omega, Ev.bind v1 ?_⟩
      simp only [if_true, h1, h2, if_false, one, show ¬ (1 : Int) > 1000 by omega, decide_false]
      refine Ev.step (fun _ => rfl) ?_
      simp only [land_Level.j0, Bool.false_eq_true, if_false, one]
      refine Ev.step (fun _ => rfl) ?_
      simp only [land_Level.l0, one, show (0 : Int) < 1 by omega, show (0 : Int) ≤ 0 by omega, if_true, rt, isTile_ok v.1, nt, decide_false, Option.bind_some, Bool.false_eq_true, if_false]; exact Ev.now _
  · refine ⟨e, he, Ev.bind v1 ?_⟩
    simp only [he, if_false]; exact Ev.now _
end Go.Proofs.YtldbkigenaakkaaGreatDoor.Shf
namespace Go.Proofs.YtldbkigenaakkaaGreatDoor.Riv
open Go.RowKit Go.Proofs.YtldbkigenaakkaaGreatDoorOwn Go.Proofs.YtldbkigenaakkaaGreatDoor.Q Go.Proofs.YtldbkigenaakkaaGreatDoor.Val Go.Proofs.YtldbkigenaakkaaGreatDoor.Til Go.Proofs.YtldbkigenaakkaaGreatDoorW.PrintWords Go.Proofs.YtldbkigenaakkaaGreatDoorW.PrintLast
def tow (W H x y : Int) : Int := if x < 0 ∨ x ≥ W ∨ y < 0 ∨ y ≥ H then -1 else y * W + x
def bey (W H t s : Int) : Int := if s = 0 then tow W H (t % W + 1) (t / W) else if s = 1 then tow W H (t % W) (t / W + 1) else if s = 2 then tow W H (t % W - 1) (t / W) else tow W H (t % W) (t / W - 1)
def T (W : Int) (L : List Int) (t : Int) : Int := rd L (pl W t) + rd L (pl W t + 1) + rd L (pl W t + W + 2) + rd L (pl W t + W + 1)
theorem tile_of {W H : Int} {L : List Int} (s : Sides W H L) {x y : Int} (x0 : 0 ≤ x) (x1 : x < W) (y0 : 0 ≤ y) (y1 : y < H) : isT W H (y * W + x) ∧ (y * W + x) % W = x ∧ (y * W + x) / W = y := by
  obtain ⟨a, b, c, e, f⟩ := s
  refine ⟨⟨?_, ?_⟩, ?_, ?_⟩
  · have := Int.mul_nonneg y0 (show 0 ≤ W by omega); omega
  · have := Int.mul_le_mul_of_nonneg_right (show y + 1 ≤ H by omega) (show 0 ≤ W by omega)
    rw [Int.add_mul, Int.one_mul, Int.mul_comm H W] at this; omega
  · rw [Int.add_comm, Int.add_mul_emod_self_right, Int.emod_eq_of_lt x0 x1]
  · rw [Int.add_comm, Int.add_mul_ediv_right _ _ (by omega), Int.ediv_eq_zero_of_lt x0 x1]; omega
theorem tow_in {W H : Int} {L : List Int} (s : Sides W H L) (x y : Int) : tow W H x y = -1 ∨ (0 ≤ tow W H x y ∧ isT W H (tow W H x y)) := by
  unfold tow
  by_cases h : x < 0 ∨ x ≥ W ∨ y < 0 ∨ y ≥ H
  · rw [if_pos h]; exact Or.inl rfl
  · rw [if_neg h]
    have := (tile_of s (x := x) (y := y) (by omega) (by omega) (by omega) (by omega)).1
    exact Or.inr ⟨this.1, this⟩
theorem bey_in {W H : Int} {L : List Int} (s : Sides W H L) (t i : Int) : bey W H t i = -1 ∨ (0 ≤ bey W H t i ∧ isT W H (bey W H t i)) := by
  unfold bey
  (repeat' split) <;> exact tow_in s _ _
theorem sj0 {W H : Int} {L : List Int} (s : Sides W H L) (x y : Int) (k : Nat) : land_step.j0 (k + 1 + 1) x y W H L = some (tow W H x y) := by
  have ha := area s
  simp only [land_step.j0, land_step.j1]
  unfold tow
  by_cases c1 : x < 0
  · rw [if_pos c1, if_pos trivial, if_pos (by omega)]
  by_cases c2 : x ≥ W
  · rw [if_neg c1, if_pos c2, if_pos trivial, if_pos (by omega)]
  by_cases c3 : y < 0
  · rw [if_neg c1, if_neg c2, if_pos c3, if_pos trivial, if_pos (by omega)]
  by_cases c4 : y ≥ H
  · rw [if_neg c1, if_neg c2, if_neg c3, if_pos (decide_eq_true c4), if_pos (by omega)]
  rw [if_neg c1, if_neg c2, if_neg c3, if_neg (by simp; omega), if_neg (by omega)]
  obtain ⟨⟨p0, p1⟩, _⟩ := tile_of s (x := x) (y := y) (by omega) (by omega) (by omega) (by omega)
  obtain ⟨a, b, c, e, f⟩ := s
  have h1 := Int.mul_le_mul b e (by omega) (by omega)
  rw [w64_in (x := y * W) (by omega) (by omega), w64_in (by omega) (by omega)]
theorem wxy {W H : Int} {L : List Int} (s : Sides W H L) {t : Int} (ht : isT W H t) : Int.tmod t W = t % W ∧ wrap64 (Int.tdiv t W) = t / W ∧ wrap64 (t % W + 1) = t % W + 1 ∧ wrap64 (t % W - 1) = t % W - 1 ∧ wrap64 (t / W + 1) = t / W + 1 ∧ wrap64 (t / W - 1) = t / W - 1 := by
  obtain ⟨y0, y1, x0, x1, _⟩ := tile_xy s ht
  obtain ⟨a, b, c, e, f⟩ := s
  refine ⟨Int.tmod_eq_emod_of_nonneg ht.1, ?_, ?_, ?_, ?_, ?_⟩
  · rw [Int.tdiv_eq_ediv_of_nonneg ht.1, w64_in (by omega) (by omega)]
  all_goals exact w64_in (by omega) (by omega)
theorem step_ok {W H : Int} {L : List Int} (s : Sides W H L) {t : Int} (ht : isT W H t) (i : Int) : Ev (fun k => land_step.f k W H L t i) (bey W H t i) := by
  refine ⟨2, fun k hk => ?_⟩
  obtain ⟨k, rfl⟩ : ∃ m, k = m + 1 + 1 := ⟨k - 2, by omega⟩
  obtain ⟨m0, m1, m2, m3, m4, m5⟩ := wxy s ht
  have := s.1
  show land_step.f (k + 1 + 1) W H L t i = _
  unfold land_step.f bey
  rw [if_neg (by omega), m0, m1, m2, m3, m4, m5]
  simp only [sj0 s]
  (repeat' split) <;> rfl
theorem T_in {W H : Int} {L : List Int} (v : Valid W H L) {t : Int} (ht : isT W H t) : 0 ≤ T W L t ∧ T W L t ≤ 60 ∧ land_sum.f W H L t = some (T W L t) := by
  obtain ⟨i0, i1⟩ := pl_in v.1 ht
  have hf := four_ok v.1 rfl ht
  obtain ⟨a, b, c, e, f⟩ := v.1
  have h0 := v.2.1 (pl W t) (by omega) (by omega)
  have h1 := v.2.1 (pl W t + 1) (by omega) (by omega)
  have h2 := v.2.1 (pl W t + W + 2) (by omega) (by omega)
  have h3 := v.2.1 (pl W t + W + 1) (by omega) (by omega)
  unfold T
  refine ⟨by omega, by omega, ?_⟩
  unfold land_sum.f
  rw [hf]
  simp only [Option.bind_some]
  rw [w64_in (x := rd L (pl W t) + rd L (pl W t + 1)) (by omega) (by omega), w64_in (x := rd L (pl W t) + rd L (pl W t + 1) + rd L (pl W t + W + 2)) (by omega) (by omega), w64_in (by omega) (by omega)]
/-- Whether a tile is wet. -/
def wt (W : Int) (L : List Int) (t : Int) : Bool := decide (mx (mx (mx (rd L (pl W t)) (rd L (pl W t + 1))) (rd L (pl W t + W + 2))) (rd L (pl W t + W + 1)) ≤ 2)
theorem wet_is {W H : Int} {L : List Int} (s : Sides W H L) {t : Int} (ht : isT W H t) : land_wet.f W H L t = some (wt W L t) := by
  unfold land_wet.f
  rw [four_ok s rfl ht]; rfl
theorem check_ok (W H : Int) (L : List Int) (t : Int) : ∃ r, (r = 0 ↔ (Valid W H L ∧ isT W H t)) ∧ Ev (fun k => land_check.f k W H L t) r := by
  obtain ⟨e, h1, h2⟩ := validate_ok W H L
  unfold land_check.f
  by_cases he : e = 0
  · have v := h2.1 he
    rw [he] at h1
    refine ⟨if isT W H t then 0 else 2, ?_, Ev.bind h1 ?_⟩
    · by_cases ht : isT W H t <;> simp [ht, v]
    · simp only [if_true, isTile_ok v.1, Option.bind_some]
      by_cases ht : isT W H t <;> simp [ht] <;> exact Ev.now _
  · refine ⟨e, ⟨fun a => absurd a he, fun a => absurd (h2.2 a.1) he⟩, Ev.bind h1 ?_⟩
    simp only [he, if_false]; exact Ev.now _
/-- A way that falls. -/
def Falls (W H : Int) (L : List Int) : Int → List Int → Prop
  | t, [] => isT W H t ∧ (wt W L t = true ∨ ∀ s, 0 ≤ s → s < 4 → 0 ≤ bey W H t s → ¬ T W L (bey W H t s) < T W L t)
  | t, b :: l => isT W H t ∧ wt W L t = false ∧ (∃ s, 0 ≤ s ∧ s < 4 ∧ bey W H t s = b) ∧ 0 ≤ b ∧ T W L b < T W L t ∧ Falls W H L b l
theorem river_falls {W H : Int} {L : List Int} (v : Valid W H L) : ∀ (n : Nat) (t : Int) (l : List Int), isT W H t → T W L t ≤ n → l.length + n ≤ 90 → ∃ l' : List Int, (l ++ l').length ≤ 90 ∧ Falls W H L t l' ∧ Ev (fun k => land_River.l0 k t l W H L) (l ++ l', 0) := by
  intro n
  induction n using Nat.strongRecOn with
  | _ n IH =>
    intro t l ht hn hl
    obtain ⟨t0, t1, hs⟩ := T_in v ht
    have w1 := wet_is v.1 ht
    cases hw : wt W L t with
    | true =>
      refine ⟨[], by simp; omega, ⟨ht, Or.inl hw⟩, ?_⟩
      rw [List.append_nil]
      refine Ev.step (fun _ => rfl) ?_
      simp only [land_River.l0, w1, Option.bind_some, hw, if_true]; exact Ev.now _
    | false =>
      have inner : ∀ (d : Nat) (s b : Int), 0 ≤ s → s + d = 4 → ((b = -1 ∧ ∀ s', 0 ≤ s' → s' < s → 0 ≤ bey W H t s' → ¬ T W L (bey W H t s') < T W L t) ∨ (0 ≤ b ∧ isT W H b ∧ T W L b < T W L t ∧ ∃ s', 0 ≤ s' ∧ s' < 4 ∧ bey W H t s' = b)) → ∃ l' : List Int, (l ++ l').length ≤ 90 ∧ Falls W H L t l' ∧ Ev (fun k => land_River.l1 k t l b s W H L) (l ++ l', 0) := by
        intro d; induction d with
        | zero =>
          intro s b s0 sd hb
          have hs4 : ¬ s < 4 := by omega
          rcases hb with ⟨rfl, hno⟩ | ⟨b0, bT, bl, hfrom⟩
          · refine ⟨[], by simp; omega, ⟨ht, Or.inr (fun s' a b c => hno s' a (by omega) c)⟩, ?_⟩
            rw [List.append_nil]
            refine Ev.step (fun _ => rfl) ?_
            simp only [land_River.l1, hs4, if_false]; exact Ev.now _
          · have hb' : ¬ b < 0 := by omega
            obtain ⟨t0', _⟩ := T_in v bT
            have hll : l.length < 17592186044416 := by omega
            obtain ⟨l', e1, e2, e3⟩ := IH (T W L b).toNat (by omega) b (l ++ [b]) bT (by omega) (by simp; omega)
            rw [List.append_assoc, List.singleton_append] at e1 e3
            refine ⟨b :: l', e1, ⟨ht, hw, hfrom, b0, bl, e2⟩, ?_⟩
            refine Ev.step (fun _ => rfl) ?_
            simp only [land_River.l1, hs4, hb', hll, if_false, if_true]; exact e3
        | succ d ih =>
          intro s b s0 sd hb
          have hs4 : s < 4 := by omega
          have ws : wrap64 (s + 1) = s + 1 := w64_in (by omega) (by omega)
          have h1 := step_ok v.1 ht s
          rcases bey_in v.1 t s with hbe | ⟨be0, beT⟩
          · rw [hbe] at h1
            obtain ⟨l', e1, e2, e3⟩ := ih (s + 1) b (by omega) (by omega) (hb.imp (fun h => ⟨h.1, fun s' a b c => by
              by_cases e : s' = s
              · subst e; rw [hbe] at c; omega
              · exact h.2 s' a (by omega) c⟩) id)
            refine ⟨l', e1, e2, ?_⟩
            refine Ev.step (fun _ => rfl) ?_
            simp only [land_River.l1, hs4, if_true]
            refine Ev.bind h1 ?_
            refine Ev.step (fun _ => rfl) ?_
            simp only [land_River.j2, show ¬ (-1 : Int) ≥ 0 by omega, if_false, ws]
            exact e3
          · generalize hq : bey W H t s = q at *
            obtain ⟨q0, q1, qs⟩ := T_in v beT
            have be0' : q ≥ 0 := be0
            by_cases hqt : T W L q < T W L t
            · have take : ∃ l' : List Int, (l ++ l').length ≤ 90 ∧ Falls W H L t l' ∧ Ev (fun k => land_River.l1 k t l q (s + 1) W H L) (l ++ l', 0) := ih (s + 1) q (by omega) (by omega) (Or.inr ⟨be0, beT, hqt, s, s0, hs4, hq⟩)
              rcases hb with ⟨rfl, hno⟩ | ⟨b0, bT, bl, hfrom⟩
              · obtain ⟨l', e1, e2, e3⟩ := take
                refine ⟨l', e1, e2, ?_⟩
                refine Ev.step (fun _ => rfl) ?_
                simp only [land_River.l1, hs4, if_true]
                refine Ev.bind h1 ?_
                simp only [be0', if_true, qs, hs, Option.bind_some, hqt]
                refine Ev.step (fun _ => rfl) ?_
                simp only [land_River.j2, show (-1 : Int) < 0 by omega, if_true, ws]
                exact e3
              · have hb' : ¬ b < 0 := by omega
                obtain ⟨_, _, bs⟩ := T_in v bT
                by_cases hc : T W L q < T W L b
                · obtain ⟨l', e1, e2, e3⟩ := take
                  refine ⟨l', e1, e2, ?_⟩
                  refine Ev.step (fun _ => rfl) ?_
                  simp only [land_River.l1, hs4, if_true]
                  refine Ev.bind h1 ?_
                  simp only [be0', if_true, qs, hs, Option.bind_some, hqt, hb', if_false, bs, hc, decide_true]
                  refine Ev.step (fun _ => rfl) ?_
                  simp only [land_River.j2, if_true, ws]
                  exact e3
                · obtain ⟨l', e1, e2, e3⟩ := ih (s + 1) b (by omega) (by omega) (Or.inr ⟨b0, bT, bl, hfrom⟩)
                  refine ⟨l', e1, e2, ?_⟩
                  refine Ev.step (fun _ => rfl) ?_
                  simp only [land_River.l1, hs4, if_true]
                  refine Ev.bind h1 ?_
                  simp only [be0', if_true, qs, hs, Option.bind_some, hqt, hb', if_false, bs, hc, decide_false]
                  refine Ev.step (fun _ => rfl) ?_
                  simp only [land_River.j2, ws]
                  exact e3
            · obtain ⟨l', e1, e2, e3⟩ := ih (s + 1) b (by omega) (by omega) (hb.imp (fun h => ⟨h.1, fun s' a b c => by
                by_cases e : s' = s
                · subst e; rw [hq]; exact hqt
                · exact h.2 s' a (by omega) c⟩) id)
              refine ⟨l', e1, e2, ?_⟩
              refine Ev.step (fun _ => rfl) ?_
              simp only [land_River.l1, hs4, if_true]
              refine Ev.bind h1 ?_
              simp only [be0', if_true, qs, hs, Option.bind_some, hqt, if_false]
              refine Ev.step (fun _ => rfl) ?_
              simp only [land_River.j2, ws]
              exact e3
      obtain ⟨l', e1, e2, e3⟩ := inner 4 0 (-1) (by omega) (by omega) (Or.inl ⟨rfl, fun s' a b => by omega⟩)
      refine ⟨l', e1, e2, ?_⟩
      refine Ev.step (fun _ => rfl) ?_
      simp only [land_River.l0, w1, Option.bind_some, hw]; exact e3
theorem river_is (W H : Int) (L : List Int) (t : Int) : ∃ (l : List Int) (e : Int), Ev (fun k => land_River.f k W H L t) (l, e) ∧ (e = 0 → Valid W H L ∧ ∃ l', l = t :: l' ∧ l.length ≤ 90 ∧ Falls W H L t l') := by
  obtain ⟨r, h1, h2⟩ := check_ok W H L t
  unfold land_River.f
  by_cases hr : r = 0
  · obtain ⟨v, ht⟩ := h1.1 hr
    rw [hr] at h2
    have := T_in v ht
    obtain ⟨l, e1, e2, e3⟩ := river_falls v 60 t [t] ht (by omega) (by simp)
    refine ⟨t :: l, 0, Ev.bind h2 ?_, fun _ => ⟨v, l, rfl, by simpa using e1, e2⟩⟩
    simp only [if_true]; exact e3
  · refine ⟨[], r, Ev.bind h2 ?_, fun e => absurd e hr⟩
    simp only [hr, if_false]; exact Ev.now _
end Go.Proofs.YtldbkigenaakkaaGreatDoor.Riv
namespace Go.Proofs.YtldbkigenaakkaaGreatDoor.Byt
open Go.RowKit Go.Proofs.YtldbkigenaakkaaGreatDoorOwn Go.Proofs.YtldbkigenaakkaaGreatDoorW.PrintWords Go.Proofs.YtldbkigenaakkaaGreatDoorW.PrintLast
theorem loop_len (s : ByteArray) : ∀ (d i : Nat) (r : List UInt8), i + d = s.size → (ByteArray.toList.loop s i r).length = d + r.length := by
  intro d; induction d with
  | zero => intro i r h; rw [ByteArray.toList.loop, if_neg (by omega)]; simp
  | succ d ih => intro i r h; rw [ByteArray.toList.loop, if_pos (by omega), ih (i + 1) _ (by omega), List.length_cons]; omega
theorem empty_iff (s : ByteArray) : s.toList = ([] : List UInt8) ↔ s.size = 0 := by
  have h := loop_len s s.size 0 [] (by omega)
  have e : (s.toList).length = s.size := by unfold ByteArray.toList; simpa using h
  constructor
  · intro h'; rw [h'] at e; simpa using e.symm
  · intro h'; exact List.eq_nil_of_length_eq_zero (by omega)
theorem row_size (s : ByteArray) {p e : Int} (p0 : 0 ≤ p) (h : p ≤ e) (he : e ≤ (s.size : Int)) : ((s.extract p.toNat e.toNat).size : Int) = e - p := by
  rw [ByteArray.size_extract]; omega
theorem row_bt (s : ByteArray) {p e k : Int} (p0 : 0 ≤ p) (k0 : 0 ≤ k) (h : p + k < e) (he : e ≤ (s.size : Int)) : bt (s.extract p.toNat e.toNat) k = bt s (p + k) := by
  have h1 : k.toNat < (s.extract p.toNat e.toNat).size := by rw [ByteArray.size_extract]; omega
  have h2 : (p + k).toNat < s.size := by omega
  rw [← bt_at _ _ h1, ← bt_at _ _ h2, ByteArray.getElem_extract]
  simp only [show p.toNat + k.toNat = (p + k).toNat by omega]
end Go.Proofs.YtldbkigenaakkaaGreatDoor.Byt
namespace Go.Proofs.YtldbkigenaakkaaGreatDoor.Par
open Go.RowKit Go.Proofs.YtldbkigenaakkaaGreatDoorOwn Go.Proofs.YtldbkigenaakkaaGreatDoor.Q Go.Proofs.YtldbkigenaakkaaGreatDoor.Val Go.Proofs.YtldbkigenaakkaaGreatDoor.Byt Go.Proofs.YtldbkigenaakkaaGreatDoorW.PrintWords Go.Proofs.YtldbkigenaakkaaGreatDoorW.PrintLast
abbrev R5 := Int × Int × List Int × Int × Int
def Let (X : ByteArray) (p e : Int) : Prop := ∀ j, p ≤ j → j < e → 97 ≤ bt X j ∧ bt X j ≤ 112
def vs (X : ByteArray) : Int → Nat → List Int
  | _, 0 => []
  | p, d + 1 => (bt X p - 97) % 256 :: vs X (p + 1) d
def err (m : Int) : R5 := (0, 0, [], m + 1, 14)
theorem row_good {X : ByteArray} (hX : X.size ≤ 4001) {p e : Int} (p0 : 0 ≤ p) (pe : p ≤ e) (en : e < (X.size : Int)) {w : Int} {q m : Int} {r : R5} (hl : Let X p e) : ∀ (d : Nat) (k : Int) (N : List Int), 0 ≤ k → p + k + d = e → N.length + d ≤ 4001 → Ev (fun i => land_Parse.l0 i X w q m (X.size : Int) (e + 1) 0 0 (N ++ vs X (p + k) d)) r → Ev (fun i => land_Parse.l1 i X w q m (X.extract p.toNat e.toNat) (X.size : Int) e ((X.extract p.toNat e.toNat).size : Int) k 0 0 N) r := by
  have hs := row_size X p0 pe (by omega)
  have we : wrap64 (e + 1) = e + 1 := w64_in (by omega) (by omega)
  intro d; induction d with
  | zero =>
    intro k N k0 hd hN hr
    refine Ev.step (fun _ => rfl) ?_
    simp only [land_Parse.l1, hs, show ¬ k < e - p by omega, if_false, we]
    simpa [vs] using hr
  | succ d ih =>
    intro k N k0 hd hN hr
    have hb := row_bt X (k := k) p0 k0 (show p + k < e by omega) (by omega)
    have hle := hl (p + k) (by omega) (by omega)
    refine Ev.step (fun _ => rfl) ?_
    simp only [land_Parse.l1, hs, show k < e - p by omega, k0, if_true, hb, show ¬ bt X (p + k) < 97 by omega, if_false, show ¬ bt X (p + k) > 112 by omega, decide_false]
    refine Ev.step (fun _ => rfl) ?_
    simp only [land_Parse.j5, hs, show k < e - p by omega, k0, if_true, hb, show N.length < 17592186044416 by omega, show wrap64 (k + 1) = k + 1 from w64_in (by omega) (by omega), Bool.false_eq_true, if_false]
    have := ih (k + 1) (N ++ [(bt X (p + k) - 97) % 256]) (by omega) (by omega) (by simp; omega) (by
      rw [List.append_assoc, List.singleton_append, show p + (k + 1) = p + k + 1 by omega]
      exact hr)
    rw [hs] at this
    exact this
theorem row_bad {X : ByteArray} (hX : X.size ≤ 4001) {p e : Int} (p0 : 0 ≤ p) (pe : p ≤ e) (en : e < (X.size : Int)) {w : Int} {q m : Int} : ∀ (d : Nat) (k : Int) (N : List Int), 0 ≤ k → p + k + d = e → N.length + d ≤ 4001 → ¬ Let X (p + k) e → Ev (fun i => land_Parse.l1 i X w q (m + 1) (X.extract p.toNat e.toNat) (X.size : Int) e ((X.extract p.toNat e.toNat).size : Int) k 0 0 N) (err m) := by
  have hs := row_size X p0 pe (by omega)
  intro d; induction d with
  | zero => intro k N k0 hd hN hn; exact absurd (fun j a b => by omega) hn
  | succ d ih =>
    intro k N k0 hd hN hn
    have hb := row_bt X (k := k) p0 k0 (show p + k < e by omega) (by omega)
    by_cases hle : 97 ≤ bt X (p + k) ∧ bt X (p + k) ≤ 112
    · refine Ev.step (fun _ => rfl) ?_
      simp only [land_Parse.l1, hs, show k < e - p by omega, k0, if_true, hb, show ¬ bt X (p + k) < 97 by omega, if_false, show ¬ bt X (p + k) > 112 by omega, decide_false]
      refine Ev.step (fun _ => rfl) ?_
      simp only [land_Parse.j5, hs, show k < e - p by omega, k0, if_true, hb, show N.length < 17592186044416 by omega, show wrap64 (k + 1) = k + 1 from w64_in (by omega) (by omega), Bool.false_eq_true, if_false]
      have := ih (k + 1) (N ++ [(bt X (p + k) - 97) % 256]) (by omega) (by omega) (by simp; omega) (fun h => hn (fun j a b => by
        by_cases e' : j = p + k
        · rw [e']; exact hle
        · exact h j (by omega) b))
      rw [hs] at this
      exact this
    · refine ⟨2, fun i hi => ?_⟩
      obtain ⟨i, rfl⟩ : ∃ m, i = m + 1 + 1 := ⟨i - 2, by omega⟩
      show land_Parse.l1 (i + 1 + 1) X w q (m + 1) (X.extract p.toNat e.toNat) (X.size : Int) e ((X.extract p.toNat e.toNat).size : Int) k 0 0 N = _
      simp only [land_Parse.l1, land_Parse.j5, hs]
      rw [if_pos (by omega), if_pos k0, if_pos (by omega), hb]
      by_cases h1 : bt X (p + k) < 97
      · rw [if_pos h1, if_pos trivial]; rfl
      · rw [if_neg h1, if_pos (decide_eq_true (by omega))]; rfl
def Good (X : ByteArray) (p e m f : Int) : Prop := p < e ∧ Let X p e ∧ (m = 0 ∨ e - p = f)
theorem land_scan {X : ByteArray} (hX : X.size ≤ 4001) {e : Int} (en : e < (X.size : Int)) {w q m : Int} {N : List Int} {r : R5} (hr : Ev (fun i => land_Parse.l0 i X w q m (X.size : Int) e 0 0 N) r) : ∀ (d : Nat) (j : Int), 0 ≤ j → j + d = e → (∀ u, j ≤ u → u < e → bt X u ≠ 10) → Ev (fun i => land_Parse.l0 i X w q m (X.size : Int) j 0 0 N) r := by
  intro d; induction d with
  | zero => intro j j0 hd _; have : j = e := by omega
            rw [this]; exact hr
  | succ d ih =>
    intro j j0 hd hn
    refine Ev.step (fun _ => rfl) ?_
    simp only [land_Parse.l0, show j < (X.size : Int) by omega, j0, if_true, hn j (by omega) (by omega), if_false, show wrap64 (j + 1) = j + 1 from w64_in (by omega) (by omega)]
    exact ih (j + 1) (by omega) (by omega) (fun u a b => hn u (by omega) b)
theorem land_line {X : ByteArray} (hX : X.size ≤ 4001) {p e m f : Int} (p0 : 0 ≤ p) (pe : p ≤ e) (en : e < (X.size : Int)) (h10 : bt X e = 10) (hno : ∀ u, p ≤ u → u < e → bt X u ≠ 10) (m0 : 0 ≤ m) (m1 : m ≤ p) (hf : 0 < m → 0 < f) {N : List Int} (hN : (N.length : Int) ≤ p) :
    (Good X p e m f → ∀ r, Ev (fun i => land_Parse.l0 i X (if m = 0 then e - p else f) (e + 1) (m + 1) (X.size : Int) (e + 1) 0 0 (N ++ vs X p (e - p).toNat)) r → Ev (fun i => land_Parse.l0 i X (if m = 0 then -1 else f) p m (X.size : Int) p 0 0 N) r) ∧ (¬ Good X p e m f → Ev (fun i => land_Parse.l0 i X (if m = 0 then -1 else f) p m (X.size : Int) p 0 0 N) (err m)) := by
  have hs := row_size X p0 pe (show e ≤ (X.size : Int) by omega)
  have we : wrap64 (e + 1) = e + 1 := w64_in (by omega) (by omega)
  have wm : wrap64 (m + 1) = m + 1 := w64_in (by omega) (by omega)
  have start : ∀ r, Ev (fun i => land_Parse.j2 i X (if m = 0 then e - p else f) (e + 1) (m + 1) (X.extract p.toNat e.toNat) (X.size : Int) e 0 0 N) r → Ev (fun i => land_Parse.l0 i X (if m = 0 then -1 else f) p m (X.size : Int) p 0 0 N) r := by
    intro r hr
    refine land_scan hX en (Ev.step (fun _ => rfl) ?_) (e - p).toNat p p0 (by omega) hno
    have e0 : 0 ≤ e := by omega
    have e1 : e ≤ (X.size : Int) := by omega
    by_cases hm : m = 0
    · simp only [hm, if_true] at hr
      simp only [land_Parse.l0, en, e0, e1, if_true, h10, p0, pe, hm, show (-1 : Int) < 0 by omega, hs, we, show wrap64 (0 + 1) = 0 + 1 from w64_in (by omega) (by omega)]
      exact hr
    · have hf' := hf (by omega)
      simp only [hm, if_false] at hr
      simp only [land_Parse.l0, en, e0, e1, if_true, h10, p0, pe, hm, show ¬ f < 0 by omega, if_false, we, wm]
      exact hr
  by_cases hpe : p < e
  · have hne : ¬ (X.extract p.toNat e.toNat).toList = ([] : List UInt8) := fun h => by have := (empty_iff _).1 h; omega
    by_cases hw : m = 0 ∨ e - p = f
    · have hww : (if m = 0 then e - p else f) = e - p := by
        rcases hw with h | h
        · rw [if_pos h]
        · split
          · rfl
          · exact h.symm
      have mid : ∀ r, Ev (fun i => land_Parse.l1 i X (if m = 0 then e - p else f) (e + 1) (m + 1) (X.extract p.toNat e.toNat) (X.size : Int) e ((X.extract p.toNat e.toNat).size : Int) 0 0 0 N) r → Ev (fun i => land_Parse.l0 i X (if m = 0 then -1 else f) p m (X.size : Int) p 0 0 N) r := by
        intro r hr
        refine start r (Ev.step (fun _ => rfl) ?_)
        simp only [land_Parse.j2, hne, if_false]
        refine Ev.step (fun _ => rfl) ?_
        simp only [land_Parse.j3, hww, hs, bne_self_eq_false, Bool.false_eq_true, if_false]
        rw [hww, hs] at hr
        exact hr
      refine ⟨fun g r hr => mid r (row_good hX p0 pe en g.2.1 (e - p).toNat 0 N (by omega) (by omega) (by omega) (by simpa using hr)), fun g => mid _ (row_bad hX p0 pe en (e - p).toNat 0 N (by omega) (by omega) (by omega) (fun h => g ⟨hpe, by simpa using h, hw⟩))⟩
    · refine ⟨fun g => absurd g.2.2 hw, fun _ => start _ (Ev.step (fun _ => rfl) ?_)⟩
      have hm : ¬ m = 0 := fun h => hw (Or.inl h)
      have hb : ((e - p) != f) = true := bne_iff_ne.2 (fun h => hw (Or.inr h))
      simp only [land_Parse.j2, hne, if_false, hm, hs, hb]
      refine Ev.step (fun _ => rfl) ?_
      simp only [land_Parse.j3, if_true]
      exact Ev.now _
  · have hemp : (X.extract p.toNat e.toNat).toList = ([] : List UInt8) := (empty_iff _).2 (by omega)
    refine ⟨fun g => absurd g.1 hpe, fun _ => start _ (Ev.step (fun _ => rfl) ?_)⟩
    simp only [land_Parse.j2, hemp, if_true]
    refine Ev.step (fun _ => rfl) ?_
    simp only [land_Parse.j3, if_true]
    exact Ev.now _
end Go.Proofs.YtldbkigenaakkaaGreatDoor.Par
namespace Go.Proofs.YtldbkigenaakkaaGreatDoor.Tex
open Go.RowKit Go.Proofs.YtldbkigenaakkaaGreatDoorOwn Go.Proofs.YtldbkigenaakkaaGreatDoor.Q Go.Proofs.YtldbkigenaakkaaGreatDoor.Val Go.Proofs.YtldbkigenaakkaaGreatDoor.Byt Go.Proofs.YtldbkigenaakkaaGreatDoor.Par Go.Proofs.YtldbkigenaakkaaGreatDoorW.PrintWords Go.Proofs.YtldbkigenaakkaaGreatDoorW.PrintLast
theorem rd_app {N : List Int} {v j : Int} (h0 : 0 ≤ j) (h : j < (N.length : Int)) : rd (N ++ [v]) j = rd N j := by
  unfold rd
  rw [List.getD_eq_getElem?_getD, List.getD_eq_getElem?_getD, List.getElem?_append_left (by omega)]
theorem rd_end {N : List Int} {v j : Int} (h : j = (N.length : Int)) : rd (N ++ [v]) j = v := by subst h; unfold rd; simp
/-- The text of the rows above y, and of x corners of row y. -/
structure T (W : Int) (L : List Int) (y x : Int) (M : List Int) : Prop where
  len : (M.length : Int) = y * (W + 2) + x
  chars : ∀ y' x', 0 ≤ y' → 0 ≤ x' → x' ≤ W → (y' < y ∨ y' = y ∧ x' < x) → rd M (y' * (W + 2) + x') = 97 + rd L (y' * (W + 1) + x')
  nls : ∀ y', 0 ≤ y' → y' < y → rd M (y' * (W + 2) + (W + 1)) = 10
theorem below {W y y' : Int} (hW : 0 ≤ W) (h0 : 0 ≤ y') (h : y' < y) : 0 ≤ y' * (W + 2) ∧ y' * (W + 2) + (W + 2) ≤ y * (W + 2) := by
  have := row_in (y := y') (H := y - 1) (m := W + 2) h0 (by omega) (by omega)
  rw [show y - 1 + 1 = y by omega] at this; exact this
theorem T.char {W : Int} {L : List Int} {y x : Int} {M : List Int} (t : T W L y x M) (hW : 0 ≤ W) (y0 : 0 ≤ y) (x0 : 0 ≤ x) : T W L y (x + 1) (M ++ [97 + rd L (y * (W + 1) + x)]) := by
  have hy := Int.mul_nonneg y0 (show 0 ≤ W + 2 by omega)
  refine ⟨?_, fun y' x' a b c d => ?_, fun y' a b => ?_⟩
  · rw [List.length_append, Int.natCast_add, t.len]; simp; omega
  · by_cases e : y' = y ∧ x' = x
    · rw [e.1, e.2, rd_end (by rw [t.len])]
    · have : y' * (W + 2) + x' < (M.length : Int) := by
        rw [t.len]
        by_cases h : y' < y
        · have := below hW a h; omega
        · have : y' = y := by omega
          rw [this]; omega
      rw [rd_app (by have := Int.mul_nonneg a (show 0 ≤ W + 2 by omega); omega) this]
      exact t.chars y' x' a b c (by omega)
  · have h := below hW a b
    rw [rd_app (by omega) (by rw [t.len]; omega)]; exact t.nls y' a b
theorem T.nl {W : Int} {L : List Int} {y : Int} {M : List Int} (t : T W L y (W + 1) M) (hW : 0 ≤ W) (y0 : 0 ≤ y) : T W L (y + 1) 0 (M ++ [10]) := by
  have hy := Int.mul_nonneg y0 (show 0 ≤ W + 2 by omega)
  have e1 : (y + 1) * (W + 2) = y * (W + 2) + (W + 2) := by rw [Int.add_mul, Int.one_mul]
  refine ⟨?_, fun y' x' a b c d => ?_, fun y' a b => ?_⟩
  · rw [List.length_append, Int.natCast_add, t.len, e1]; simp; omega
  · have : y' * (W + 2) + x' < (M.length : Int) := by
      rw [t.len]
      by_cases h : y' < y
      · have := below hW a h; omega
      · have : y' = y := by omega
        rw [this]; omega
    rw [rd_app (by have := Int.mul_nonneg a (show 0 ≤ W + 2 by omega); omega) this]
    exact t.chars y' x' a b c (by omega)
  · by_cases e : y' = y
    · rw [e, rd_end (by rw [t.len])]
    · have h := below hW a (show y' < y by omega)
      rw [rd_app (by omega) (by rw [t.len]; omega)]; exact t.nls y' a (by omega)
theorem col {W y x : Int} (y0 : 0 ≤ y) (x0 : 0 ≤ x) (hx : x ≤ W) : Int.tmod (y * (W + 1) + x) (W + 1) = x := by
  have := Int.mul_nonneg y0 (show 0 ≤ W + 1 by omega)
  rw [Int.tmod_eq_emod_of_nonneg (by omega), Int.add_comm, Int.add_mul_emod_self_right, Int.emod_eq_of_lt x0 (by omega)]
theorem text_loop {W H : Int} {L : List Int} (s : Sides W H L) (hh : Hts L) : ∀ (d : Nat) (y x : Int) (M : List Int), 0 ≤ y → y ≤ H + 1 → (y = H + 1 → x = 0) → 0 ≤ x → x ≤ W → y * (W + 1) + x + d = L.length → T W L y x M →
    ∃ M', Ev (fun k => land_Text.l0 k M L (L.length : Int) (y * (W + 1) + x) W H L) (strOfNums M', 0) ∧ T W L (H + 1) 0 M' := by
  obtain ⟨a, b, c, e, f⟩ := id s
  obtain ⟨n0, n1⟩ := len_le s
  intro d; induction d with
  | zero =>
    intro y x M y0 y1 hyx x0 x1 hd t
    have hy : y = H + 1 := by
      by_cases h : y ≤ H
      · have := (row_in (m := W + 1) y0 h (by omega)).2; omega
      · omega
    have hx := hyx hy
    subst hy; subst hx
    refine ⟨M, Ev.step (fun _ => rfl) ?_, t⟩
    · simp only [land_Text.l0, show ¬ (H + 1) * (W + 1) + 0 < (L.length : Int) by omega, if_false]; exact Ev.now _
  | succ d ih =>
    intro y x M y0 y1 hyx x0 x1 hd t
    have hyH : y ≤ H := by
      by_cases h : y ≤ H
      · exact h
      · have : y = H + 1 := by omega
        have := hyx this; subst y; omega
    obtain ⟨p0, p1⟩ := row_in (m := W + 1) y0 hyH (by omega)
    obtain ⟨q0, q1⟩ := row_in (m := W + 2) y0 hyH (by omega)
    have q2 := Int.mul_le_mul (show H + 1 ≤ 33 by omega) (show W + 2 ≤ 34 by omega) (by omega) (by omega)
    have hi : y * (W + 1) + x < (L.length : Int) := by omega
    have i0 : 0 ≤ y * (W + 1) + x := by omega
    have hM : M.length < 140737488355328 := by have := t.len; omega
    have hz := hh _ i0 hi
    have hc : wrap64 (97 + rd L (y * (W + 1) + x)) % 256 = 97 + rd L (y * (W + 1) + x) := by rw [w64_in (by omega) (by omega)]; omega
    have wW : wrap64 (W + 1) = W + 1 := w64_in (by omega) (by omega)
    have wi : wrap64 (y * (W + 1) + x + 1) = y * (W + 1) + x + 1 := w64_in (by omega) (by omega)
    have hcol := col (W := W) y0 x0 x1
    have hW0 : ¬ (W + 1 = 0) := by omega
    have t1 := t.char (by omega) y0 x0
    have hM1 : (M ++ [97 + rd L (y * (W + 1) + x)]).length < 140737488355328 := by have := t1.len; omega
    by_cases hx : x = W
    · subst hx
      have e1 : (y + 1) * (x + 1) + 0 = y * (x + 1) + x + 1 := by rw [Int.add_mul, Int.one_mul]; omega
      obtain ⟨M', g1, g3⟩ := ih (y + 1) 0 _ (by omega) (by omega) (fun _ => rfl) (by omega) (by omega) (by rw [e1]; omega) (t1.nl (by omega) y0)
      rw [e1] at g1
      refine ⟨M', Ev.step (fun _ => rfl) ?_, g3⟩
      · simp only [land_Text.l0, hi, i0, hM, if_true, hc, Option.bind_some, wW, hW0, if_false, hcol, hM1, wi]; exact g1
    · obtain ⟨M', g1, g3⟩ := ih y (x + 1) _ y0 y1 (fun h => by omega) (by omega) (by omega) (by omega) t1
      rw [← Int.add_assoc] at g1
      refine ⟨M', Ev.step (fun _ => rfl) ?_, g3⟩
      · simp only [land_Text.l0, hi, i0, hM, if_true, hc, Option.bind_some, wW, hW0, if_false, hcol, hx, wi]; exact g1
theorem str_size (M : List Int) : (strOfNums M).size = M.length := by show (List.map _ M).toArray.size = _; simp
theorem str_bt (M : List Int) {i : Int} (i0 : 0 ≤ i) (hi : i < (M.length : Int)) (h : 0 ≤ rd M i ∧ rd M i < 256) : bt (strOfNums M) i = rd M i := by
  have h1 : i.toNat < (strOfNums M).size := by rw [str_size]; omega
  have h2 : i.toNat < M.length := by omega
  rw [← bt_at _ _ h1]
  have e : (strOfNums M)[i.toNat]'h1 = UInt8.ofNat (M[i.toNat]'h2).toNat := by
    show (List.map (fun n : Int => UInt8.ofNat n.toNat) M).toArray[i.toNat]'(by simpa using h2) = _
    rw [List.getElem_toArray, List.getElem_map]
  have hr : rd M i = M[i.toNat]'h2 := by unfold rd; rw [List.getD_eq_getElem?_getD, List.getElem?_eq_getElem h2]; rfl
  rw [e]
  rw [hr] at h ⊢
  have : (UInt8.ofNat (M[i.toNat]'h2).toNat).toNat = (M[i.toNat]'h2).toNat % 256 := by simp
  rw [this]; omega
theorem vs_is (X : ByteArray) (L : List Int) : ∀ (d : Nat) (j : Int) (i : Nat), i + d ≤ L.length → (∀ q : Int, 0 ≤ q → q < d → (bt X (j + q) - 97) % 256 = rd L ((i : Int) + q)) → vs X j d = (L.drop i).take d := by
  intro d; induction d with
  | zero => intro j i _ _; simp [vs]
  | succ d ih =>
    intro j i hi h
    have h0 := h 0 (by omega) (by omega)
    rw [Int.add_zero, Int.add_zero] at h0
    have := ih (j + 1) (i + 1) (by omega) (fun q a b => by
      have := h (q + 1) (by omega) (by omega)
      rw [show j + 1 + q = j + (q + 1) by omega, this]; congr 1; omega)
    rw [vs, this, h0, List.drop_eq_getElem_cons (show i < L.length by omega), List.take_succ_cons]
    congr 1
    unfold rd
    rw [List.getD_eq_getElem?_getD, List.getElem?_eq_getElem (by omega)]; rfl
theorem rows_read {W H : Int} {L M : List Int} (v : Valid W H L) (t : T W L (H + 1) 0 M) : ∀ (d : Nat) (y : Int), 0 ≤ y → y + d = H + 1 →
    Ev (fun k => land_Parse.l0 k (strOfNums M) (if y = 0 then -1 else W + 1) (y * (W + 2)) y ((strOfNums M).size : Int) (y * (W + 2)) 0 0 (L.take (y * (W + 1)).toNat)) (W, H, L, 0, 0) := by
  have s := v.1
  obtain ⟨a, b, c, e, f⟩ := id s
  obtain ⟨n0, n1⟩ := len_le s
  have hsz : ((strOfNums M).size : Int) = (H + 1) * (W + 2) := by rw [str_size, t.len]; omega
  have q2 := Int.mul_le_mul (show H + 1 ≤ 33 by omega) (show W + 2 ≤ 34 by omega) (by omega) (by omega)
  intro d; induction d with
  | zero =>
    intro y y0 hd
    have hy : y = H + 1 := by omega
    subst hy
    obtain ⟨t', v1, v3⟩ := validate_ok W H L
    have := v3.2 v; subst this
    refine Ev.step (fun _ => rfl) ?_
    have hL : L.take ((H + 1) * (W + 1)).toNat = L := by rw [← f]; exact List.take_of_length_le (by omega)
    have w1 : wrap64 (W + 1 - 1) = W := by rw [w64_in (by omega) (by omega)]; omega
    have w2 : wrap64 (H + 1 - 1) = H := by rw [w64_in (by omega) (by omega)]; omega
    simp only [land_Parse.l0, hsz, show ¬ (H + 1) * (W + 2) < (H + 1) * (W + 2) by omega, if_false, show ¬ H + 1 = 0 by omega, hL, w1, w2]
    exact Ev.bind v1 (by simp only [if_true]; exact Ev.now _)
  | succ d ih =>
    intro y y0 hd
    have hy : y ≤ H := by omega
    obtain ⟨p0, p1⟩ := row_in (m := W + 1) y0 hy (by omega)
    obtain ⟨q0, q1⟩ := row_in (m := W + 2) y0 hy (by omega)
    have hb : ∀ x, 0 ≤ x → x ≤ W → bt (strOfNums M) (y * (W + 2) + x) = 97 + rd L (y * (W + 1) + x) ∧ 0 ≤ rd L (y * (W + 1) + x) ∧ rd L (y * (W + 1) + x) ≤ 15 := by
      intro x x0 x1
      have hc := t.chars y x y0 x0 x1 (by omega)
      have hz := v.2.1 (y * (W + 1) + x) (by omega) (by omega)
      exact ⟨by rw [str_bt M (by omega) (by rw [t.len]; omega) (by rw [hc]; omega), hc], hz⟩
    have hn : bt (strOfNums M) (y * (W + 2) + (W + 1)) = 10 := by
      have hc := t.nls y y0 (by omega)
      rw [str_bt M (by omega) (by rw [t.len]; omega) (by rw [hc]; omega), hc]
    have hno : ∀ u, y * (W + 2) ≤ u → u < y * (W + 2) + (W + 1) → bt (strOfNums M) u = 97 + rd L (y * (W + 1) + (u - y * (W + 2))) ∧ 0 ≤ rd L (y * (W + 1) + (u - y * (W + 2))) ∧ rd L (y * (W + 1) + (u - y * (W + 2))) ≤ 15 := by
      intro u u0 u1
      have := hb (u - y * (W + 2)) (by omega) (by omega)
      rw [show y * (W + 2) + (u - y * (W + 2)) = u by omega] at this; exact this
    have yy : y ≤ y * (W + 2) := by
      have := Int.mul_le_mul_of_nonneg_left (show 1 ≤ W + 2 by omega) y0
      omega
    have hlt : ((L.take (y * (W + 1)).toNat).length : Int) ≤ y * (W + 2) := by
      have : y * (W + 2) = y * (W + 1) + y := by rw [show W + 2 = (W + 1) + 1 by omega, Int.mul_add, Int.mul_one]
      have : (L.take (y * (W + 1)).toNat).length ≤ (y * (W + 1)).toNat := List.length_take_le _ _
      omega
    obtain ⟨g, _⟩ := land_line (X := strOfNums M) (by omega) (p := y * (W + 2)) (e := y * (W + 2) + (W + 1)) (m := y) (f := W + 1) q0 (by omega) (by omega) hn (fun u u0 u1 => by have := hno u u0 u1; omega) y0 yy (fun _ => by omega) hlt
    have ep : y * (W + 2) + (W + 1) - y * (W + 2) = W + 1 := by omega
    rw [ep] at g
    refine g ⟨by omega, fun u u0 u1 => by have := hno u u0 u1; omega, Or.inr (by omega)⟩ _ ?_
    have hvs := vs_is (strOfNums M) L (W + 1).toNat (y * (W + 2)) (y * (W + 1)).toNat (by omega) (fun q a b => by
      have := hb q a (by omega)
      rw [this.1, show ((y * (W + 1)).toNat : Int) = y * (W + 1) by omega]; omega)
    have hcat : L.take (y * (W + 1)).toNat ++ vs (strOfNums M) (y * (W + 2)) (W + 1).toNat = L.take ((y + 1) * (W + 1)).toNat := by
      rw [hvs, ← List.take_add]; congr 1
      rw [Int.add_mul, Int.one_mul]; omega
    have hi := ih (y + 1) (by omega) (by omega)
    rw [if_neg (by omega), show (y + 1) * (W + 2) = y * (W + 2) + (W + 1) + 1 by rw [Int.add_mul, Int.one_mul]; omega, ← hcat] at hi
    have : (if y = 0 then W + 1 else W + 1) = W + 1 := by split <;> rfl
    rw [this]; exact hi
/-- The text of a valid land is read as that land. -/
theorem text_ok {W H : Int} {L : List Int} (v : Valid W H L) : ∃ r : ByteArray, Ev (fun k => land_Text.f k W H L) (r, 0) ∧ Ev (fun k => land_Parse.f k r) (W, H, L, 0, 0) := by
  obtain ⟨e, v1, v3⟩ := validate_ok W H L
  obtain rfl := v3.2 v
  have s := v.1
  obtain ⟨a, b, c, e, f⟩ := id s
  obtain ⟨n0, n1⟩ := len_le s
  obtain ⟨M, g1, t⟩ := text_loop s v.2.1 L.length 0 0 [] (by omega) (by omega) (by omega) (by omega) (by omega) (by omega) ⟨by simp, fun y' x' _ _ _ h => by omega, fun y' _ h => by omega⟩
  rw [show (0 : Int) * (W + 1) + 0 = 0 by omega] at g1
  have hsz : ((strOfNums M).size : Int) = (H + 1) * (W + 2) := by rw [str_size, t.len]; omega
  have q1 := (row_in (y := H) (H := H) (m := W + 2) (by omega) (by omega) (by omega))
  have q2 := Int.mul_le_mul (show H + 1 ≤ 33 by omega) (show W + 2 ≤ 34 by omega) (by omega) (by omega)
  have hp : Ev (fun k => land_Parse.f k (strOfNums M)) (W, H, L, 0, 0) := by
    have hr := rows_read v t (H + 1).toNat 0 (by omega) (by omega)
    have hne : ¬ (strOfNums M).toList = ([] : List UInt8) := fun h => by have := (empty_iff _).1 h; omega
    have hw : wrap64 (((strOfNums M).size : Int) - 1) = ((strOfNums M).size : Int) - 1 := w64_in (by omega) (by omega)
    have hl : bt (strOfNums M) (((strOfNums M).size : Int) - 1) = 10 := by
      have hc := t.nls H (by omega) (by omega)
      have e1 : (H + 1) * (W + 2) = H * (W + 2) + (W + 2) := by rw [Int.add_mul, Int.one_mul]
      have e2 : ((strOfNums M).size : Int) - 1 = H * (W + 2) + (W + 1) := by rw [hsz]; omega
      rw [e2, str_bt M (by omega) (by rw [t.len]; omega) (by rw [hc]; omega), hc]
    unfold land_Parse.f
    simp only [hne, if_false, hw, show 0 ≤ ((strOfNums M).size : Int) - 1 by omega, show ((strOfNums M).size : Int) - 1 < ((strOfNums M).size : Int) by omega, if_true, hl]
    refine Ev.step (fun _ => rfl) ?_
    simp only [land_Parse.j0]
    simpa using hr
  refine ⟨strOfNums M, ?_, hp⟩
  unfold land_Text.f
  refine Ev.bind v1 ?_
  simp only [if_true]; exact g1
end Go.Proofs.YtldbkigenaakkaaGreatDoor.Tex
namespace Go.Proofs.YtldbkigenaakkaaGreatDoor.Set
open Go.RowKit Go.Proofs.YtldbkigenaakkaaGreatDoorOwn Go.Proofs.YtldbkigenaakkaaGreatDoor.Q Go.Proofs.YtldbkigenaakkaaGreatDoor.Val Go.Proofs.YtldbkigenaakkaaGreatDoorW.PrintWords Go.Proofs.YtldbkigenaakkaaGreatDoorW.PrintLast Go.Proofs.YtldbkigenaakkaaGreatDoorW.PrintMore
set_option linter.unusedVariables false
set_option linter.unusedSimpArgs false
theorem rd_ext {l m : List Int} (h : l.length = m.length) (e : ∀ j : Int, 0 ≤ j → j < (l.length : Int) → rd l j = rd m j) : l = m := by
  apply List.ext_getElem h
  intro i h1 h2
  have := e i (by omega) (by omega)
  unfold rd at this
  simpa [List.getD_eq_getElem?_getD, h1, h2] using this
theorem rd_put {l : List Int} {i j v : Int} (i0 : 0 ≤ i) (i1 : i < (l.length : Int)) (j0 : 0 ≤ j) : rd (l.set i.toNat v) j = if j = i then v else rd l j := by
  unfold rd
  simp only [List.getD_eq_getElem?_getD, List.getElem?_set]
  by_cases e : j = i
  · subst e; rw [if_pos rfl, if_pos rfl, if_pos (by omega)]; rfl
  · rw [if_neg e, if_neg (by omega)]
theorem sum_put : ∀ (L : List Int) (i : Nat) (v : Int), i < L.length → v < L.getD i 0 → (L.set i v).sum < L.sum
  | [], _, _, h, _ => by simp at h
  | x :: xs, 0, v, _, h => by simp at h ⊢; omega
  | x :: xs, i + 1, v, hl, h => by
    have := sum_put xs i v (by simpa using hl) (by simpa using h)
    simp; omega
theorem sum_nn : ∀ (L : List Int), (∀ x, x ∈ L → 0 ≤ x) → 0 ≤ L.sum
  | [], _ => by simp
  | x :: xs, h => by
    have h1 := h x (by simp)
    have h2 := sum_nn xs (fun y hy => h y (by simp [hy]))
    simp; omega
theorem sum_hts {L : List Int} (h : Hts L) : 0 ≤ L.sum := by
  refine sum_nn L fun x hx => ?_
  obtain ⟨i, hi, rfl⟩ := List.mem_iff_getElem.1 hx
  have := (h i (by omega) (by omega)).1
  unfold rd at this
  simpa [List.getD_eq_getElem?_getD, hi] using this
/-! ### places and their neighbours -/
section
variable {n i : Int}
theorem m_right (hn : 0 < n) (h : i % n + 1 < n) : (i + 1) % n = i % n + 1 := by
  have e := Int.mul_ediv_add_emod i n
  have x0 := Int.emod_nonneg i (show n ≠ 0 by omega)
  rw [show i + 1 = (i % n + 1) + n * (i / n) by omega, Int.add_mul_emod_self_left, Int.emod_eq_of_lt (by omega) h]
theorem m_left (hn : 0 < n) (h : 0 < i % n) : (i - 1) % n = i % n - 1 := by
  have e := Int.mul_ediv_add_emod i n
  have x1 := Int.emod_lt_of_pos i hn
  rw [show i - 1 = (i % n - 1) + n * (i / n) by omega, Int.add_mul_emod_self_left, Int.emod_eq_of_lt (by omega) (by omega)]
theorem m_pos (hn : 0 < n) (i0 : 0 ≤ i) (h : 0 < i % n) : 1 ≤ i := by
  by_cases e : i = 0
  · subst e; simp at h
  · omega
theorem in_right {W H : Int} {L : List Int} (s : Sides W H L) (i0 : 0 ≤ i) (i1 : i < (L.length : Int)) (h : i % (W + 1) + 1 < W + 1) : i + 1 < (L.length : Int) := by
  obtain ⟨a, b, c, d, e⟩ := s
  refine Classical.byContradiction fun hc => ?_
  have h1 := m_right (by omega) h
  rw [show i + 1 = (H + 1) * (W + 1) by omega, Int.mul_emod_left] at h1
  have x0 := Int.emod_nonneg i (show W + 1 ≠ 0 by omega)
  rw [show i % (W + 1) = -1 by omega] at x0
  omega
theorem d_down {W H : Int} {L : List Int} (s : Sides W H L) : i / (W + 1) + 1 < H + 1 ↔ i + (W + 1) < (L.length : Int) := by
  obtain ⟨a, b, c, d, e⟩ := s
  have := Int.ediv_lt_iff_lt_mul (a := i) (b := H) (c := W + 1) (by omega)
  rw [e, Int.add_mul, Int.one_mul]
  omega
theorem d_up {W : Int} (hw : 4 ≤ W) : i / (W + 1) > 0 ↔ W < i := by
  have := Int.ediv_lt_iff_lt_mul (a := i) (b := 1) (c := W + 1) (by omega)
  omega
end
def nbs (W H i : Int) : List Int := (if i % (W + 1) + 1 < W + 1 then [i + 1] else []) ++ (if i % (W + 1) > 0 then [i - 1] else []) ++ (if i / (W + 1) + 1 < H + 1 then [i + (W + 1)] else []) ++ (if i / (W + 1) > 0 then [i - (W + 1)] else [])
theorem mem_nbs {W H i k : Int} : k ∈ nbs W H i ↔ (i % (W + 1) + 1 < W + 1 ∧ k = i + 1) ∨ (i % (W + 1) > 0 ∧ k = i - 1) ∨ (i / (W + 1) + 1 < H + 1 ∧ k = i + (W + 1)) ∨ (i / (W + 1) > 0 ∧ k = i - (W + 1)) := by
  unfold nbs
  by_cases h1 : i % (W + 1) + 1 < W + 1 <;> by_cases h2 : i % (W + 1) > 0 <;> by_cases h3 : i / (W + 1) + 1 < H + 1 <;> by_cases h4 : i / (W + 1) > 0 <;> simp [h1, h2, h3, h4]
theorem nbs_in {W H i k : Int} {L : List Int} (s : Sides W H L) (i0 : 0 ≤ i) (i1 : i < (L.length : Int)) (hm : k ∈ nbs W H i) : 0 ≤ k ∧ k < (L.length : Int) := by
  have hn : 0 < W + 1 := by have := s.1; omega
  rcases mem_nbs.1 hm with ⟨h, rfl⟩ | ⟨h, rfl⟩ | ⟨h, rfl⟩ | ⟨h, rfl⟩
  · have := in_right s i0 i1 h; omega
  · have := m_pos hn i0 h; omega
  · have := (d_down s).1 h; omega
  · have := (d_up s.1).1 h; omega
abbrev Places (W : Int) (n : Nat) (Y : List Int) : Prop := ∀ j : Int, 0 ≤ j → j < (n : Int) → place W Y j
theorem places_nb {W H i k : Int} {L Y : List Int} (s : Sides W H L) (p : Places W L.length Y) (i0 : 0 ≤ i) (i1 : i < (L.length : Int)) (hm : k ∈ nbs W H i) : rd Y i ≤ rd Y k + 1 := by
  have hn : 0 < W + 1 := by have := s.1; omega
  have x0 := Int.emod_nonneg i (show W + 1 ≠ 0 by omega)
  have hk := nbs_in s i0 i1 hm
  rcases mem_nbs.1 hm with ⟨h, rfl⟩ | ⟨h, rfl⟩ | ⟨h, rfl⟩ | ⟨h, rfl⟩
  · have := (p (i + 1) hk.1 hk.2).1 (by rw [m_right hn h]; omega)
    rw [show i + 1 - 1 = i by omega] at this; unfold near at this; omega
  · have := (p i i0 i1).1 h; unfold near at this; omega
  · have := (p (i + (W + 1)) hk.1 hk.2).2 (by omega)
    rw [show i + (W + 1) - W - 1 = i by omega] at this; unfold near at this; omega
  · have := (p i i0 i1).2 (by omega)
    rw [show i - W - 1 = i - (W + 1) by omega] at this; unfold near at this; omega
theorem nb_places {W H : Int} {L Y : List Int} (s : Sides W H L) (h : ∀ i, 0 ≤ i → i < (L.length : Int) → ∀ k, k ∈ nbs W H i → rd Y i ≤ rd Y k + 1) : Places W L.length Y := by
  intro j j0 j1
  have hn : 0 < W + 1 := by have := s.1; omega
  have x1 := Int.emod_lt_of_pos j hn
  refine ⟨fun g => ?_, fun g => ?_⟩
  · have p := m_pos hn j0 g
    have a := h j j0 j1 (j - 1) (mem_nbs.2 (.inr (.inl ⟨g, rfl⟩)))
    have b := h (j - 1) (by omega) (by omega) j (mem_nbs.2 (.inl ⟨by rw [m_left hn g]; omega, by omega⟩))
    unfold near; omega
  · have a := h j j0 j1 (j - (W + 1)) (mem_nbs.2 (.inr (.inr (.inr ⟨(d_up s.1).2 g, rfl⟩))))
    have b := h (j - (W + 1)) (by omega) (by omega) j (mem_nbs.2 (.inr (.inr (.inl ⟨(d_down s).2 (by omega), by omega⟩))))
    rw [show j - (W + 1) = j - W - 1 by omega] at a b
    unfold near; omega
/-- M lies nowhere above O, is of heights, and nowhere below what is level and lies nowhere above O. -/
structure Best (W : Int) (O M : List Int) : Prop where
  len : M.length = O.length
  hts : Hts M
  le : ∀ j : Int, 0 ≤ j → j < (O.length : Int) → rd M j ≤ rd O j
  most : ∀ Y : List Int, Places W O.length Y → (∀ j : Int, 0 ≤ j → j < (O.length : Int) → rd Y j ≤ rd O j) → ∀ j : Int, 0 ≤ j → j < (O.length : Int) → rd Y j ≤ rd M j
theorem Best.refl {W : Int} {O : List Int} (h : Hts O) : Best W O O := ⟨rfl, h, fun _ _ _ => Int.le_refl _, fun _ _ h => h⟩
theorem Best.put {W : Int} {O L : List Int} (g : Best W O L) {i v : Int} (i0 : 0 ≤ i) (i1 : i < (O.length : Int)) (v0 : 0 ≤ v) (v1 : v ≤ rd L i) (hy : ∀ Y : List Int, Places W O.length Y → (∀ j : Int, 0 ≤ j → j < (O.length : Int) → rd Y j ≤ rd L j) → rd Y i ≤ v) : Best W O (L.set i.toNat v) := by
  have hl := g.len
  have hi := g.hts i i0 (by omega)
  refine ⟨by rw [List.length_set]; exact hl, fun j j0 j1 => ?_, fun j j0 j1 => ?_, fun Y p q j j0 j1 => ?_⟩
  · rw [List.length_set] at j1
    rw [rd_put i0 (by omega) j0]
    have := g.hts j j0 j1
    split <;> omega
  · rw [rd_put i0 (by omega) j0]
    have := g.le j j0 j1
    split
    · rename_i e; subst e; omega
    · exact this
  · rw [rd_put i0 (by omega) j0]
    have h1 := g.most Y p q
    split
    · rename_i e; subst e; exact hy Y p h1
    · exact h1 j j0 j1
def low (L : List Int) : List Int → Int → Int
  | [], z => z
  | k :: ks, z => low L ks (mn z (rd L k + 1))
theorem low_le : ∀ (L ks : List Int) (z : Int), low L ks z ≤ z ∧ ∀ k, k ∈ ks → low L ks z ≤ rd L k + 1
  | L, [], z => ⟨Int.le_refl _, fun k h => by simp at h⟩
  | L, q :: ks, z => by
    obtain ⟨a, b⟩ := low_le L ks (mn z (rd L q + 1))
    have h1 : mn z (rd L q + 1) ≤ z := by unfold mn; split <;> omega
    have h2 : mn z (rd L q + 1) ≤ rd L q + 1 := by unfold mn; split <;> omega
    refine ⟨by simp only [low]; omega, fun k hk => ?_⟩
    simp only [low]
    rcases List.mem_cons.1 hk with rfl | hk
    · omega
    · exact b k hk
theorem low_ge : ∀ (L ks : List Int) (z b : Int), b ≤ z → (∀ k, k ∈ ks → b ≤ rd L k + 1) → b ≤ low L ks z
  | L, [], z, b, h, _ => h
  | L, q :: ks, z, b, h, hk => by
    simp only [low]
    refine low_ge L ks _ b ?_ fun k h' => hk k (by simp [h'])
    have := hk q (by simp)
    unfold mn; split <;> omega
/-! ### the program -/
theorem beside_ok {W H i : Int} {L : List Int} (s : Sides W H L) (i0 : 0 ≤ i) (i1 : i < (L.length : Int)) : Ev (fun k => land_beside.f k i (W + 1) (H + 1)) (nbs W H i) := by
  obtain ⟨n0, n1⟩ := len_le s
  obtain ⟨a, b, c, d, e⟩ := id s
  have hn : 0 < W + 1 := by omega
  have x0 := Int.emod_nonneg i (show W + 1 ≠ 0 by omega)
  have x1 := Int.emod_lt_of_pos i hn
  have y0 : 0 ≤ i / (W + 1) := Int.ediv_nonneg i0 (by omega)
  have y1 : i / (W + 1) ≤ i := Int.ediv_le_self _ i0
  refine ⟨4, fun k hk => ?_⟩
  obtain ⟨k, rfl⟩ : ∃ m, k = m + 1 + 1 + 1 + 1 := ⟨k - 4, by omega⟩
  unfold land_beside.f nbs
  rw [Int.tmod_eq_emod_of_nonneg i0, w64_in (x := i % (W + 1) + 1) (by omega) (by omega), w64_in (x := i + 1) (by omega) (by omega)]
  have t : ∀ l : List Int, l.length ≤ 3 → (l.length < 17592186044416) = True := fun l h => eq_true (by omega)
  by_cases h1 : i % (W + 1) + 1 < W + 1 <;> by_cases h2 : i % (W + 1) > 0 <;> by_cases h3 : i / (W + 1) + 1 < H + 1 <;> by_cases h4 : i / (W + 1) > 0 <;>
    simp [h1, h2, h3, h4, land_beside.j0, land_beside.j1, land_beside.j2, Int.tmod_eq_emod_of_nonneg i0, Int.tdiv_eq_ediv_of_nonneg i0, w64_in (x := i / (W + 1)) (by omega) (by omega), w64_in (x := i / (W + 1) + 1) (by omega) (by omega), w64_in (x := i - 1) (by omega) (by omega), w64_in (x := i + (W + 1)) (by omega) (by omega), w64_in (x := i - (W + 1)) (by omega) (by omega), show ¬ (W + 1 = 0) by omega]
abbrev S4 := Int × Int × List Int × Int
theorem rd_at (P : List Int) (t : Int) (l : List Int) : rd (P ++ t :: l) (P.length : Int) = t := by unfold rd; simp
theorem l3_ok {W H i z : Int} {L : List Int} (hL : Hts L) {r : S4} : ∀ (suf pre : List Int) (a : Int), (pre ++ suf).length < 1000 → (∀ k, k ∈ suf → 0 ≤ k ∧ k < (L.length : Int)) →
    Ev (fun k => if low L suf a < z then (if 0 ≤ i then (if i < (L.length : Int) then land_Settle.l1 k H (W + 1) W H (L.set i.toNat (low L suf a)) else none) else none) else land_Settle.l2 k H (W + 1) L (L.length : Int) (wrap64 (i + 1)) W H L) r →
    Ev (fun k => land_Settle.l3 k H (W + 1) i z a L (L.length : Int) i (pre ++ suf) ((pre ++ suf).length : Int) (pre.length : Int) W H L) r
  | [], pre, a, hl, hk, h => by
    refine Ev.step (fun k => ?_) h
    simp only [land_Settle.l3]
    rw [if_neg (by simp)]
    rfl
  | t :: suf, pre, a, hl, hk, h => by
    have ht := hk t (by simp)
    have hz := hL t ht.1 ht.2
    have hp : (pre.length : Int) < ((pre ++ t :: suf).length : Int) := by simp; omega
    have hpb : pre.length < 1000 := by simp at hl; omega
    have ih := l3_ok (W := W) (H := H) (i := i) (z := z) hL suf (pre ++ [t]) (mn a (rd L t + 1)) (by simpa using hl) (fun k hk' => hk k (by simp [hk'])) h
    refine Ev.step (fun k => ?_) ih
    simp only [land_Settle.l3]
    rw [if_pos hp, if_pos (by omega), if_pos hp, rd_at, if_pos ht.1, if_pos ht.2, w64_in (x := rd L t + 1) (by omega) (by omega), w64_in (x := (pre.length : Int) + 1) (by omega) (by omega)]
    simp
theorem nbs_len (W H i : Int) : (nbs W H i).length < 1000 := by
  unfold nbs
  by_cases h1 : i % (W + 1) + 1 < W + 1 <;> by_cases h2 : i % (W + 1) > 0 <;> by_cases h3 : i / (W + 1) + 1 < H + 1 <;> by_cases h4 : i / (W + 1) > 0 <;> simp [h1, h2, h3, h4]
theorem settle_go {W H : Int} {O : List Int} (s : Sides W H O) : ∀ (d : Nat) (L : List Int), Best W O L → L.sum < d → ∃ M, Ev (fun k => land_Settle.l1 k H (W + 1) W H L) (W, H, M, 0) ∧ Best W O M ∧ Places W O.length M := by
  obtain ⟨n0, n1⟩ := len_le s
  obtain ⟨sa, sb, sc, sd, _⟩ := id s
  intro d; induction d with
  | zero => intro L g h; have := sum_hts g.hts; omega
  | succ d ih =>
    intro L g hd
    have hl := g.len
    have sL : Sides W H L := by unfold Sides at s ⊢; rw [hl]; exact s
    have scan : ∀ (e : Nat) (i : Int), 0 ≤ i → i + e = (L.length : Int) → (∀ j, 0 ≤ j → j < i → ∀ k, k ∈ nbs W H j → rd L j ≤ rd L k + 1) → ∃ M, Ev (fun k => land_Settle.l2 k H (W + 1) L (L.length : Int) i W H L) (W, H, M, 0) ∧ Best W O M ∧ Places W O.length M := by
      intro e; induction e with
      | zero =>
        intro i i0 hi hs
        refine ⟨L, Ev.step (fun k => ?_) (Ev.now _), g, nb_places s fun j j0 j1 => hs j j0 (by omega)⟩
        simp only [land_Settle.l2]; rw [if_neg (by omega)]
      | succ e ihe =>
        intro i i0 hi hs
        have i1 : i < (L.length : Int) := by omega
        have hb := beside_ok sL i0 i1
        have w1 : wrap64 (H + 1) = H + 1 := w64_in (by omega) (by omega)
        have go : ∀ {r : S4}, Ev (fun k => if low L (nbs W H i) (rd L i) < rd L i then (if 0 ≤ i then (if i < (L.length : Int) then land_Settle.l1 k H (W + 1) W H (L.set i.toNat (low L (nbs W H i) (rd L i))) else none) else none) else land_Settle.l2 k H (W + 1) L (L.length : Int) (wrap64 (i + 1)) W H L) r → Ev (fun k => land_Settle.l2 k H (W + 1) L (L.length : Int) i W H L) r := by
          intro r hr
          refine Ev.step (f := fun k => (land_beside.f k i (W + 1) (H + 1)).bind fun t => land_Settle.l3 k H (W + 1) i (rd L i) (rd L i) L (L.length : Int) i t (t.length : Int) 0 W H L) (fun k => ?_) (Ev.bind hb ?_)
          · simp only [land_Settle.l2]; rw [if_pos i1, if_pos i0, if_pos i1, w1]
          · exact l3_ok (W := W) (H := H) (i := i) (z := rd L i) g.hts (nbs W H i) [] (rd L i) (nbs_len W H i) (fun k hk => nbs_in sL i0 i1 hk) hr
        obtain ⟨a1, a2⟩ := low_le L (nbs W H i) (rd L i)
        have hz := g.hts i i0 i1
        by_cases hv : low L (nbs W H i) (rd L i) < rd L i
        · have v0 : 0 ≤ low L (nbs W H i) (rd L i) := low_ge _ _ _ 0 hz.1 fun k hk => by have := nbs_in sL i0 i1 hk; have := g.hts k this.1 this.2; omega
          obtain ⟨M, m1, m2, m3⟩ := ih (L.set i.toNat (low L (nbs W H i) (rd L i))) (g.put i0 (by omega) v0 a1 fun Y p q => low_ge _ _ _ _ (q i i0 (by omega)) fun k hk => by
            have h1 := places_nb s p i0 (by omega) hk
            have h2 := nbs_in s i0 (by omega) hk
            have := q k h2.1 h2.2; omega) (by
              have := sum_put L i.toNat (low L (nbs W H i) (rd L i)) (by omega) hv
              omega)
          refine ⟨M, go ?_, m2, m3⟩
          simp only [hv, i0, i1, if_true]; exact m1
        · have w2 : wrap64 (i + 1) = i + 1 := w64_in (by omega) (by omega)
          obtain ⟨M, m1, m2, m3⟩ := ihe (i + 1) (by omega) (by omega) (fun j j0 j1 k hk => by
            by_cases e' : j = i
            · subst e'; have := a2 k hk; omega
            · exact hs j j0 (by omega) k hk)
          refine ⟨M, go ?_, m2, m3⟩
          simp only [hv, if_false, w2]; exact m1
    obtain ⟨M, m1, m2, m3⟩ := scan L.length 0 (by omega) (by omega) (fun j j0 j1 => by omega)
    exact ⟨M, Ev.step (fun k => by simp only [land_Settle.l1]) m1, m2, m3⟩
def cl (z : Int) : Int := mn (mx z 0) 15
theorem cl_in (z : Int) : 0 ≤ cl z ∧ cl z ≤ 15 := by unfold cl mn mx; split <;> split <;> omega
theorem rd_map {h : List Int} {j : Int} (j0 : 0 ≤ j) (j1 : j < (h.length : Int)) : rd (h.map cl) j = cl (rd h j) := by
  unfold rd
  have : j.toNat < h.length := by omega
  simp [List.getD_eq_getElem?_getD, this]
theorem hts_cl (h : List Int) : Hts (h.map cl) := fun j j0 j1 => by
  rw [List.length_map] at j1
  rw [rd_map j0 j1]; exact cl_in _
theorem clamp_ok {W H a b : Int} {h : List Int} {r : S4} (hn : (h.length : Int) < 1000000) (hr : Ev (fun k => land_Settle.l1 k b (wrap64 (a + 1)) W H (h.map cl)) r) : ∀ (d : Nat) (i : Int) (L : List Int), 0 ≤ i → i + d = (h.length : Int) → L.length = h.length → (∀ j, 0 ≤ j → j < i → rd L j = cl (rd h j)) → Ev (fun k => land_Settle.l0 k a b h (h.length : Int) i W H L) r := by
  intro d; induction d with
  | zero =>
    intro i L i0 hi hl hs
    have e : L = h.map cl := rd_ext (by simp [hl]) fun j j0 j1 => by rw [rd_map j0 (by omega)]; exact hs j j0 (by omega)
    subst e
    refine Ev.step (fun k => ?_) hr
    simp only [land_Settle.l0]; rw [if_neg (by omega)]
  | succ d ih =>
    intro i L i0 hi hl hs
    have := ih (i + 1) (L.set i.toNat (cl (rd h i))) (by omega) (by omega) (by simp [hl]) (fun j j0 j1 => by
      rw [rd_put i0 (by omega) j0]
      split
      · rename_i e; rw [e]
      · exact hs j j0 (by omega))
    refine Ev.step (fun k => ?_) this
    simp only [land_Settle.l0]
    rw [if_pos (by omega), if_pos i0, if_pos (by omega), if_pos (by omega), w64_in (x := i + 1) (by omega) (by omega)]
    rfl
theorem sides_ok (w h : Int) : land_sides.f w h = some (decide (4 ≤ w ∧ w ≤ 32 ∧ 4 ≤ h ∧ h ≤ 32)) := by
  unfold land_sides.f
  by_cases h1 : w ≥ 4 <;> by_cases h2 : w ≤ 32 <;> by_cases h3 : h ≥ 4 <;> by_cases h4 : h ≤ 32 <;> simp [h1, h2, h3, h4]
theorem wrap_len {w h : Int} (a : 4 ≤ w) (b : w ≤ 32) (c : 4 ≤ h) (d : h ≤ 32) : wrap64 (wrap64 (w + 1) * wrap64 (h + 1)) = (h + 1) * (w + 1) := by
  have h1 := Int.mul_le_mul (show h + 1 ≤ 33 by omega) (show w + 1 ≤ 33 by omega) (by omega) (by omega)
  have h2 := Int.mul_nonneg (show 0 ≤ h + 1 by omega) (show 0 ≤ w + 1 by omega)
  rw [w64_in (x := w + 1) (by omega) (by omega), w64_in (x := h + 1) (by omega) (by omega), Int.mul_comm]
  exact w64_in (by omega) (by omega)
theorem settle_yes {w h : Int} {l : List Int} (s : Sides w h l) : ∃ M, Ev (fun k => land_Settle.f k w h l) ((w, h, M, 0) : S4) ∧ Best w (l.map cl) M ∧ Places w (l.map cl).length M := by
  obtain ⟨n0, n1⟩ := len_le s
  obtain ⟨a, b, c, d, e⟩ := id s
  have s' : Sides w h (l.map cl) := by unfold Sides; rw [List.length_map]; exact s
  have hs := sum_hts (hts_cl l)
  obtain ⟨M, m1, m2, m3⟩ := settle_go s' ((l.map cl).sum.toNat + 1) (l.map cl) (Best.refl (hts_cl l)) (by omega)
  refine ⟨M, ?_, m2, m3⟩
  have w1 : wrap64 (w + 1) = w + 1 := w64_in (by omega) (by omega)
  have hc := clamp_ok (W := w) (H := h) (a := w) (b := h) (h := l) (by omega) (by rw [w1]; exact m1) l.length 0 (List.replicate l.length 0) (by omega) (by omega) (by simp) (fun j j0 j1 => by omega)
  refine Ev.step (f := fun k => land_Settle.l0 k w h l (l.length : Int) 0 w h (List.replicate l.length 0)) (fun k => ?_) hc
  unfold land_Settle.f
  rw [sides_ok]
  simp only [Option.bind_some, decide_eq_true_eq]
  rw [if_pos ⟨a, b, c, d⟩, wrap_len a b c d, ← e]
  simp only [land_Settle.j0]
  rw [if_neg (by simp), if_pos (by omega), if_pos (by simp; omega)]
  simp
end Go.Proofs.YtldbkigenaakkaaGreatDoor.Set
namespace Go.Proofs.YtldbkigenaakkaaGreatDoor.Draw
open Go.RowKit Go.Proofs.YtldbkigenaakkaaGreatDoorOwn Go.Proofs.YtldbkigenaakkaaGreatDoor.Q Go.Proofs.YtldbkigenaakkaaGreatDoorW.PrintWords Go.Proofs.YtldbkigenaakkaaGreatDoorW.PrintLast
/-- What a stream's place becomes as a number. -/
def mix (A : Int) : Int := Go.bits .xor .u64 (IntKind.u64.wrap ((Go.bits .xor .u64 (IntKind.u64.wrap ((Go.bits .xor .u64 A (A / 1073741824)) * 13787848793156543929)) ((IntKind.u64.wrap ((Go.bits .xor .u64 A (A / 1073741824)) * 13787848793156543929)) / 134217728)) * 10723151780598845931)) ((IntKind.u64.wrap ((Go.bits .xor .u64 (IntKind.u64.wrap ((Go.bits .xor .u64 A (A / 1073741824)) * 13787848793156543929)) ((IntKind.u64.wrap ((Go.bits .xor .u64 A (A / 1073741824)) * 13787848793156543929)) / 134217728)) * 10723151780598845931)) / 2147483648)
theorem next_tells (A : Int) : roll_Next.f A = some (mix (IntKind.u64.wrap (A + 11400714819323198485)), IntKind.u64.wrap (A + 11400714819323198485)) := rfl
theorem mix_range (A : Int) : 0 ≤ mix A ∧ mix A ≤ 18446744073709551615 := bounds_u64 (wf_bits _ _ _ _)
theorem mix_zero : mix 0 = 0 := by decide +kernel
theorem not_u64 (x : Int) (h0 : 0 ≤ x) (h1 : x < 18446744073709551616) : Go.bits .xor .u64 IntKind.u64.max x = 18446744073709551615 - x := by
  have e : IntKind.u64.max = ((18446744073709551615 : Nat) : Int) := by decide +kernel
  obtain ⟨n, rfl⟩ : ∃ n : Nat, x = (n : Int) := ⟨x.toNat, by omega⟩
  rw [e, bits_xor_u64_nat _ _ (by omega) (by omega)]
  have h : (BitVec.allOnes 64 ^^^ BitVec.ofNat 64 n).toNat = 18446744073709551615 ^^^ n := by
    rw [BitVec.toNat_xor, BitVec.toNat_allOnes, BitVec.toNat_ofNat, Nat.mod_eq_of_lt (by omega)]
  have h2 : (BitVec.allOnes 64 ^^^ BitVec.ofNat 64 n).toNat = 18446744073709551615 - n := by
    rw [BitVec.allOnes_xor, BitVec.toNat_not, BitVec.toNat_ofNat, Nat.mod_eq_of_lt (by omega)]
  rw [← h, h2]
  omega
/-- The stream's state behind i numbers. -/
def st (s : Int) (i : Int) : Int := (s + i * 11400714819323198485) % 18446744073709551616
/-- There is a number at last that may be used: the one of the state 0. -/
theorem zero_at (s : Int) (h0 : 0 ≤ s) (h1 : s ≤ 18446744073709551615) : ∃ d : Nat, st s (d + 1) = 0 := by
  have key : ∀ t : Int, (s + ((18446744073709551616 - s) * 17428512612931826493 - 18446744073709551616 * t) * 11400714819323198485) % 18446744073709551616 = 0 := by intro t; omega
  refine ⟨((18446744073709551616 - s) * 17428512612931826493 + 18446744073709551615).toNat, ?_⟩
  have := key (-1)
  unfold st
  rw [show ((((18446744073709551616 - s) * 17428512612931826493 + 18446744073709551615).toNat : Int) + 1) = (18446744073709551616 - s) * 17428512612931826493 - 18446744073709551616 * (-1) by omega]
  exact this
theorem st_next (s : Int) (i : Nat) : IntKind.u64.wrap (st s i + 11400714819323198485) = st s ((i : Int) + 1) := by rw [u64w]; unfold st; omega
theorem st_range (s : Int) (i : Int) : 0 ≤ st s i ∧ st s i ≤ 18446744073709551615 := by unfold st; omega
theorem l0_open (m u A : Int) (k : Nat) (hu : 0 ≤ u) (hum : u < 18446744073709551616) :
    roll_Below.l0 (k + 1) m u A = (roll_Next.f A).bind fun p => (if p.1 ≤ 18446744073709551615 - u then (if m = 0 then (none) else (some (wrap64 (Int.tmod p.1 m), p.2))) else (roll_Below.l0 k m u p.2)) := by
  rw [roll_Below.l0, not_u64 u hu hum]
theorem l0_acc (m u z B : Int) (k : Nat) (hm : 1 ≤ m) (hm1 : m ≤ 9223372036854775807) (hz : 0 ≤ z) (h : z ≤ 18446744073709551615 - u) :
    ((some (z, B)).bind fun p => (if p.1 ≤ 18446744073709551615 - u then (if m = 0 then (none) else (some (wrap64 (Int.tmod p.1 m), p.2))) else (roll_Below.l0 k m u p.2))) = some (z % m, B) := by
  have hmod : z % m < m := Int.emod_lt_of_pos _ (by omega)
  have hmod0 : 0 ≤ z % m := Int.emod_nonneg _ (by omega)
  simp only [Option.bind_some]
  rw [if_pos h, if_neg (by omega), Int.tmod_eq_emod_of_nonneg hz, w64_in (by omega) (by omega)]
theorem l0_rej (m u z B : Int) (k : Nat) (h : ¬ z ≤ 18446744073709551615 - u) :
    ((some (z, B)).bind fun p => (if p.1 ≤ 18446744073709551615 - u then (if m = 0 then (none) else (some (wrap64 (Int.tmod p.1 m), p.2))) else (roll_Below.l0 k m u p.2))) = roll_Below.l0 k m u B := by
  simp only [Option.bind_some]
  rw [if_neg h]
theorem acc_roll (m u A : Int) (hm : 1 ≤ m) (hm1 : m ≤ 9223372036854775807) (hu : 0 ≤ u) (hum : u < m) (k : Nat) (h : mix (IntKind.u64.wrap (A + 11400714819323198485)) ≤ 18446744073709551615 - u) :
    roll_Below.l0 (k + 1) m u A = some (mix (IntKind.u64.wrap (A + 11400714819323198485)) % m, IntKind.u64.wrap (A + 11400714819323198485)) :=
  (l0_open m u A k hu (by omega)).trans ((congrArg (fun o => Option.bind o _) (next_tells A)).trans (l0_acc m u _ _ k hm hm1 (mix_range _).1 h))
theorem rej_roll (m u A : Int) (hm1 : m ≤ 9223372036854775807) (hu : 0 ≤ u) (hum : u < m) (k : Nat) (h : ¬ mix (IntKind.u64.wrap (A + 11400714819323198485)) ≤ 18446744073709551615 - u) :
    roll_Below.l0 (k + 1) m u A = roll_Below.l0 k m u (IntKind.u64.wrap (A + 11400714819323198485)) :=
  (l0_open m u A k hu (by omega)).trans ((congrArg (fun o => Option.bind o _) (next_tells A)).trans (l0_rej m u _ _ k h))
theorem below_fin (s m u : Int) (hm : 1 ≤ m) (hm1 : m ≤ 9223372036854775807) (hu : 0 ≤ u) (hum : u < m) (i : Nat) (h : mix (st s ((i : Int) + 1)) ≤ 18446744073709551615 - u) :
    ∃ v t, 0 ≤ v ∧ v < m ∧ 0 ≤ t ∧ t ≤ 18446744073709551615 ∧ ∀ k, 1 ≤ k → roll_Below.l0 k m u (st s i) = some (v, t) := by
  have hr := st_range s ((i : Int) + 1)
  refine ⟨mix (st s ((i : Int) + 1)) % m, st s ((i : Int) + 1), Int.emod_nonneg _ (by omega), Int.emod_lt_of_pos _ (by omega), hr.1, hr.2, fun k hk => ?_⟩
  obtain ⟨k, rfl⟩ : ∃ q, k = q + 1 := ⟨k - 1, by omega⟩
  rw [acc_roll m u _ hm hm1 hu hum k (by rw [st_next]; exact h), st_next]
theorem below_loops (s m u : Int) (hm : 1 ≤ m) (hm1 : m ≤ 9223372036854775807) (hu : 0 ≤ u) (hum : u < m) (d : Nat) : ∀ (i : Nat), st s ((i : Int) + d + 1) = 0 →
    ∃ v t, 0 ≤ v ∧ v < m ∧ 0 ≤ t ∧ t ≤ 18446744073709551615 ∧ ∀ k, d + 1 ≤ k → roll_Below.l0 k m u (st s i) = some (v, t) := by
  induction d with
  | zero =>
    intro i hz
    have hz2 : st s ((i : Int) + 1) = 0 := hz
    exact below_fin s m u hm hm1 hu hum i (by rw [hz2, mix_zero]; omega)
  | succ d ih =>
    intro i hz
    by_cases h : mix (st s ((i : Int) + 1)) ≤ 18446744073709551615 - u
    · obtain ⟨v, t, h1, h2, h3, h4, h5⟩ := below_fin s m u hm hm1 hu hum i h
      exact ⟨v, t, h1, h2, h3, h4, fun k hk => h5 k (by omega)⟩
    · have e : ((i + 1 : Nat) : Int) + (d : Int) + 1 = (i : Int) + ((d + 1 : Nat) : Int) + 1 := by omega
      obtain ⟨v, t, h1, h2, h3, h4, h5⟩ := ih (i + 1) (by rw [e]; exact hz)
      refine ⟨v, t, h1, h2, h3, h4, fun k hk => ?_⟩
      obtain ⟨k, rfl⟩ : ∃ q, k = q + 1 := ⟨k - 1, by omega⟩
      have h6 := h5 k (by omega)
      rw [rej_roll m u _ hm1 hu hum k (by rw [st_next]; exact h), st_next]
      exact h6
/-- The number below a bound, by both. -/
theorem below_ok (s n : Int) (hs0 : 0 ≤ s) (hs1 : s ≤ 18446744073709551615) (hn : 1 ≤ n) (hn1 : n ≤ 9223372036854775807) :
    ∃ (v t : Int) (K : Nat), 0 ≤ v ∧ v < n ∧ 0 ≤ t ∧ t ≤ 18446744073709551615 ∧ ∀ k, K ≤ k → roll_Below.f k s n = some (v, t) := by
  obtain ⟨d, hd⟩ := zero_at s hs0 hs1
  have hu0 : 0 ≤ (18446744073709551616 - n) % n := Int.emod_nonneg _ (by omega)
  have hu1 : (18446744073709551616 - n) % n < n := Int.emod_lt_of_pos _ (by omega)
  obtain ⟨v, t, h1, h2, h3, h4, h5⟩ := below_loops s n ((18446744073709551616 - n) % n) hn hn1 hu0 hu1 d 0 (by rw [show (((0 : Nat) : Int) + (d : Int) + 1) = (d : Int) + 1 by omega]; exact hd)
  refine ⟨v, t, d + 1, h1, h2, h3, h4, fun k hk => ?_⟩
  have h6 := h5 k hk
  have ew : IntKind.u64.wrap n = n := by rw [u64w]; omega
  have es : st s ((0 : Nat) : Int) = s := by unfold st; omega
  rw [es] at h6
  have e1 : Int.tmod (IntKind.u64.wrap (-n)) n = (18446744073709551616 - n) % n := by
    rw [u64w, show (-n) % 18446744073709551616 = 18446744073709551616 - n by omega, Int.tmod_eq_emod_of_nonneg (by omega)]
  unfold roll_Below.f
  rw [if_neg (by omega), ew, if_neg (by omega), e1]
  exact h6
end Go.Proofs.YtldbkigenaakkaaGreatDoor.Draw
namespace Go.Proofs.YtldbkigenaakkaaGreatDoor.Gro
open Go.RowKit Go.Proofs.YtldbkigenaakkaaGreatDoorOwn Go.Proofs.YtldbkigenaakkaaGreatDoor.Q Go.Proofs.YtldbkigenaakkaaGreatDoor.Val Go.Proofs.YtldbkigenaakkaaGreatDoor.Set Go.Proofs.YtldbkigenaakkaaGreatDoor.Draw Go.Proofs.YtldbkigenaakkaaGreatDoorW.PrintWords Go.Proofs.YtldbkigenaakkaaGreatDoorW.PrintLast Go.Proofs.YtldbkigenaakkaaGreatDoorW.PrintMore
set_option linter.unusedVariables false
set_option linter.unusedSimpArgs false
set_option linter.unusedSectionVars false
theorem mulb {a b A B : Int} (a0 : 0 ≤ a) (a1 : a ≤ A) (b0 : 0 ≤ b) (b1 : b ≤ B) : 0 ≤ a * b ∧ a * b ≤ A * B := ⟨Int.mul_nonneg a0 b0, Int.mul_le_mul a1 b1 b0 (by omega)⟩
def ex (q u v a b c d : Int) : Int := a * (q - u) * (q - v) + b * u * (q - v) + c * (q - u) * v + d * u * v
section
variable {q u v a b c d : Int} (hq : 1 ≤ q ∧ q ≤ 8) (hu : 0 ≤ u ∧ u < q) (hv : 0 ≤ v ∧ v < q) (ha : 0 ≤ a ∧ a ≤ 32) (hb : 0 ≤ b ∧ b ≤ 32) (hc : 0 ≤ c ∧ c ≤ 32) (hd : 0 ≤ d ∧ d ≤ 32)
include hq hu hv ha hb hc hd
theorem ex_in : 0 ≤ ex q u v a b c d ∧ ex q u v a b c d ≤ 8192 := by
  have p0 := mulb ha.1 ha.2 (show 0 ≤ q - u by omega) (show q - u ≤ 8 by omega)
  have p1 := mulb hb.1 hb.2 hu.1 (show u ≤ 8 by omega)
  have p2 := mulb hc.1 hc.2 (show 0 ≤ q - u by omega) (show q - u ≤ 8 by omega)
  have p3 := mulb hd.1 hd.2 hu.1 (show u ≤ 8 by omega)
  have r0 := mulb p0.1 p0.2 (show 0 ≤ q - v by omega) (show q - v ≤ 8 by omega)
  have r1 := mulb p1.1 p1.2 (show 0 ≤ q - v by omega) (show q - v ≤ 8 by omega)
  have r2 := mulb p2.1 p2.2 hv.1 (show v ≤ 8 by omega)
  have r3 := mulb p3.1 p3.2 hv.1 (show v ≤ 8 by omega)
  unfold ex
  omega
theorem ex_a : wrap64 (wrap64 (wrap64 (wrap64 (wrap64 (a * wrap64 (q - u)) * wrap64 (q - v)) + wrap64 (wrap64 (b * u) * wrap64 (q - v))) + wrap64 (wrap64 (c * wrap64 (q - u)) * v)) + wrap64 (wrap64 (d * u) * v)) = ex q u v a b c d := by
  have p0 := mulb ha.1 ha.2 (show 0 ≤ q - u by omega) (show q - u ≤ 8 by omega)
  have p1 := mulb hb.1 hb.2 hu.1 (show u ≤ 8 by omega)
  have p2 := mulb hc.1 hc.2 (show 0 ≤ q - u by omega) (show q - u ≤ 8 by omega)
  have p3 := mulb hd.1 hd.2 hu.1 (show u ≤ 8 by omega)
  have r0 := mulb p0.1 p0.2 (show 0 ≤ q - v by omega) (show q - v ≤ 8 by omega)
  have r1 := mulb p1.1 p1.2 (show 0 ≤ q - v by omega) (show q - v ≤ 8 by omega)
  have r2 := mulb p2.1 p2.2 hv.1 (show v ≤ 8 by omega)
  have r3 := mulb p3.1 p3.2 hv.1 (show v ≤ 8 by omega)
  rw [w64_in (x := q - u) (by omega) (by omega), w64_in (x := q - v) (by omega) (by omega), w64_in (x := a * (q - u)) (by omega) (by omega), w64_in (x := b * u) (by omega) (by omega), w64_in (x := c * (q - u)) (by omega) (by omega), w64_in (x := d * u) (by omega) (by omega)]
  rw [w64_in (x := a * (q - u) * (q - v)) (by omega) (by omega), w64_in (x := b * u * (q - v)) (by omega) (by omega), w64_in (x := c * (q - u) * v) (by omega) (by omega), w64_in (x := d * u * v) (by omega) (by omega)]
  unfold ex
  rw [w64_in (x := a * (q - u) * (q - v) + b * u * (q - v)) (by omega) (by omega), w64_in (x := a * (q - u) * (q - v) + b * u * (q - v) + c * (q - u) * v) (by omega) (by omega)]
  exact w64_in (by omega) (by omega)
end
def Bd (N : Nat) (B : Int) (S : List Int) : Prop := S.length = N ∧ ∀ j : Int, 0 ≤ j → j < (N : Int) → 0 ≤ rd S j ∧ rd S j ≤ B
theorem Bd.put {N : Nat} {B p e : Int} {S : List Int} (h : Bd N B S) (p0 : 0 ≤ p) (p1 : p < (N : Int)) (e0 : 0 ≤ e) (e1 : e ≤ 8192) : Bd N (B + 8192) (S.set p.toNat (rd S p + e)) := by
  refine ⟨by rw [List.length_set]; exact h.1, fun j j0 j1 => ?_⟩
  have hl := h.1
  rw [rd_put p0 (by omega) j0]
  have a := h.2 j j0 j1
  have b := h.2 p p0 p1
  split <;> omega
section
variable {W H r q : Int} (hW : 4 ≤ W ∧ W ≤ 32) (hH : 4 ≤ H ∧ H ≤ 32) (hr : 0 ≤ r ∧ r ≤ 4) (hq : 1 ≤ q ∧ q ≤ 8)
include hW hH hq
theorem div_in {x : Int} (x0 : 0 ≤ x) (X : Int) (hx : x ≤ X) : 0 ≤ x / q ∧ x / q ≤ X / q ∧ x / q ≤ x := ⟨Int.ediv_nonneg x0 (by omega), Int.ediv_le_ediv (by omega) hx, Int.ediv_le_self _ x0⟩
/-- One place of the sums. -/
theorem cells {N : Nat} {T : List Int} {s kk : Int} (hN : (N : Int) = (H + 1) * (W + 1)) (hT : (T.length : Int) = (W / q + 2) * (H / q + 2)) (ht : ∀ j : Int, 0 ≤ j → j < (T.length : Int) → 0 ≤ rd T j ∧ rd T j ≤ 32) {y : Int} (y0 : 0 ≤ y) (y1 : y ≤ H) : ∀ (d : Nat) (x : Int) (S : List Int) (B : Int), 0 ≤ x → x + d = W + 1 → 0 ≤ B → B + 8192 * d ≤ 1000000000000 → Bd N B S → ∃ S', Bd N (B + 8192 * d) S' ∧
    (∀ res : S4, Ev (fun k => land_Grow.l2 k W H r S' kk q (W / q + 2) T (y + 1) s) res → Ev (fun k => land_Grow.l3 k W H r S kk q (W / q + 2) T y x s) res) := by
  obtain ⟨W0, W1⟩ := hW
  obtain ⟨H0, H1⟩ := hH
  have w1 : wrap64 (W + 1) = W + 1 := w64_in (by omega) (by omega)
  have wy : wrap64 (y + 1) = y + 1 := w64_in (by omega) (by omega)
  have dW := div_in ⟨W0, W1⟩ ⟨H0, H1⟩ hq (show 0 ≤ W by omega) W (Int.le_refl _)
  have dH := div_in ⟨W0, W1⟩ ⟨H0, H1⟩ hq (show 0 ≤ H by omega) H (Int.le_refl _)
  have dy := div_in ⟨W0, W1⟩ ⟨H0, H1⟩ hq y0 H y1
  have uy0 := Int.emod_nonneg y (show q ≠ 0 by omega)
  have uy1 := Int.emod_lt_of_pos y (show 0 < q by omega)
  obtain ⟨p0, p1⟩ := row_in (m := W + 1) y0 y1 (by omega)
  have pm := (mulb (show 0 ≤ H + 1 by omega) (show H + 1 ≤ 33 by omega) (show 0 ≤ W + 1 by omega) (show W + 1 ≤ 33 by omega)).2
  have hT2 : (W / q + 2) * (H / q + 2) = H / q * (W / q + 2) + 2 * (W / q + 2) := by rw [Int.mul_comm, Int.add_mul]
  have qm := (mulb (show 0 ≤ H / q by omega) (show H / q ≤ 32 by omega) (show 0 ≤ W / q + 2 by omega) (show W / q + 2 ≤ 34 by omega)).2
  have ym : 0 ≤ y / q * (W / q + 2) ∧ y / q * (W / q + 2) ≤ H / q * (W / q + 2) := ⟨Int.mul_nonneg dy.1 (by omega), Int.mul_le_mul_of_nonneg_right dy.2.1 (by omega)⟩
  have qq := mulb (show 0 ≤ q - 1 by omega) (show q - 1 ≤ 7 by omega) (show 0 ≤ q by omega) hq.2
  rw [Int.sub_mul, Int.one_mul] at qq
  intro d; induction d with
  | zero =>
    intro x S B x0 hx hB hb hS
    refine ⟨S, by simpa using hS, fun res h => Ev.step (fun k => ?_) h⟩
    · simp only [land_Grow.l3]; rw [if_neg (by omega), wy]
  | succ d ih =>
    intro x S B x0 hx hB hb hS
    have x1 : x ≤ W := by omega
    have dx := div_in ⟨W0, W1⟩ ⟨H0, H1⟩ hq x0 W x1
    have ux0 := Int.emod_nonneg x (show q ≠ 0 by omega)
    have ux1 := Int.emod_lt_of_pos x (show 0 < q by omega)
    generalize hD : W / q + 2 = D at *
    generalize hE : H / q * D = E at *
    generalize hA : y / q * D = A at *
    have t0 := ht (A + x / q) (by omega) (by omega)
    have t1 := ht (A + x / q + 1) (by omega) (by omega)
    have t2 := ht (A + x / q + D) (by omega) (by omega)
    have t3 := ht (A + x / q + D + 1) (by omega) (by omega)
    have xin := ex_in hq ⟨ux0, ux1⟩ ⟨uy0, uy1⟩ t0 t1 t2 t3
    have xa := ex_a hq ⟨ux0, ux1⟩ ⟨uy0, uy1⟩ t0 t1 t2 t3
    generalize hX : ex q (x % q) (y % q) (rd T (A + x / q)) (rd T (A + x / q + 1)) (rd T (A + x / q + D)) (rd T (A + x / q + D + 1)) = X at *
    have Xd : 0 ≤ X / (q * q) ∧ X / (q * q) ≤ X := ⟨Int.ediv_nonneg xin.1 (by omega), Int.ediv_le_self _ xin.1⟩
    generalize hP : y * (W + 1) = P at *
    have hs := hS.2 (P + x) (by omega) (by omega)
    have hl := hS.1
    obtain ⟨S', s1, s2⟩ := ih (x + 1) (S.set (P + x).toNat (rd S (P + x) + X / (q * q))) (B + 8192) (by omega) (by omega) (by omega) (by omega) (hS.put (by omega) (by omega) Xd.1 (by omega))
    have e1 : wrap64 (Int.tdiv y q) = y / q := by rw [Int.tdiv_eq_ediv_of_nonneg y0]; exact w64_in (by omega) (by omega)
    have e2 : wrap64 (Int.tdiv x q) = x / q := by rw [Int.tdiv_eq_ediv_of_nonneg x0]; exact w64_in (by omega) (by omega)
    have e3 : wrap64 A = A := w64_in (by omega) (by omega)
    have e4 : wrap64 (A + x / q) = A + x / q := w64_in (by omega) (by omega)
    have e5 : wrap64 (A + x / q + 1) = A + x / q + 1 := w64_in (by omega) (by omega)
    have e6 : wrap64 (A + x / q + D) = A + x / q + D := w64_in (by omega) (by omega)
    have e7 : wrap64 (A + x / q + D + 1) = A + x / q + D + 1 := w64_in (by omega) (by omega)
    have e8 : wrap64 P = P := w64_in (by omega) (by omega)
    have e9 : wrap64 (P + x) = P + x := w64_in (by omega) (by omega)
    have e10 : wrap64 (q * q) = q * q := w64_in (by omega) (by omega)
    have e11 : Int.tmod x q = x % q := Int.tmod_eq_emod_of_nonneg x0
    have e12 : Int.tmod y q = y % q := Int.tmod_eq_emod_of_nonneg y0
    have e13 : wrap64 (Int.tdiv X (q * q)) = X / (q * q) := by rw [Int.tdiv_eq_ediv_of_nonneg xin.1]; exact w64_in (by omega) (by omega)
    have e14 : wrap64 (rd S (P + x) + X / (q * q)) = rd S (P + x) + X / (q * q) := w64_in (by omega) (by omega)
    have e15 : wrap64 (x + 1) = x + 1 := w64_in (by omega) (by omega)
    have c1 : (q = 0) = False := eq_false (by omega)
    have c2 : (q * q = 0) = False := eq_false (by omega)
    have c3 : (0 ≤ A + x / q) = True := eq_true (by omega)
    have c4 : (A + x / q < (T.length : Int)) = True := eq_true (by omega)
    have c5 : (0 ≤ A + x / q + 1) = True := eq_true (by omega)
    have c6 : (A + x / q + 1 < (T.length : Int)) = True := eq_true (by omega)
    have c7 : (0 ≤ A + x / q + D) = True := eq_true (by omega)
    have c8 : (A + x / q + D < (T.length : Int)) = True := eq_true (by omega)
    have c9 : (0 ≤ A + x / q + D + 1) = True := eq_true (by omega)
    have c10 : (A + x / q + D + 1 < (T.length : Int)) = True := eq_true (by omega)
    have c11 : (0 ≤ P + x) = True := eq_true (by omega)
    have c12 : (P + x < (S.length : Int)) = True := eq_true (by omega)
    have c13 : (x ≤ W) = True := eq_true x1
    refine ⟨S', ?_, fun res h => Ev.step (fun k => ?_) (s2 res h)⟩
    · have : B + 8192 + 8192 * (d : Int) = B + 8192 * ((d + 1 : Nat) : Int) := by omega
      rw [← this]; exact s1
    · simp only [land_Grow.l3, e1, e2, hA, e3, e4, e5, e6, e7, w1, hP, e8, e9, e10, e11, e12, c1, c2, c3, c4, c5, c6, c7, c8, c9, c10, c11, c12, c13, if_true, if_false, xa, e13, e14, e15]
theorem lines {N : Nat} {T : List Int} {s kk : Int} (hk : 0 ≤ kk ∧ kk ≤ 3) (hN : (N : Int) = (H + 1) * (W + 1)) (hT : (T.length : Int) = (W / q + 2) * (H / q + 2)) (ht : ∀ j : Int, 0 ≤ j → j < (T.length : Int) → 0 ≤ rd T j ∧ rd T j ≤ 32) : ∀ (d : Nat) (y : Int) (S : List Int) (B : Int), 0 ≤ y → y + d = H + 1 → 0 ≤ B → B + 300000 * d ≤ 1000000000000 → Bd N B S → ∃ (S' : List Int) (B' : Int), 0 ≤ B' ∧ B' ≤ B + 300000 * d ∧ Bd N B' S' ∧
    (∀ res : S4, Ev (fun k => land_Grow.l0 k W H r S' (kk - 1) s) res → Ev (fun k => land_Grow.l2 k W H r S kk q (W / q + 2) T y s) res) := by
  intro d; induction d with
  | zero =>
    intro y S B y0 hy hB hb hS
    refine ⟨S, B, hB, by omega, hS, fun res h => Ev.step (fun k => ?_) h⟩
    · simp only [land_Grow.l2]; rw [if_neg (by omega), w64_in (x := kk - 1) (by omega) (by omega)]
  | succ d ih =>
    intro y S B y0 hy hB hb hS
    obtain ⟨S1, a1, a2⟩ := cells (r := r) (s := s) (kk := kk) hW hH hq hN hT ht y0 (by omega) (W + 1).toNat 0 S B (by omega) (by omega) hB (by omega) hS
    obtain ⟨S2, B2, b1, b2, b3, b4⟩ := ih (y + 1) S1 _ (by omega) (by omega) (by omega) (by omega) a1
    refine ⟨S2, B2, b1, by omega, b3, fun res h => Ev.step (fun k => ?_) (a2 res (b4 res h))⟩
    · simp only [land_Grow.l2]; rw [if_pos (by omega)]
include hr
theorem table {S : List Int} {kk D : Int} : ∀ (d : Nat) (i : Int) (T : List Int) (s : Int), 0 ≤ i → i + d = (T.length : Int) → T.length ≤ 100000 → 0 ≤ s → s ≤ 18446744073709551615 → (∀ j : Int, 0 ≤ j → j < i → 0 ≤ rd T j ∧ rd T j ≤ 32) → ∃ (T' : List Int) (s' : Int), T'.length = T.length ∧ (∀ j : Int, 0 ≤ j → j < (T.length : Int) → 0 ≤ rd T' j ∧ rd T' j ≤ 32) ∧ 0 ≤ s' ∧ s' ≤ 18446744073709551615 ∧
    (∀ res : S4, Ev (fun k => land_Grow.l2 k W H r S kk q D T' 0 s') res → Ev (fun k => land_Grow.l1 k W H r S kk q D T (T.length : Int) i s) res) := by
  have rq := mulb hr.1 hr.2 (show 0 ≤ q by omega) hq.2
  have w1 : wrap64 (wrap64 (r * q) + 1) = r * q + 1 := by rw [w64_in (x := r * q) (by omega) (by omega)]; exact w64_in (by omega) (by omega)
  intro d; induction d with
  | zero =>
    intro i T s i0 hi hl s0 s1 hT
    refine ⟨T, s, rfl, fun j a b => hT j a (by omega), s0, s1, fun res h => Ev.step (fun k => ?_) h⟩
    · simp only [land_Grow.l1]; rw [if_neg (by omega)]
  | succ d ih =>
    intro i T s i0 hi hl s0 s1 hT
    obtain ⟨v, t, K, v0, v1, t0, t1, hv⟩ := below_ok s (r * q + 1) s0 s1 (by omega) (by omega)
    have w2 : wrap64 (i + 1) = i + 1 := w64_in (by omega) (by omega)
    have i1 : i < (T.length : Int) := by omega
    obtain ⟨T', s', a1, a2, a3, a4, a5⟩ := ih (i + 1) (T.set i.toNat v) t (by omega) (by rw [List.length_set]; omega) (by rw [List.length_set]; omega) t0 t1 (fun j j0 j1 => by
      rw [rd_put i0 i1 j0]
      split
      · omega
      · exact hT j j0 (by omega))
    rw [List.length_set] at a1 a2 a5
    refine ⟨T', s', a1, a2, a3, a4, fun res h => ?_⟩
    · refine Ev.step (f := fun k => (roll_Below.f k s (r * q + 1)).bind fun p => land_Grow.l1 k W H r S kk q D (T.set i.toNat p.1) (T.length : Int) (i + 1) p.2) (fun k => ?_) (Ev.bind ⟨K, fun k hk => hv k hk⟩ (a5 res h))
      simp only [land_Grow.l1, i1, if_true, w1, i0, w2]
/-- One of the four grids. -/
theorem level {N : Nat} {kk : Int} (hk : 0 ≤ kk ∧ kk ≤ 3) (hN : (N : Int) = (H + 1) * (W + 1)) (e1 : shl .i64 1 kk = q) (S : List Int) (B s : Int) (hB : 0 ≤ B) (hb : B ≤ 900000000000) (hS : Bd N B S) (s0 : 0 ≤ s) (s1 : s ≤ 18446744073709551615) : ∃ (S' : List Int) (B' s' : Int), 0 ≤ B' ∧ B' ≤ B + 10000000 ∧ Bd N B' S' ∧ 0 ≤ s' ∧ s' ≤ 18446744073709551615 ∧
    (∀ res : S4, Ev (fun k => land_Grow.l0 k W H r S' (kk - 1) s') res → Ev (fun k => land_Grow.l0 k W H r S kk s) res) := by
  obtain ⟨W0, W1⟩ := id hW
  obtain ⟨H0, H1⟩ := id hH
  have dW := div_in hW hH hq (show 0 ≤ W by omega) W (Int.le_refl _)
  have dH := div_in hW hH hq (show 0 ≤ H by omega) H (Int.le_refl _)
  have pm := mulb (show 0 ≤ W / q + 2 by omega) (show W / q + 2 ≤ 34 by omega) (show 0 ≤ H / q + 2 by omega) (show H / q + 2 ≤ 34 by omega)
  have w1 : wrap64 (wrap64 (Int.tdiv W q) + 2) = W / q + 2 := by rw [Int.tdiv_eq_ediv_of_nonneg (by omega), w64_in (x := W / q) (by omega) (by omega)]; exact w64_in (by omega) (by omega)
  have w2 : wrap64 (wrap64 (Int.tdiv H q) + 2) = H / q + 2 := by rw [Int.tdiv_eq_ediv_of_nonneg (by omega), w64_in (x := H / q) (by omega) (by omega)]; exact w64_in (by omega) (by omega)
  have w3 : wrap64 ((W / q + 2) * (H / q + 2)) = (W / q + 2) * (H / q + 2) := w64_in (by omega) (by omega)
  have hlen : ((List.replicate ((W / q + 2) * (H / q + 2)).toNat (0 : Int)).length : Int) = (W / q + 2) * (H / q + 2) := by rw [List.length_replicate]; omega
  obtain ⟨T, t, a1, a2, a3, a4, a5⟩ := table hW hH hr hq (S := S) (kk := kk) (D := W / q + 2) (List.replicate ((W / q + 2) * (H / q + 2)).toNat (0 : Int)).length 0 (List.replicate ((W / q + 2) * (H / q + 2)).toNat (0 : Int)) s (by omega) (by omega) (by omega) s0 s1 (fun j a b => by omega)
  obtain ⟨S', B', b1, b2, b3, b4⟩ := lines (r := r) (s := t) hW hH hq hk hN (T := T) (by rw [a1]; exact hlen) (by rw [a1]; exact a2) (H + 1).toNat 0 S B (by omega) (by omega) hB (by omega) hS
  refine ⟨S', B', t, b1, by omega, b3, a3, a4, fun res h => Ev.step (fun k => ?_) (a5 res (b4 res h))⟩
  · simp only [land_Grow.l0, e1, w1, w2, w3]
    rw [if_pos (show kk ≥ 0 by omega), if_pos hk.1, if_neg (by omega), if_pos pm.1, if_pos (by omega)]
    simp only [Option.bind_some]
end
def half (S : List Int) : List Int := S.map fun z => z / 2
theorem rd_half {S : List Int} {j : Int} (j0 : 0 ≤ j) (j1 : j < (S.length : Int)) : rd (half S) j = rd S j / 2 := by
  unfold half rd
  have : j.toNat < S.length := by omega
  simp [List.getD_eq_getElem?_getD, this]
theorem half_ok {W H : Int} {O : List Int} (hO : O.length ≤ 100000) (hb : ∀ j : Int, 0 ≤ j → j < (O.length : Int) → 0 ≤ rd O j ∧ rd O j ≤ 1000000000000) : ∀ (d : Nat) (i : Int) (S : List Int), 0 ≤ i → i + d = (O.length : Int) → S.length = O.length → (∀ j : Int, 0 ≤ j → j < i → rd S j = rd O j / 2) → (∀ j : Int, i ≤ j → j < (O.length : Int) → rd S j = rd O j) →
    (∀ res : S4, Ev (fun k => land_Settle.f k W H (half O)) res → Ev (fun k => land_Grow.l4 k W H S (O.length : Int) i) res) := by
  intro d; induction d with
  | zero =>
    intro i S i0 hi hl h1 h2
    have e : S = half O := rd_ext (by rw [hl]; unfold half; rw [List.length_map]) fun j j0 j1 => by rw [rd_half j0 (by omega)]; exact h1 j j0 (by omega)
    subst e
    refine fun res h => Ev.step (f := fun k => (land_Settle.f k W H (half O)).bind fun b => some (b.1, b.2.1, b.2.2.1, b.2.2.2)) (fun k => ?_) (Ev.bind h (Ev.now _))
    · simp only [land_Grow.l4]; rw [if_neg (by omega)]
  | succ d ih =>
    intro i S i0 hi hl h1 h2
    have i1 : i < (O.length : Int) := by omega
    have hz := hb i i0 i1
    have e1 := h2 i (Int.le_refl _) i1
    have e2 : wrap64 (Int.tdiv (rd S i) 2) = rd O i / 2 := by rw [e1, Int.tdiv_eq_ediv_of_nonneg hz.1]; exact w64_in (by omega) (by omega)
    have e3 : wrap64 (i + 1) = i + 1 := w64_in (by omega) (by omega)
    have a := ih (i + 1) (S.set i.toNat (rd O i / 2)) (by omega) (by omega) (by rw [List.length_set]; exact hl) (fun j j0 j1 => by
      rw [rd_put i0 (by omega) j0]
      split
      · rename_i e; rw [e]
      · exact h1 j j0 (by omega)) (fun j j0 j1 => by rw [rd_put i0 (by omega) (by omega), if_neg (by omega)]; exact h2 j (by omega) j1)
    refine fun res h => Ev.step (fun k => ?_) (a res h)
    · simp only [land_Grow.l4]; rw [if_pos i1, if_pos i0, if_pos (by omega), e2, e3]
theorem new_ok (s : ByteArray) (hs : s.size ≤ 9223372036854775807) (d : Nat) : ∀ (i acc : Int), 0 ≤ acc → acc ≤ 18446744073709551615 → 0 ≤ i → i ≤ s.size → (s.size : Int) - i = d →
    ∃ r, 0 ≤ r ∧ r ≤ 18446744073709551615 ∧ ∀ k, d < k → roll_New.l0 k s acc (s.size : Int) i = some r := by
  induction d with
  | zero =>
    intro i acc b0 b1 h0 h1 hd
    refine ⟨acc, b0, b1, fun k hk => ?_⟩
    obtain ⟨k, rfl⟩ : ∃ q, k = q + 1 := ⟨k - 1, by omega⟩
    simp only [roll_New.l0]
    rw [if_neg (by omega)]
  | succ d ih =>
    intro i acc b0 b1 h0 h1 hd
    have hw : ∀ x : Int, 0 ≤ IntKind.u64.wrap x ∧ IntKind.u64.wrap x ≤ 18446744073709551615 := fun x => by rw [u64w]; omega
    have hw' := hw ((Go.bits .xor .u64 acc (IntKind.u64.wrap (bt s i))) * 1099511628211)
    obtain ⟨r, r0, r1, hr⟩ := ih (i + 1) (IntKind.u64.wrap ((Go.bits .xor .u64 acc (IntKind.u64.wrap (bt s i))) * 1099511628211)) hw'.1 hw'.2 (by omega) (by omega) (by omega)
    refine ⟨r, r0, r1, fun k hk => ?_⟩
    obtain ⟨k, rfl⟩ : ∃ q, k = q + 1 := ⟨k - 1, by omega⟩
    have h := hr k (by omega)
    simp only [roll_New.l0]
    rw [if_pos (by omega), if_pos h0, if_pos (by omega), w64_in (by omega) (by omega)]
    exact h
theorem grow_ok (a W H r : Int) (a0 : 0 ≤ a) (a1 : a ≤ 18446744073709551615) : ∃ res : S4, Ev (fun k => land_Grow.f k a W H r) res ∧ (res.2.2.2 = 0 → Valid res.1 res.2.1 res.2.2.1) := by
  by_cases c : (4 ≤ W ∧ W ≤ 32 ∧ 4 ≤ H ∧ H ≤ 32) ∧ (0 ≤ r ∧ r ≤ 4)
  · obtain ⟨⟨W0, W1, H0, H1⟩, hr⟩ := c
    have hW : 4 ≤ W ∧ W ≤ 32 := ⟨W0, W1⟩
    have hH : 4 ≤ H ∧ H ≤ 32 := ⟨H0, H1⟩
    obtain ⟨s, s0, s1, hs⟩ := new_ok (⟨#[108, 97, 110, 100]⟩ : ByteArray) (by decide) (⟨#[108, 97, 110, 100]⟩ : ByteArray).size 0 a a0 a1 (by omega) (by omega) (by omega)
    have pm := mulb (show 0 ≤ H + 1 by omega) (show H + 1 ≤ 33 by omega) (show 0 ≤ W + 1 by omega) (show W + 1 ≤ 33 by omega)
    have wl : wrap64 (wrap64 (W + 1) * wrap64 (H + 1)) = (H + 1) * (W + 1) := wrap_len W0 W1 H0 H1
    have hN : ((((H + 1) * (W + 1)).toNat : Nat) : Int) = (H + 1) * (W + 1) := by omega
    have hz : Bd ((H + 1) * (W + 1)).toNat 0 (List.replicate ((H + 1) * (W + 1)).toNat 0) := by
      refine ⟨List.length_replicate, fun j j0 j1 => ?_⟩
      unfold rd
      simp [List.getD_eq_getElem?_getD, List.getElem?_replicate]
      split <;> simp
    obtain ⟨S1, B1, t1, p1, p2, p3, p4, p5, p6⟩ := level hW hH hr (q := 8) (by omega) (kk := 3) (by omega) hN (by decide +kernel) _ 0 s (by omega) (by omega) hz s0 s1
    obtain ⟨S2, B2, t2, q1, q2, q3, q4, q5, q6⟩ := level hW hH hr (q := 4) (by omega) (kk := 2) (by omega) hN (by decide +kernel) _ B1 t1 p1 (by omega) p3 p4 p5
    obtain ⟨S3, B3, t3, r1, r2, r3, r4, r5, r6⟩ := level hW hH hr (q := 2) (by omega) (kk := 1) (by omega) hN (by decide +kernel) _ B2 t2 q1 (by omega) q3 q4 q5
    obtain ⟨S4', B4, t4, u1, u2, u3, u4, u5, u6⟩ := level hW hH hr (q := 1) (by omega) (kk := 0) (by omega) hN (by decide +kernel) _ B3 t3 r1 (by omega) r3 r4 r5
    have ul := u3.1
    have h1 := half_ok (W := W) (H := H) (O := S4') (by omega) (fun j j0 j1 => by have := u3.2 j j0 (by omega); omega) S4'.length 0 S4' (by omega) (by omega) rfl (fun j j0 j1 => by omega) (fun j j0 j1 => rfl)
    have hl : (half S4').length = S4'.length := by unfold half; rw [List.length_map]
    have z1 : Sides W H (half S4') := ⟨W0, W1, H0, H1, by omega⟩
    obtain ⟨M, v1, z4, z5⟩ := settle_yes z1
    refine ⟨(W, H, M, 0), ?_, fun _ => ?_⟩
    · have k1 : Ev (fun k => land_Grow.l0 k W H r (List.replicate ((H + 1) * (W + 1)).toNat 0) 3 s) (W, H, M, 0) := p6 _ (q6 _ (r6 _ (u6 _ (Ev.step (fun k => by simp only [land_Grow.l0]; rw [if_neg (by omega)]) (h1 _ v1)))))
      refine Ev.step (f := fun k => (roll_New.f (k) a (⟨#[108, 97, 110, 100]⟩ : ByteArray)).bind fun t => land_Grow.l0 k W H r (List.replicate ((H + 1) * (W + 1)).toNat 0) 3 t) (fun k => ?_) (Ev.bind ⟨10, fun k hk => hs k (by have : (⟨#[108, 97, 110, 100]⟩ : ByteArray).size = 4 := rfl; omega)⟩ k1)
      unfold land_Grow.f
      rw [sides_ok]
      simp only [Option.bind_some, decide_eq_true_eq]
      rw [if_pos ⟨W0, W1, H0, H1⟩, if_neg (by omega), decide_eq_false (by omega)]
      simp only [land_Grow.j0, wl, pm.1, if_true, show (((H + 1) * (W + 1)).toNat ≤ 35184372088832) = True from eq_true (by omega)]
      rfl
    · have hlm := z4.len
      rw [List.length_map] at hlm
      have z1' : Sides W H M := by unfold Sides at z1 ⊢; rw [hlm]; exact z1
      refine ⟨z1', z4.hts, fun y x y0 y1 x0 x1 => (steps_places z1').2 (fun j j0 j1 => z5 j j0 (by rw [List.length_map]; omega)) y x y0 y1 x0 x1⟩
  · refine ⟨(0, 0, [], 1), ⟨1, fun k hk => ?_⟩, fun h => absurd h (by decide)⟩
    obtain ⟨k, rfl⟩ : ∃ m, k = m + 1 := ⟨k - 1, by omega⟩
    · unfold land_Grow.f
      rw [sides_ok]
      simp only [Option.bind_some, decide_eq_true_eq, land_Grow.j0]
      by_cases h1 : 4 ≤ W ∧ W ≤ 32 ∧ 4 ≤ H ∧ H ≤ 32
      · rw [if_pos h1]
        by_cases h2 : r < 0
        · rw [if_pos h2, if_pos trivial]
        · rw [if_neg h2, if_pos (show r > 4 by omega)]
      · rw [if_neg h1, if_pos trivial]
end Go.Proofs.YtldbkigenaakkaaGreatDoor.Gro
namespace Go.Proofs.YtldbkigenaakkaaGreatDoor.Pure
open Go.RowKit Go.Proofs.YtldbkigenaakkaaGreatDoorOwn Go.Proofs.YtldbkigenaakkaaGreatDoor.Q Go.Proofs.YtldbkigenaakkaaGreatDoor.Val Go.Proofs.YtldbkigenaakkaaGreatDoor.Til Go.Proofs.YtldbkigenaakkaaGreatDoor.Shf Go.Proofs.YtldbkigenaakkaaGreatDoorW.PrintWords Go.Proofs.YtldbkigenaakkaaGreatDoorW.PrintLast
set_option linter.unusedVariables false
set_option linter.unusedSimpArgs false
theorem list_self {l : List Int} (hl : l.length < 1000000000) : ∀ (d : Nat) (i : Int), 0 ≤ i → i + d = l.length → Ev (fun k => hinterlandsame_List_int.l0 k l l i) true := by
  intro d; induction d with
  | zero =>
    intro i i0 hd
    refine Ev.step (fun _ => rfl) ?_
    simp only [hinterlandsame_List_int.l0, show ¬ i < (l.length : Int) by omega, if_false]; exact Ev.now _
  | succ d ih =>
    intro i i0 hd
    refine Ev.step (fun _ => rfl) ?_
    simp only [hinterlandsame_List_int.l0, show i < (l.length : Int) by omega, i0, if_true, show wrap64 (i + 1) = i + 1 from w64_in (by omega) (by omega)]
    exact ih (i + 1) (by omega) (by omega)
theorem land_self (a b : Int) {l : List Int} (hl : l.length < 1000000000) : Ev (fun k => hinterlandsame_Land.f k a b l a b l) true := by
  unfold hinterlandsame_Land.f
  simp only [if_true]
  refine Ev.bind (?_ : Ev _ true) (Ev.now _)
  unfold hinterlandsame_List_int.f
  simp only [if_true]
  exact list_self hl l.length 0 (by omega) (by omega)
theorem kn : hinterlandtop_wKnown.f = some true := rfl
/-- What was moved is paid for. -/
theorem moved_ok {W H : Int} {L M : List Int} (v : Valid W H L) (vM : Valid W H M) {A : List Int} {acts : List (List Int)} {n i S : Int} (hp : 250 * mv (rd M) (rd L) L.length ≤ S) (h3 : (A.length : Int) = 3 → S = 250 * mv (rd M) (rd L) L.length) (fin : Ev (fun k => hinterlandtop_TopLand.j5 k A acts n i false W H M) true) : ∀ (d : Nat) (q : Int), 0 ≤ q → q + d = (L.length : Int) → Ev (fun k => hinterlandtop_TopLand.l1 k A S (mv (rd M) (rd L) q.toNat) acts n i M (M.length : Int) q W H L W H M) true := by
  obtain ⟨n0, n1⟩ := len_le v.1
  have hl : (M.length : Int) = (L.length : Int) := by have := v.1.2.2.2.2; have := vM.1.2.2.2.2; omega
  have dl : ∀ q : Int, 0 ≤ q → q < (L.length : Int) → 0 ≤ df (rd M q) (rd L q) ∧ df (rd M q) (rd L q) ≤ 15 := fun q a b => by
    have h1 := v.2.1 q a b
    have h2 := vM.2.1 q a (by omega)
    unfold df mx; split <;> omega
  have bd : ∀ q : Int, 0 ≤ q → q ≤ (L.length : Int) → 0 ≤ mv (rd M) (rd L) q.toNat ∧ mv (rd M) (rd L) q.toNat ≤ 20000 := fun q a b => by
    have h1 := mv_nn (rd M) (rd L) q.toNat
    have h2 := mv_le (f := rd M) (g := rd L) q.toNat (fun q' c d => (dl q' c (by omega)).2)
    omega
  intro d; induction d with
  | zero =>
    intro q q0 hq
    have e : q.toNat = L.length := by omega
    have b := bd q q0 (by omega)
    rw [e] at b ⊢
    have w : wrap64 (mv (rd M) (rd L) L.length * 250) = mv (rd M) (rd L) L.length * 250 := w64_in (by omega) (by omega)
    refine Ev.step (fun _ => rfl) ?_
    simp only [hinterlandtop_TopLand.l1, show ¬ q < (M.length : Int) by omega, if_false, w, show ¬ S < mv (rd M) (rd L) L.length * 250 by omega]
    by_cases ha : (A.length : Int) = 3
    · have := h3 ha
      simp only [ha, if_true, show (S != mv (rd M) (rd L) L.length * 250) = false from by rw [this, Int.mul_comm]; simp]
      exact fin
    · simp only [ha, if_false]; exact fin
  | succ d ih =>
    intro q q0 hq
    have q1 : q < (L.length : Int) := by omega
    have qm : q < (M.length : Int) := by omega
    have b := bd q q0 (by omega)
    have b1 := bd (q + 1) (by omega) (by omega)
    have dq := dl q q0 q1
    have tn : (q + 1).toNat = q.toNat + 1 := by omega
    have ti : ((q.toNat : Nat) : Int) = q := by omega
    have ms : mv (rd M) (rd L) (q + 1).toNat = mv (rd M) (rd L) q.toNat + df (rd M q) (rd L q) := by rw [tn, mv, ti]
    have hA := Apart_ok (a := rd M q) (b := rd L q) (by have := vM.2.1 q q0 qm; omega) (by have := v.2.1 q q0 q1; omega)
    have w1 : wrap64 (mv (rd M) (rd L) q.toNat + mx (rd M q - rd L q) (rd L q - rd M q)) = mv (rd M) (rd L) (q + 1).toNat := by rw [ms]; unfold df at dq ⊢; exact w64_in (by omega) (by omega)
    have w2 : wrap64 (q + 1) = q + 1 := w64_in (by omega) (by omega)
    refine Ev.step (fun _ => rfl) ?_
    simp only [hinterlandtop_TopLand.l1, qm, q0, q1, if_true, hA, Option.bind_some, w1, w2]
    exact ih (q + 1) (by omega) (by omega)
/-- One after the other, whatever is done. -/
theorem acts_ok {acts : List (List Int)} (ha : (acts.length : Int) ≤ 60) : ∀ (d : Nat) (i : Int) (W H : Int) (L : List Int), Valid W H L → 0 ≤ i → i + d = (acts.length : Int) → Ev (fun k => hinterlandtop_TopLand.l0 k acts (acts.length : Int) i W H L) true := by
  intro d; induction d with
  | zero =>
    intro i W H L v i0 hd
    obtain ⟨e, v1, v2⟩ := validate_ok W H L
    obtain rfl := v2.2 v
    refine Ev.step (fun _ => rfl) ?_
    simp only [hinterlandtop_TopLand.l0, show ¬ i < (acts.length : Int) by omega, if_false]
    refine Ev.bind v1 ?_
    simp only [if_true, kn, Option.bind_some]; exact Ev.now _
  | succ d ih =>
    intro i W H L v i0 hd
    have i1 : i < (acts.length : Int) := by omega
    have wi : wrap64 (i + 1) = i + 1 := w64_in (by omega) (by omega)
    have next : ∀ M : List Int, Valid W H M → Ev (fun k => hinterlandtop_TopLand.l0 k acts (acts.length : Int) (wrap64 (i + 1)) W H M) true := fun M vM => by rw [wi]; exact ih (i + 1) W H M vM (by omega) (by omega)
    generalize hA : rd_L3 acts i = A
    have bad : ∀ (p e w h : Int) (Z : List Int), ¬ e = 0 → Ev (fun k => hinterlandtop_TopLand.j2 k A p e 0 acts (acts.length : Int) i W H L w h Z) true := by
      intro p e w h Z he
      refine Ev.step (fun _ => rfl) ?_
      simp only [hinterlandtop_TopLand.j2, he, if_false]; exact next L v
    have good : ∀ (M : List Int) (S : Int), 0 < (A.length : Int) → Valid W H M → 250 * mv (rd M) (rd L) L.length ≤ S → ((A.length : Int) = 3 → S = 250 * mv (rd M) (rd L) L.length) → Ev (fun k => hinterlandtop_TopLand.j2 k A S 0 0 acts (acts.length : Int) i W H L W H M) true := by
      intro M S pA vM hp h3
      obtain ⟨n0, n1⟩ := len_le vM.1
      have hl : (M.length : Int) = (L.length : Int) := by have := v.1.2.2.2.2; have := vM.1.2.2.2.2; omega
      obtain ⟨e, v1, v2⟩ := validate_ok W H M
      obtain rfl := v2.2 vM
      obtain ⟨t, t1, t2⟩ := Tex.text_ok vM
      obtain ⟨l, er, r1, r2⟩ := Riv.river_is W H M (rd A 0)
      have f7 : Ev (fun k => hinterlandtop_TopLand.j7 k acts (acts.length : Int) i false W H M) true := by
        refine Ev.step (fun _ => rfl) ?_
        simp only [hinterlandtop_TopLand.j7, Bool.false_eq_true, if_false]; exact next M vM
      have f6 : Ev (fun k => hinterlandtop_TopLand.j6 k A acts (acts.length : Int) i false W H M) true := by
        refine Ev.step (fun _ => rfl) ?_
        simp only [hinterlandtop_TopLand.j6, Bool.false_eq_true, if_false, pA, if_true]
        refine Ev.bind r1 ?_
        by_cases he : er = 0
        · obtain ⟨_, l', rfl, _⟩ := r2 he
          simp only [he, if_true, show ¬ ((((rd A 0) :: l').length : Nat) : Int) = 0 by rw [List.length_cons]; omega, if_false, show 0 < ((((rd A 0) :: l').length : Nat) : Int) by rw [List.length_cons]; omega, show rd ((rd A 0) :: l') 0 = rd A 0 from rfl, bne_self_eq_false]
          exact f7
        · simp only [he, if_false]; exact f7
      have f5 : Ev (fun k => hinterlandtop_TopLand.j5 k A acts (acts.length : Int) i false W H M) true := by
        refine Ev.step (fun _ => rfl) ?_
        simp only [hinterlandtop_TopLand.j5, Bool.false_eq_true, if_false]
        refine Ev.bind t1 (Ev.bind t2 ?_)
        simp only [if_true]
        refine Ev.bind (land_self W H (l := M) (by omega)) ?_
        simp only [Bool.not_true]
        exact f6
      refine Ev.step (fun _ => rfl) ?_
      simp only [hinterlandtop_TopLand.j2, if_true]
      refine Ev.bind v1 ?_
      simp only [if_true, show ((M.length : Int) != (L.length : Int)) = false from by simp [hl]]
      refine Ev.step (fun _ => rfl) ?_
      simp only [hinterlandtop_TopLand.j3, Bool.false_eq_true, if_false]
      exact moved_ok v vM hp h3 f5 L.length 0 (by omega) (by omega)
    refine Ev.step (fun _ => rfl) ?_
    simp only [hinterlandtop_TopLand.l0, i1, i0, if_true, hA]
    by_cases a3 : (A.length : Int) = 3
    · simp only [a3, if_true, show (0 : Int) < 3 by omega, show (1 : Int) < 3 by omega, show (2 : Int) < 3 by omega]
      by_cases c : Valid W H L ∧ (0 ≤ rd A 0 ∧ rd A 0 ≤ W) ∧ (0 ≤ rd A 1 ∧ rd A 1 ≤ H) ∧ 0 ≤ rd L (rd A 1 * (W + 1) + rd A 0) + way (decide (rd A 2 > 0)) ∧ rd L (rd A 1 * (W + 1) + rd A 0) + way (decide (rd A 2 > 0)) ≤ 15
      · obtain ⟨_, x0, y0, z0⟩ := c
        obtain ⟨M, C2, S2, e1, m1, m2, m3, m4, m5⟩ := shift_good v x0 y0 (decide (rd A 2 > 0)) (z := rd L (rd A 1 * (W + 1) + rd A 0) + way (decide (rd A 2 > 0))) (by unfold way; split <;> omega) z0
        refine Ev.bind e1 ?_
        exact good M S2 (by omega) (nv_valid v z0 _ m1 m2) (by omega) (fun _ => m5)
      · obtain ⟨e, he, e1⟩ := shift_err _ c
        refine Ev.bind e1 ?_
        exact bad _ _ _ _ _ he
    · by_cases a2 : (A.length : Int) = 2
      · simp only [a2, if_true, show ¬ (2 : Int) = 3 by omega, if_false, show (0 : Int) < 2 by omega, show (1 : Int) < 2 by omega]
        by_cases c : Valid W H L ∧ isT W H (rd A 0) ∧ 0 ≤ rd A 1 ∧ rd A 1 ≤ 15
        · obtain ⟨r, f1, N, S, rfl, vn, s0, s1⟩ := level_good v c.2.1 c.2.2
          refine Ev.bind f1 ?_
          exact good N S (by omega) vn s0 (fun h => absurd h a3)
        · obtain ⟨e, he, f1⟩ := level_bad c
          refine Ev.bind f1 ?_
          exact bad _ _ _ _ _ he
      · simp only [a3, a2, if_false]
        exact bad _ _ _ _ _ (by omega)
/-- Land, whatever is done to it. -/
theorem TopLand : hinterlandtop_TopLand.Pure := by
  intro a w h r acts ha _ _ _ _
  have ha := wInt_u64 ha
  refine Ev.rounds ?_
  unfold hinterlandtop_TopLand.f
  obtain ⟨res, g1, g2⟩ := Gro.grow_ok a w h r ha.1 ha.2
  have out : ∀ (x y : Int) (Z : List Int), Ev (fun k => hinterlandtop_TopLand.j0 k acts true x y Z) true := by
    intro x y Z
    refine Ev.step (fun _ => rfl) ?_
    simp only [hinterlandtop_TopLand.j0, if_true, kn, Option.bind_some]; exact Ev.now _
  refine Ev.bind g1 ?_
  by_cases e : res.2.2.2 = 0
  · simp only [e, if_true]
    by_cases c : (acts.length : Int) > 60
    · simp only [c, decide_true]; exact out _ _ _
    · simp only [c, decide_false]
      refine Ev.step (fun _ => rfl) ?_
      simp only [hinterlandtop_TopLand.j0, Bool.false_eq_true, if_false]
      exact acts_ok (by omega) acts.length 0 _ _ _ (g2 e) (by omega) (by omega)
  · simp only [e, if_false]; exact out _ _ _
end Go.Proofs.YtldbkigenaakkaaGreatDoor.Pure

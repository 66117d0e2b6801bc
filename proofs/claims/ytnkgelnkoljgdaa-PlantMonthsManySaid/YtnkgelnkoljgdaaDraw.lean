import Derived.Test.YtnkgelnkoljgdaaPlain
import Derived.Laws.Bits64
import Derived.Test.YtnkgelnkoljgdaaQ11
import Derived.Test.YtnkgelnkoljgdaaQ19
import Derived.Test.YtnkgelnkoljgdaaQ26
import Derived.Test.YtnkgelnkoljgdaaQ30
namespace Go.Proofs.Ytnkgelnkoljgdaa.Draw
open Go.RowKit Go.Proofs.YtnkgelnkoljgdaaOwn Go.Proofs.Ytnkgelnkoljgdaa.Q Go.Proofs.YtnkgelnkoljgdaaW.PrintWords Go.Proofs.YtnkgelnkoljgdaaW.PrintLast
/-- What a stream's place becomes as a number. -/
def mix (A : Int) : Int := Go.bits .xor .u64 (IntKind.u64.wrap ((Go.bits .xor .u64 (IntKind.u64.wrap ((Go.bits .xor .u64 A (A / 1073741824)) * 13787848793156543929)) ((IntKind.u64.wrap ((Go.bits .xor .u64 A (A / 1073741824)) * 13787848793156543929)) / 134217728)) * 10723151780598845931)) ((IntKind.u64.wrap ((Go.bits .xor .u64 (IntKind.u64.wrap ((Go.bits .xor .u64 A (A / 1073741824)) * 13787848793156543929)) ((IntKind.u64.wrap ((Go.bits .xor .u64 A (A / 1073741824)) * 13787848793156543929)) / 134217728)) * 10723151780598845931)) / 2147483648)
theorem next_tells (A : Int) : roll_Next.f A = some (mix (IntKind.u64.wrap (A + 11400714819323198485)), IntKind.u64.wrap (A + 11400714819323198485)) := rfl
theorem at_tells (s k : Int) : hinterlandref01_At.f s k = some (mix (IntKind.u64.wrap (s + IntKind.u64.wrap (k * 11400714819323198485)))) := rfl
theorem mix_range (A : Int) : 0 ≤ mix A ∧ mix A ≤ 18446744073709551615 := bounds_u64 (wf_bits _ _ _ _)
theorem mix_zero : mix 0 = 0 := by decide +kernel
theorem not_u64 (x : Int) (h0 : 0 ≤ x) (h1 : x < 18446744073709551616) : Go.bits .xor .u64 IntKind.u64.max x = 18446744073709551615 - x := by
  have e : IntKind.u64.max = ((18446744073709551615 : Nat) : Int) := by decide +kernel
  obtain ⟨n, rfl⟩ : ∃ n : Nat, x = (n : Int) := ⟨x.toNat, by omega⟩
  rw [e, bits_xor_u64_nat _ _ (by omega) (by omega)]
  have h : (BitVec.allOnes 64 ^^^ BitVec.ofNat 64 n).toNat = 18446744073709551615 ^^^ n := by
    rw [BitVec.toNat_xor, BitVec.toNat_allOnes, BitVec.toNat_ofNat, Nat.mod_eq_of_lt (by omega)]
  have h2 : (BitVec.allOnes 64 ^^^ BitVec.ofNat 64 n).toNat = 18446744073709551615 - n := by
    rw [BitVec.allOnes_xor, BitVec.toNat_not, BitVec.toNat_ofNat, Nat.mod_eq_of_lt (by omega)]
  rw [← h, h2]
  omega
/-- The stream's state behind i numbers. -/
def st (s : Int) (i : Int) : Int := (s + i * 11400714819323198485) % 18446744073709551616
/-- There is a number at last that may be used: the one of the state 0. -/
theorem zero_at (s : Int) (h0 : 0 ≤ s) (h1 : s ≤ 18446744073709551615) : ∃ d : Nat, st s (d + 1) = 0 := by
  have key : ∀ t : Int, (s + ((18446744073709551616 - s) * 17428512612931826493 - 18446744073709551616 * t) * 11400714819323198485) % 18446744073709551616 = 0 := by intro t; omega
  refine ⟨((18446744073709551616 - s) * 17428512612931826493 + 18446744073709551615).toNat, ?_⟩
  have := key (-1)
  unfold st
  rw [show ((((18446744073709551616 - s) * 17428512612931826493 + 18446744073709551615).toNat : Int) + 1) = (18446744073709551616 - s) * 17428512612931826493 - 18446744073709551616 * (-1) by omega]
  exact this
theorem st_next (s : Int) (i : Nat) : IntKind.u64.wrap (st s i + 11400714819323198485) = st s ((i : Int) + 1) := by rw [u64w]; unfold st; omega
theorem st_at (s : Int) (i : Nat) : IntKind.u64.wrap (s + IntKind.u64.wrap (((i : Int) + 1) % 18446744073709551616 * 11400714819323198485)) = st s ((i : Int) + 1) := by rw [u64w, u64w]; unfold st; omega
theorem st_count (i : Nat) : IntKind.u64.wrap (((i : Int) + 1) % 18446744073709551616 + 1) = (((i + 1 : Nat) : Int) + 1) % 18446744073709551616 := by rw [u64w]; omega
theorem st_range (s : Int) (i : Int) : 0 ≤ st s i ∧ st s i ≤ 18446744073709551615 := by unfold st; omega
theorem neg_u64 (u : Int) (h0 : 0 < u) (h1 : u ≤ 9223372036854775807) : IntKind.u64.wrap (-u) = 18446744073709551616 - u := by rw [u64w]; omega
theorem l0_open (m u A : Int) (k : Nat) (hu : 0 ≤ u) (hum : u < 18446744073709551616) :
    roll_Below.l0 (k + 1) m u A = (roll_Next.f A).bind fun p => (if p.1 ≤ 18446744073709551615 - u then (if m = 0 then (none) else (some (wrap64 (Int.tmod p.1 m), p.2))) else (roll_Below.l0 k m u p.2)) := by
  rw [roll_Below.l0, not_u64 u hu hum]
theorem l0_acc (m u z B : Int) (k : Nat) (hm : 1 ≤ m) (hm1 : m ≤ 9223372036854775807) (hz : 0 ≤ z) (h : z ≤ 18446744073709551615 - u) :
    ((some (z, B)).bind fun p => (if p.1 ≤ 18446744073709551615 - u then (if m = 0 then (none) else (some (wrap64 (Int.tmod p.1 m), p.2))) else (roll_Below.l0 k m u p.2))) = some (z % m, B) := by
  have hmod : z % m < m := Int.emod_lt_of_pos _ (by omega)
  have hmod0 : 0 ≤ z % m := Int.emod_nonneg _ (by omega)
  simp only [Option.bind_some]
  rw [if_pos h, if_neg (by omega), Int.tmod_eq_emod_of_nonneg hz, w64_in (by omega) (by omega)]
theorem l0_rej (m u z B : Int) (k : Nat) (h : ¬ z ≤ 18446744073709551615 - u) :
    ((some (z, B)).bind fun p => (if p.1 ≤ 18446744073709551615 - u then (if m = 0 then (none) else (some (wrap64 (Int.tmod p.1 m), p.2))) else (roll_Below.l0 k m u p.2))) = roll_Below.l0 k m u B := by
  simp only [Option.bind_some]
  rw [if_neg h]
theorem acc_roll (m u A : Int) (hm : 1 ≤ m) (hm1 : m ≤ 9223372036854775807) (hu : 0 ≤ u) (hum : u < m) (k : Nat) (h : mix (IntKind.u64.wrap (A + 11400714819323198485)) ≤ 18446744073709551615 - u) :
    roll_Below.l0 (k + 1) m u A = some (mix (IntKind.u64.wrap (A + 11400714819323198485)) % m, IntKind.u64.wrap (A + 11400714819323198485)) :=
  (l0_open m u A k hu (by omega)).trans ((congrArg (fun o => Option.bind o _) (next_tells A)).trans (l0_acc m u _ _ k hm hm1 (mix_range _).1 h))
theorem rej_roll (m u A : Int) (hm1 : m ≤ 9223372036854775807) (hu : 0 ≤ u) (hum : u < m) (k : Nat) (h : ¬ mix (IntKind.u64.wrap (A + 11400714819323198485)) ≤ 18446744073709551615 - u) :
    roll_Below.l0 (k + 1) m u A = roll_Below.l0 k m u (IntKind.u64.wrap (A + 11400714819323198485)) :=
  (l0_open m u A k hu (by omega)).trans ((congrArg (fun o => Option.bind o _) (next_tells A)).trans (l0_rej m u _ _ k h))
theorem acc_ref (m u s c B : Int) (hB : IntKind.u64.wrap (s + IntKind.u64.wrap (c * 11400714819323198485)) = B) (hm : 1 ≤ m) (hm1 : m ≤ 9223372036854775807) (hu : 0 ≤ u) (hum : u < m) (k : Nat) (h : mix B ≤ 18446744073709551615 - u) :
    hinterlandref01_Below.l0 (k + 1 + 1) m u c s = some (mix B % m, B) := by
  rw [hinterlandref01_Below.l0, at_tells, hB]
  have hr := mix_range B
  generalize mix B = z at h hr ⊢
  have hmod : z % m < m := Int.emod_lt_of_pos _ (by omega)
  have hmod0 : 0 ≤ z % m := Int.emod_nonneg _ (by omega)
  have yes : hinterlandref01_Below.j1 (k + 1) m u c z true s = some (z % m, B) := by
    rw [hinterlandref01_Below.j1, if_pos rfl, if_neg (by omega), Int.tmod_eq_emod_of_nonneg hr.1, w64_in (by omega) (by omega), hB]
  simp only [Option.bind_some]
  by_cases hu0 : u = 0
  · rw [if_pos hu0]; exact yes
  · rw [if_neg hu0, neg_u64 u (by omega) (by omega), decide_eq_true (by omega)]; exact yes
theorem rej_ref (m u s c B : Int) (hB : IntKind.u64.wrap (s + IntKind.u64.wrap (c * 11400714819323198485)) = B) (hm1 : m ≤ 9223372036854775807) (hu : 0 ≤ u) (hum : u < m) (k : Nat) (h : ¬ mix B ≤ 18446744073709551615 - u) :
    hinterlandref01_Below.l0 (k + 1 + 1) m u c s = hinterlandref01_Below.l0 k m u (IntKind.u64.wrap (c + 1)) s := by
  rw [hinterlandref01_Below.l0, at_tells, hB]
  have hr := mix_range B
  generalize mix B = z at h hr ⊢
  simp only [Option.bind_some]
  rw [if_neg (by omega), neg_u64 u (by omega) (by omega), decide_eq_false (by omega), hinterlandref01_Below.j1, if_neg (by decide)]
theorem below_fin (s m u : Int) (hm : 1 ≤ m) (hm1 : m ≤ 9223372036854775807) (hu : 0 ≤ u) (hum : u < m) (i : Nat) (h : mix (st s ((i : Int) + 1)) ≤ 18446744073709551615 - u) :
    ∃ v t, 0 ≤ v ∧ v < m ∧ 0 ≤ t ∧ t ≤ 18446744073709551615 ∧ ∀ k, 2 ≤ k → roll_Below.l0 k m u (st s i) = some (v, t) ∧ hinterlandref01_Below.l0 k m u (((i : Int) + 1) % 18446744073709551616) s = some (v, t) := by
  have hr := st_range s ((i : Int) + 1)
  refine ⟨mix (st s ((i : Int) + 1)) % m, st s ((i : Int) + 1), Int.emod_nonneg _ (by omega), Int.emod_lt_of_pos _ (by omega), hr.1, hr.2, fun k hk => ?_⟩
  obtain ⟨k, rfl⟩ : ∃ q, k = q + 1 + 1 := ⟨k - 2, by omega⟩
  refine ⟨?_, acc_ref m u s _ _ (st_at s i) hm hm1 hu hum k h⟩
  rw [acc_roll m u _ hm hm1 hu hum (k + 1) (by rw [st_next]; exact h), st_next]
theorem below_loops (s m u : Int) (hm : 1 ≤ m) (hm1 : m ≤ 9223372036854775807) (hu : 0 ≤ u) (hum : u < m) (d : Nat) : ∀ (i : Nat), st s ((i : Int) + d + 1) = 0 →
    ∃ v t, 0 ≤ v ∧ v < m ∧ 0 ≤ t ∧ t ≤ 18446744073709551615 ∧ ∀ k, 2 * d + 2 ≤ k → roll_Below.l0 k m u (st s i) = some (v, t) ∧ hinterlandref01_Below.l0 k m u (((i : Int) + 1) % 18446744073709551616) s = some (v, t) := by
  induction d with
  | zero =>
    intro i hz
    have hz2 : st s ((i : Int) + 1) = 0 := hz
    exact below_fin s m u hm hm1 hu hum i (by rw [hz2, mix_zero]; omega)
  | succ d ih =>
    intro i hz
    by_cases h : mix (st s ((i : Int) + 1)) ≤ 18446744073709551615 - u
    · obtain ⟨v, t, h1, h2, h3, h4, h5⟩ := below_fin s m u hm hm1 hu hum i h
      exact ⟨v, t, h1, h2, h3, h4, fun k hk => h5 k (by omega)⟩
    · have e : ((i + 1 : Nat) : Int) + (d : Int) + 1 = (i : Int) + ((d + 1 : Nat) : Int) + 1 := by omega
      obtain ⟨v, t, h1, h2, h3, h4, h5⟩ := ih (i + 1) (by rw [e]; exact hz)
      refine ⟨v, t, h1, h2, h3, h4, fun k hk => ?_⟩
      obtain ⟨k, rfl⟩ : ∃ q, k = q + 1 + 1 := ⟨k - 2, by omega⟩
      have h6 := h5 k (by omega)
      have h7 := h5 (k + 1) (by omega)
      rw [rej_roll m u _ hm1 hu hum (k + 1) (by rw [st_next]; exact h), st_next, rej_ref m u s _ _ (st_at s i) hm1 hu hum k h, st_count]
      exact ⟨h7.1, h6.2⟩
/-- The number below a bound, by both. -/
theorem below_ok (s n : Int) (hs0 : 0 ≤ s) (hs1 : s ≤ 18446744073709551615) (hn : 1 ≤ n) (hn1 : n ≤ 9223372036854775807) :
    ∃ (v t : Int) (K : Nat), 0 ≤ v ∧ v < n ∧ 0 ≤ t ∧ t ≤ 18446744073709551615 ∧ ∀ k, K ≤ k → roll_Below.f k s n = some (v, t) ∧ hinterlandref01_Below.f k s n = some (v, t) := by
  obtain ⟨d, hd⟩ := zero_at s hs0 hs1
  have hu0 : 0 ≤ (18446744073709551616 - n) % n := Int.emod_nonneg _ (by omega)
  have hu1 : (18446744073709551616 - n) % n < n := Int.emod_lt_of_pos _ (by omega)
  obtain ⟨v, t, h1, h2, h3, h4, h5⟩ := below_loops s n ((18446744073709551616 - n) % n) hn hn1 hu0 hu1 d 0 (by rw [show (((0 : Nat) : Int) + (d : Int) + 1) = (d : Int) + 1 by omega]; exact hd)
  refine ⟨v, t, 2 * d + 2, h1, h2, h3, h4, fun k hk => ?_⟩
  have h6 := h5 k hk
  have ew : IntKind.u64.wrap n = n := by rw [u64w]; omega
  have es : st s ((0 : Nat) : Int) = s := by unfold st; omega
  rw [es] at h6
  have e1 : Int.tmod (IntKind.u64.wrap (-n)) n = (18446744073709551616 - n) % n := by
    rw [u64w, show (-n) % 18446744073709551616 = 18446744073709551616 - n by omega, Int.tmod_eq_emod_of_nonneg (by omega)]
  have e2 : Int.tmod (IntKind.u64.wrap (((18446744073709551615 : Int) % n) + 1)) n = (18446744073709551616 - n) % n := by
    have h7 : 0 ≤ (18446744073709551615 : Int) % n := Int.emod_nonneg _ (by omega)
    have h8 : (18446744073709551615 : Int) % n < n := Int.emod_lt_of_pos _ (by omega)
    rw [u64w, Int.emod_eq_of_lt (b := 18446744073709551616) (by omega) (by omega), Int.tmod_eq_emod_of_nonneg (by omega), Int.emod_add_emod, Int.sub_emod_right]
    rfl
  unfold roll_Below.f hinterlandref01_Below.f
  rw [if_neg (by omega), if_neg (by omega), ew, if_neg (by omega), if_neg (by omega), e1, e2]
  exact ⟨h6.1, by simpa using h6.2⟩
theorem below_no (s n : Int) (hn : n < 1) (k : Nat) : roll_Below.f k s n = some (0, s) ∧ hinterlandref01_Below.f k s n = some (0, s) := by
  unfold roll_Below.f hinterlandref01_Below.f
  rw [if_pos hn, if_pos hn]
  exact ⟨rfl, rfl⟩
end Go.Proofs.Ytnkgelnkoljgdaa.Draw

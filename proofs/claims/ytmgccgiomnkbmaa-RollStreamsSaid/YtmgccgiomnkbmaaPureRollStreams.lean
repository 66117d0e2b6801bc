import Derived.Test.YtmgccgiomnkbmaaDate
import Derived.Test.YtmgccgiomnkbmaaDraw
import Derived.Test.YtmgccgiomnkbmaaQ11
import Derived.Test.YtmgccgiomnkbmaaQ13
import Derived.Test.YtmgccgiomnkbmaaQ14
import Derived.Test.YtmgccgiomnkbmaaQ16
namespace Go.Proofs.Ytmgccgiomnkbmaa.Pure
open Go.RowKit Go.Proofs.YtmgccgiomnkbmaaOwn Go.Proofs.Ytmgccgiomnkbmaa.Q Go.Proofs.Ytmgccgiomnkbmaa.Date Go.Proofs.Ytmgccgiomnkbmaa.Draw Go.Proofs.YtmgccgiomnkbmaaW.PrintWords Go.Proofs.YtmgccgiomnkbmaaW.PrintLast
theorem new_tells (s : ByteArray) (hs : s.size ≤ 9223372036854775807) (d : Nat) : ∀ (i acc : Int), 0 ≤ i → i ≤ s.size → (s.size : Int) - i = d →
    ∃ r, ∀ k, d < k → roll_New.l0 k s acc (s.size : Int) i = some r ∧ hinterlandref01_New.l0 k s acc i = some r := by
  induction d with
  | zero =>
    intro i acc h0 h1 hd
    refine ⟨acc, fun k hk => ?_⟩
    obtain ⟨k, rfl⟩ : ∃ q, k = q + 1 := ⟨k - 1, by omega⟩
    simp only [roll_New.l0, hinterlandref01_New.l0]
    rw [if_neg (by omega), if_neg (by omega)]
    exact ⟨rfl, rfl⟩
  | succ d ih =>
    intro i acc h0 h1 hd
    obtain ⟨r, hr⟩ := ih (i + 1) (IntKind.u64.wrap ((Go.bits .xor .u64 acc (IntKind.u64.wrap (bt s i))) * 1099511628211)) (by omega) (by omega) (by omega)
    refine ⟨r, fun k hk => ?_⟩
    obtain ⟨k, rfl⟩ : ∃ q, k = q + 1 := ⟨k - 1, by omega⟩
    have h := hr k (by omega)
    simp only [roll_New.l0, hinterlandref01_New.l0]
    rw [if_pos (by omega), if_pos h0, if_pos (by omega), if_pos (by omega), if_pos h0, w64_in (by omega) (by omega)]
    exact h
theorem round_key (n : Int) (R : Int → Option Bool) (p : Option (Int × Int)) (g : Int → Option Int) (z B : Int) (hp : p = some (z, B)) (hg : g n = some z) :
    (p.bind fun b => ((some n).bind fun t => ((g t).bind fun u => (if b.1 = u then (R b.2) else (some false))))) = R B := by
  subst hp
  simp only [Option.bind_some, hg]
  rw [if_pos trivial]
/-- One round of the law's loop. -/
theorem round_tells (k : Nat) (a : Int) (s : ByteArray) (n x A : Int) (hn : hinterlandref01_New.f k a s = some n) (hx : x < 5) (hx0 : 1 ≤ x) (hA : IntKind.u64.wrap (A + 11400714819323198485) = st n x) :
    hinterlandlaw01_RollStreams.l0 (k + 1) a s x A = hinterlandlaw01_RollStreams.l0 k a s (x + 1) (st n x) := by
  have e2 : IntKind.u64.wrap (n + IntKind.u64.wrap (x * 11400714819323198485)) = st n x := by rw [u64w, u64w]; unfold st; omega
  have e3 : IntKind.u64.wrap (x + 1) = x + 1 := by rw [u64w]; omega
  rw [hinterlandlaw01_RollStreams.l0, if_pos hx, hn, e3]
  exact round_key n (fun B => hinterlandlaw01_RollStreams.l0 k a s (x + 1) B) _ (fun t => hinterlandref01_At.f t x) (mix (st n x)) (st n x) ((next_tells A).trans (by rw [hA])) ((at_tells n x).trans (by rw [e2]))
/-- Which stream a seed and a name make, and its first numbers. -/
theorem RollStreams : hinterlandlaw01_RollStreams.Pure := by
  intro a s ha hs
  have h1 := wInt_u64 ha
  by_cases c : (s.size : Int) > 4000
  · refine ⟨300, ?_⟩
    unfold hinterlandlaw01_RollStreams.f
    rw [if_pos c, known_tells 300 (Nat.le_refl _)]
    rfl
  · obtain ⟨r, hr⟩ := new_tells s (by omega) s.size 0 a (by omega) (by omega) (by omega)
    have hn : ∀ k, 5000 ≤ k → hinterlandref01_New.f k a s = some r := fun k hk => (hr k (by omega)).2
    have hm : ∀ k, 5000 ≤ k → roll_New.f k a s = some r := fun k hk => (hr k (by omega)).1
    obtain ⟨K, hK⟩ : ∃ K, 5000 ≤ K := ⟨5000, Nat.le_refl _⟩
    have hk := known_tells K (by omega)
    refine ⟨K + 1 + 1 + 1 + 1 + 1, ?_⟩
    unfold hinterlandlaw01_RollStreams.f
    rw [if_neg c, hm _ (by omega), hn _ (by omega)]
    simp only [Option.bind_some]
    rw [if_neg (by simp)]
    rw [round_tells _ a s r 1 r (hn _ (by omega)) (by omega) (by omega) (by rw [u64w]; unfold st; omega),
      round_tells _ a s r (1 + 1) (st r 1) (hn _ (by omega)) (by omega) (by omega) (by rw [u64w]; unfold st; omega),
      round_tells _ a s r (1 + 1 + 1) (st r (1 + 1)) (hn _ (by omega)) (by omega) (by omega) (by rw [u64w]; unfold st; omega),
      round_tells _ a s r (1 + 1 + 1 + 1) (st r (1 + 1 + 1)) (hn _ (by omega)) (by omega) (by omega) (by rw [u64w]; unfold st; omega)]
    have e : st r (1 + 1 + 1 + 1) = IntKind.u64.wrap (r + IntKind.u64.wrap (IntKind.u64.wrap 4 * 11400714819323198485)) := by rw [u64w, u64w, u64w]; unfold st; omega
    rw [hinterlandlaw01_RollStreams.l0, if_neg (by omega), hn _ (by omega)]
    unfold hinterlandref01_Skip.f
    simp only [Option.bind_some]
    rw [e, hk, if_pos (by simp)]
    rfl
end Go.Proofs.Ytmgccgiomnkbmaa.Pure

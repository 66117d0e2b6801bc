/- The order in which numbers come: both shuffles come to the same list, a permutation of 0 .. n - 1. -/
import Derived.Test.YtmgccgiomnkbmaaDate
import Derived.Test.YtmgccgiomnkbmaaDraw
import Derived.Test.YtmgccgiomnkbmaaQ40
namespace Go.Proofs.Ytmgccgiomnkbmaa.Pure
open Go.RowKit Go.Proofs.YtmgccgiomnkbmaaOwn Go.Proofs.Ytmgccgiomnkbmaa.Q Go.Proofs.Ytmgccgiomnkbmaa.Date Go.Proofs.Ytmgccgiomnkbmaa.Draw Go.Proofs.YtmgccgiomnkbmaaW.PrintWords Go.Proofs.YtmgccgiomnkbmaaW.PrintLast
def upto (n : Nat) : List Int := (List.range n).map Int.ofNat
theorem upto_len (n : Nat) : (upto n).length = n := by simp [upto]
theorem upto_succ (n : Nat) : upto (n + 1) = upto n ++ [(n : Int)] := by simp [upto, List.range_succ]
theorem mem_upto {n : Nat} {x : Int} (h : x ∈ upto n) : 0 ≤ x ∧ x < n := by
  simp only [upto, List.mem_map, List.mem_range] at h
  obtain ⟨a, h, rfl⟩ := h
  exact ⟨Int.natCast_nonneg a, by show (a : Int) < n; omega⟩
theorem upto_nodup (n : Nat) : (upto n).Nodup := by
  unfold upto List.Nodup
  rw [List.pairwise_map]
  exact List.Pairwise.imp (fun h hc => h (Int.ofNat.inj hc)) List.nodup_range
theorem set_upto (i d : Nat) : (upto i ++ List.replicate (d + 1) 0).set i (i : Int) = upto (i + 1) ++ List.replicate d 0 := by
  rw [List.set_append_right _ _ (by simp [upto_len]), upto_len, Nat.sub_self, List.replicate_succ, List.set_cons_zero, upto_succ, List.append_assoc]; rfl
theorem rl0_step (k : Nat) (x1 : Int) (l : List Int) (m i s : Int) (h : i < m) (h0 : 0 ≤ i) (h1 : i < (l.length : Int)) : roll_Shuffle.l0 (k + 1) x1 l m i s = roll_Shuffle.l0 k x1 (l.set i.toNat i) m (wrap64 (i + 1)) s := by
  simp only [roll_Shuffle.l0]; rw [if_pos h, if_pos h0, if_pos h1]
theorem rl0_end (k : Nat) (x1 : Int) (l : List Int) (m i s : Int) (h : ¬ i < m) : roll_Shuffle.l0 (k + 1) x1 l m i s = roll_Shuffle.l1 k l (wrap64 (x1 - 1)) s := by
  simp only [roll_Shuffle.l0]; rw [if_neg h]
theorem fl0_step (k : Nat) (x1 : Int) (l : List Int) (i s : Int) (h : i < x1) (h1 : l.length < 17592186044416) : hinterlandref01_Shuffle.l0 (k + 1) x1 l i s = hinterlandref01_Shuffle.l0 k x1 (l ++ [i]) (wrap64 (i + 1)) s := by
  simp only [hinterlandref01_Shuffle.l0]; rw [if_pos h, if_pos h1]
theorem fl0_end (k : Nat) (x1 : Int) (l : List Int) (i s : Int) (h : ¬ i < x1) : hinterlandref01_Shuffle.l0 (k + 1) x1 l i s = hinterlandref01_Shuffle.l1 k l (wrap64 (x1 - 1)) s := by
  simp only [hinterlandref01_Shuffle.l0]; rw [if_neg h]
theorem roll_fill (n : Nat) (hn : n ≤ 1000) (s : Int) (k : Nat) : ∀ (d i : Nat), i + d = n → roll_Shuffle.l0 (k + d + 1) n (upto i ++ List.replicate d 0) n i s = roll_Shuffle.l1 k (upto n) (wrap64 ((n : Int) - 1)) s := by
  intro d
  induction d with
  | zero => intro i h; obtain rfl : i = n := by omega
            rw [Nat.add_zero, rl0_end _ _ _ _ _ _ (by omega)]; simp
  | succ d ih =>
    intro i h
    rw [show k + (d + 1) + 1 = (k + d + 1) + 1 from rfl, rl0_step _ _ _ _ _ _ (by omega) (by omega) (by simp [upto_len]; omega), Int.toNat_natCast, set_upto, w64_in (by omega) (by omega)]
    exact ih (i + 1) (by omega)
theorem ref_fill (n : Nat) (hn : n ≤ 1000) (s : Int) (k : Nat) : ∀ (d i : Nat), i + d = n → hinterlandref01_Shuffle.l0 (k + d + 1) n (upto i) i s = hinterlandref01_Shuffle.l1 k (upto n) (wrap64 ((n : Int) - 1)) s := by
  intro d
  induction d with
  | zero => intro i h; obtain rfl : i = n := by omega
            rw [Nat.add_zero, fl0_end _ _ _ _ _ (by omega)]
  | succ d ih =>
    intro i h
    rw [show k + (d + 1) + 1 = (k + d + 1) + 1 from rfl, fl0_step _ _ _ _ _ (by omega) (by rw [upto_len]; omega), ← upto_succ, w64_in (by omega) (by omega)]
    exact ih (i + 1) (by omega)
theorem rd_get {l : List Int} {v : Int} (h0 : 0 ≤ v) (h : v < (l.length : Int)) : rd l v = l[v.toNat]'(by omega) := by
  unfold rd
  rw [List.getD_eq_getElem?_getD, List.getElem?_eq_getElem (by omega)]; rfl
theorem swap_perm {l : List Int} {x v : Int} (h0 : 0 ≤ v) (h1 : v < (l.length : Int)) (h2 : 0 ≤ x) (h3 : x < (l.length : Int)) : ((l.set x.toNat (rd l v)).set v.toNat (rd l x)).Perm l := by
  rw [rd_get h0 h1, rd_get h2 h3]
  exact List.set_set_perm (by omega) (by omega)
theorem r1_step (k : Nat) (l : List Int) (x s v t : Int) (h : x ≥ 1) (hb : roll_Below.f k s (wrap64 (x + 1)) = some (v, t)) (h0 : 0 ≤ v) (h1 : v < (l.length : Int)) (h2 : 0 ≤ x) (h3 : x < (l.length : Int)) :
    roll_Shuffle.l1 (k + 1) l x s = roll_Shuffle.l1 k ((l.set x.toNat (rd l v)).set v.toNat (rd l x)) (wrap64 (x - 1)) t := by
  simp only [roll_Shuffle.l1, roll_Shuffle_1.f]
  rw [if_pos h, hb]
  simp only [Option.bind_some]
  rw [if_pos h0, if_pos h1, if_pos h2, if_pos h3]
theorem f1_step (k : Nat) (l : List Int) (x s v t : Int) (h : x ≥ 1) (hb : hinterlandref01_Below.f k s (wrap64 (x + 1)) = some (v, t)) (h0 : 0 ≤ v) (h1 : v < (l.length : Int)) (h2 : 0 ≤ x) (h3 : x < (l.length : Int)) :
    hinterlandref01_Shuffle.l1 (k + 1) l x s = hinterlandref01_Shuffle.l1 k ((l.set x.toNat (rd l v)).set v.toNat (rd l x)) (wrap64 (x - 1)) t := by
  simp only [hinterlandref01_Shuffle.l1]
  rw [if_pos h, hb]
  simp only [Option.bind_some]
  rw [if_pos h2, if_pos h3, if_pos h0, if_pos h1]
theorem swaps (n : Nat) (hn : n ≤ 1000) : ∀ (j : Nat) (x : Int) (l : List Int) (s : Int), x ≤ j → x < n → -1 ≤ x → l.Perm (upto n) → 0 ≤ s → s ≤ 18446744073709551615 →
    ∃ (r : List Int) (t : Int) (K : Nat), r.Perm (upto n) ∧ ∀ k, K ≤ k → roll_Shuffle.l1 k l x s = some (r, t, 0) ∧ hinterlandref01_Shuffle.l1 k l x s = some (r, t, 0) := by
  intro j
  have fin : ∀ (x : Int) (l : List Int) (s : Int), x < 1 → l.Perm (upto n) → ∃ (r : List Int) (t : Int) (K : Nat), r.Perm (upto n) ∧ ∀ k, K ≤ k → roll_Shuffle.l1 k l x s = some (r, t, 0) ∧ hinterlandref01_Shuffle.l1 k l x s = some (r, t, 0) := by
    intro x l s hx hl
    refine ⟨l, s, 1, hl, fun k hk => ?_⟩
    obtain ⟨q, rfl⟩ : ∃ q, k = q + 1 := ⟨k - 1, by omega⟩
    have hx' : ¬ x ≥ 1 := by omega
    constructor
    · simp only [roll_Shuffle.l1]; rw [if_neg hx']
    · simp only [hinterlandref01_Shuffle.l1]; rw [if_neg hx']
  induction j with
  | zero => intro x l s h1 _ _ hl _ _; exact fin x l s (by omega) hl
  | succ j ih =>
    intro x l s h1 h2 h3 hl hs0 hs1
    by_cases c : x < 1
    · exact fin x l s c hl
    · have hlen : l.length = n := by rw [hl.length_eq, upto_len]
      obtain ⟨v, t, K, hv0, hv1, ht0, ht1, hK⟩ := below_ok s (x + 1) hs0 hs1 (by omega) (by omega)
      obtain ⟨r, u, K2, hr, h⟩ := ih (x - 1) ((l.set x.toNat (rd l v)).set v.toNat (rd l x)) t (by omega) (by omega) (by omega) ((swap_perm hv0 (by omega) (by omega) (by omega)).trans hl) ht0 ht1
      refine ⟨r, u, K + K2 + 1, hr, fun k hk => ?_⟩
      obtain ⟨q, rfl⟩ : ∃ q, k = q + 1 := ⟨k - 1, by omega⟩
      have hq := hK q (by omega)
      have hw := w64_in (x := x + 1) (by omega) (by omega)
      have hw2 := w64_in (x := x - 1) (by omega) (by omega)
      rw [r1_step q l x s v t (by omega) (by rw [hw]; exact hq.1) hv0 (by omega) (by omega) (by omega), f1_step q l x s v t (by omega) (by rw [hw]; exact hq.2) hv0 (by omega) (by omega) (by omega), hw2]
      exact h q (by omega)
theorem same_self (l : List Int) (hl : l.length ≤ 1000) (k : Nat) : ∀ (d i : Nat), i + d = l.length → hinterlandsame_List_int.l0 (k + d + 1) l l i = some true := by
  intro d
  induction d with
  | zero => intro i h; have h1 : ¬ (i : Int) < (l.length : Int) := by omega
            show hinterlandsame_List_int.l0 (k + 1) l l i = some true
            simp only [hinterlandsame_List_int.l0]; rw [if_neg h1]
  | succ d ih =>
    intro i h
    have h1 : (i : Int) < (l.length : Int) := by omega
    have h0 : (0 : Int) ≤ i := by omega
    have e : ∀ q : Nat, hinterlandsame_List_int.l0 (q + 1) l l i = hinterlandsame_List_int.l0 q l l (wrap64 ((i : Int) + 1)) := by
      intro q; simp only [hinterlandsame_List_int.l0]; rw [if_pos h1, if_pos h0, if_pos h1]; simp
    rw [show k + (d + 1) + 1 = (k + d + 1) + 1 from rfl, e, w64_in (by omega) (by omega)]
    exact ih (i + 1) (by omega)
theorem seen_ok (l : List Int) (n : Nat) (hp : l.Perm (upto n)) (hn : n ≤ 1000) (k : Nat) (hk : 300 ≤ k) : ∀ (d i : Nat) (sn : List Bool), i + d = n → sn.length = n → (∀ x : Nat, x < n → sn[x]? = some (decide ((x : Int) ∈ l.take i))) → hinterlandlaw01_RollShuffles.l0 (k + d + 1) l sn i = some true := by
  have hlen : l.length = n := by rw [hp.length_eq, upto_len]
  have hnod : l.Nodup := hp.nodup_iff.2 (upto_nodup n)
  intro d
  induction d with
  | zero =>
    intro i sn h _ _
    have h1 : ¬ (i : Int) < (l.length : Int) := by omega
    show hinterlandlaw01_RollShuffles.l0 (k + 1) l sn i = some true
    simp only [hinterlandlaw01_RollShuffles.l0]; rw [if_neg h1, known_tells k hk]; rfl
  | succ d ih =>
    intro i sn h hs hv
    have hi : i < l.length := by omega
    have h1 : (i : Int) < (l.length : Int) := by omega
    have h0 : (0 : Int) ≤ i := by omega
    have hx := mem_upto (hp.mem_iff.1 (List.getElem_mem hi))
    have hrd : rd l (i : Int) = l[i] := by rw [rd_get h0 h1]; rfl
    generalize hxe : l[i] = x at hx hrd
    have hnin : x ∉ l.take i := by
      have q := hnod
      rw [← List.take_append_drop i l, List.drop_eq_getElem_cons hi] at q
      have q2 := (List.pairwise_append.1 q).2.2
      intro hm
      exact q2 x hm l[i] (List.mem_cons_self ..) hxe.symm
    have hf : rdOf false sn x = false := by
      unfold rdOf
      rw [List.getD_eq_getElem?_getD, hv x.toNat (by omega)]
      have : ((x.toNat : Nat) : Int) = x := by omega
      rw [this]; simp [hnin]
    have c1 : ¬ x < 0 := by omega
    have c2 : ¬ x ≥ (l.length : Int) := by omega
    have c3 : x < (sn.length : Int) := by omega
    have e1 : ∀ q : Nat, hinterlandlaw01_RollShuffles.l0 (q + 1) l sn i = hinterlandlaw01_RollShuffles.l0 q l (sn.set x.toNat true) (wrap64 ((i : Int) + 1)) := by
      intro q
      simp only [hinterlandlaw01_RollShuffles.l0]; rw [if_pos h1, if_pos h0, hrd, if_neg c1, if_neg c2, if_pos hx.1, if_pos c3, hf, if_neg (by simp)]
    rw [show k + (d + 1) + 1 = (k + d + 1) + 1 by omega, e1, w64_in (by omega) (by omega)]
    refine ih (i + 1) _ (by omega) (by simpa using hs) fun y hy => ?_
    rw [List.getElem?_set]
    have ht : l.take (i + 1) = l.take i ++ [x] := by rw [List.take_add_one, List.getElem?_eq_getElem hi, hxe]; rfl
    rw [ht]
    by_cases c : x.toNat = y
    · rw [if_pos c, if_pos (by omega)]
      have : (y : Int) = x := by omega
      simp [this]
    · rw [if_neg c, hv y hy]
      have : (y : Int) ≠ x := by omega
      simp [this]
theorem j0_ok (l : List Int) (n : Nat) (hp : l.Perm (upto n)) (hn : n ≤ 1000) (k : Nat) (hk : 2 * n + 302 ≤ k) : hinterlandlaw01_RollShuffles.j0 k l false = some true ∧ hinterlandsame_List_int.f k l l = some true := by
  have hlen : l.length = n := by rw [hp.length_eq, upto_len]
  constructor
  · obtain ⟨q, rfl⟩ : ∃ q, k = (q + n + 1) + 1 := ⟨k - (n + 2), by omega⟩
    have e : ∀ z : Nat, hinterlandlaw01_RollShuffles.j0 (z + 1) l false = hinterlandlaw01_RollShuffles.l0 z l (List.replicate n false) 0 := by
      intro z
      simp only [hinterlandlaw01_RollShuffles.j0]; rw [if_neg (by simp), if_pos (by omega), if_pos (by omega), hlen, Int.toNat_natCast]
    rw [e]
    refine seen_ok l n hp hn q (by omega) n 0 _ (by omega) (by simp) fun x hx => ?_
    rw [List.getElem?_replicate, if_pos hx]; simp
  · unfold hinterlandsame_List_int.f
    rw [if_pos rfl]
    obtain ⟨q, rfl⟩ : ∃ q, k = q + l.length + 1 := ⟨k - (l.length + 1), by omega⟩
    exact same_self l (by omega) q l.length 0 (by omega)
theorem law_of {k : Nat} {s n : Int} {r : List Int} {t e : Int} (h1 : hinterlandref01_Shuffle.f k s n = some (r, t, e)) (h2 : roll_Shuffle.f k s n = some (r, t, e)) (hj : hinterlandlaw01_RollShuffles.j0 k r false = some true ∧ hinterlandsame_List_int.f k r r = some true) : hinterlandlaw01_RollShuffles.f k s n = some true := by
  unfold hinterlandlaw01_RollShuffles.f
  rw [h1, h2]
  simp only [Option.bind_some]
  rw [if_pos trivial, if_neg (by simp), hj.2]
  exact hj.1
/-- The order in which numbers come, each once. -/
theorem RollShuffles : hinterlandlaw01_RollShuffles.Pure := by
  intro s n hs hn
  have h1 := wInt_u64 hs
  have h2 := wInt_i64 hn
  by_cases c : n > 1000
  · refine ⟨400, law_of (r := []) (t := 0) (e := 4) ?_ ?_ (j0_ok [] 0 (List.Perm.refl _) (by omega) 400 (by omega))⟩
    · unfold hinterlandref01_Shuffle.f; rw [if_pos c]
    · unfold roll_Shuffle.f; rw [if_pos c]
  by_cases c0 : n < 0
  · refine ⟨400, law_of (r := []) (t := 0) (e := 1) ?_ ?_ (j0_ok [] 0 (List.Perm.refl _) (by omega) 400 (by omega))⟩
    · unfold hinterlandref01_Shuffle.f; rw [if_neg c, if_pos c0]
    · unfold roll_Shuffle.f; rw [if_neg c, if_pos c0]
  obtain ⟨m, rfl⟩ : ∃ m : Nat, n = m := ⟨n.toNat, by omega⟩
  obtain ⟨r, t, K, hr, h⟩ := swaps m (by omega) m ((m : Int) - 1) (upto m) s (by omega) (by omega) (by omega) (List.Perm.refl _) h1.1 h1.2
  have hw := w64_in (x := (m : Int) - 1) (by omega) (by omega)
  refine ⟨(K + 2 * m + 302) + m + 1, law_of (r := r) (t := t) (e := 0) ?_ ?_ (j0_ok r m hr (by omega) _ (by omega))⟩
  · unfold hinterlandref01_Shuffle.f
    rw [if_neg c, if_neg c0]
    have q := ref_fill m (by omega) s (K + 2 * m + 302) m 0 (by omega)
    rw [hw] at q
    exact q.trans (h _ (by omega)).2
  · unfold roll_Shuffle.f
    rw [if_neg c, if_neg c0, if_pos (by omega), if_pos (by omega)]
    have q := roll_fill m (by omega) s (K + 2 * m + 302) m 0 (by omega)
    rw [hw] at q
    simp only [Option.bind_some, Int.toNat_natCast, List.length_replicate]
    exact q.trans (h _ (by omega)).1
end Go.Proofs.Ytmgccgiomnkbmaa.Pure

/- What is proved: law LandSettles of this seat, all in one text (laid by prune.py). -/
import Derived.Test.YtchflcnegpnkkaaOpen
import Derived.OpenShut
import Derived.Test.YtchflcnegpnkkaaQ10
import Derived.Test.YtchflcnegpnkkaaQ11
import Derived.Test.YtchflcnegpnkkaaQ17
import Derived.Test.YtchflcnegpnkkaaQ18
import Derived.Test.YtchflcnegpnkkaaQ37
import Derived.Test.YtchflcnegpnkkaaQ38
import Derived.Test.YtchflcnegpnkkaaQ39
import Derived.Test.YtchflcnegpnkkaaQ40
import Derived.Test.YtchflcnegpnkkaaQ41
namespace Go.Proofs.YtchflcnegpnkkaaOwn
open Go.RowKit Go.Proofs.YtchflcnegpnkkaaW.PrintWords
theorem w64_in {x : Int} (h0 : -9223372036854775808 ≤ x) (h1 : x ≤ 9223372036854775807) : wrap64 x = x := by unfold wrap64; omega
end Go.Proofs.YtchflcnegpnkkaaOwn
namespace Go.Proofs.Ytchflcnegpnkkaa.Val
open Go.RowKit Go.Proofs.YtchflcnegpnkkaaOwn Go.Proofs.Ytchflcnegpnkkaa.Q Go.Proofs.YtchflcnegpnkkaaW.PrintWords Go.Proofs.YtchflcnegpnkkaaW.PrintLast
/-- Two heights lie within one step. -/
def near (a b : Int) : Prop := a - b ≤ 1 ∧ b - a ≤ 1
instance (a b : Int) : Decidable (near a b) := by unfold near; infer_instance
def Hts (L : List Int) : Prop := ∀ i : Int, 0 ≤ i → i < (L.length : Int) → 0 ≤ rd L i ∧ rd L i ≤ 15
def cell (W H : Int) (L : List Int) (y x : Int) : Prop := (x < W → near (rd L (y * (W + 1) + x)) (rd L (y * (W + 1) + x + 1))) ∧ (y < H → near (rd L (y * (W + 1) + x)) (rd L ((y + 1) * (W + 1) + x)))
def place (W : Int) (L : List Int) (i : Int) : Prop := (0 < i % (W + 1) → near (rd L i) (rd L (i - 1))) ∧ (W < i → near (rd L i) (rd L (i - W - 1)))
instance (W H : Int) (L : List Int) (y x : Int) : Decidable (cell W H L y x) := by unfold cell; infer_instance
instance (W : Int) (L : List Int) (i : Int) : Decidable (place W L i) := by unfold place; infer_instance
def Sides (W H : Int) (L : List Int) : Prop := 4 ≤ W ∧ W ≤ 32 ∧ 4 ≤ H ∧ H ≤ 32 ∧ (L.length : Int) = (H + 1) * (W + 1)
theorem len_le {W H : Int} {L : List Int} (s : Sides W H L) : 25 ≤ (L.length : Int) ∧ (L.length : Int) ≤ 1089 := by
  obtain ⟨a, b, c, d, e⟩ := s
  have h1 := Int.mul_le_mul (show H + 1 ≤ 33 by omega) (show W + 1 ≤ 33 by omega) (by omega) (by omega)
  have h2 := Int.mul_le_mul (show 5 ≤ H + 1 by omega) (show 5 ≤ W + 1 by omega) (by omega) (by omega)
  omega
end Go.Proofs.Ytchflcnegpnkkaa.Val
namespace Go.Proofs.Ytchflcnegpnkkaa.Set
open Go.RowKit Go.Proofs.YtchflcnegpnkkaaOwn Go.Proofs.Ytchflcnegpnkkaa.Q Go.Proofs.Ytchflcnegpnkkaa.Val Go.Proofs.YtchflcnegpnkkaaW.PrintWords Go.Proofs.YtchflcnegpnkkaaW.PrintLast Go.Proofs.YtchflcnegpnkkaaW.PrintMore
set_option linter.unusedVariables false
set_option linter.unusedSimpArgs false
theorem rd_ext {l m : List Int} (h : l.length = m.length) (e : ∀ j : Int, 0 ≤ j → j < (l.length : Int) → rd l j = rd m j) : l = m := by
  apply List.ext_getElem h
  intro i h1 h2
  have := e i (by omega) (by omega)
  unfold rd at this
  simpa [List.getD_eq_getElem?_getD, h1, h2] using this
theorem rd_put {l : List Int} {i j v : Int} (i0 : 0 ≤ i) (i1 : i < (l.length : Int)) (j0 : 0 ≤ j) : rd (l.set i.toNat v) j = if j = i then v else rd l j := by
  unfold rd
  simp only [List.getD_eq_getElem?_getD, List.getElem?_set]
  by_cases e : j = i
  · subst e; rw [if_pos rfl, if_pos rfl, if_pos (by omega)]; rfl
  · rw [if_neg e, if_neg (by omega)]
theorem sum_put : ∀ (L : List Int) (i : Nat) (v : Int), i < L.length → v < L.getD i 0 → (L.set i v).sum < L.sum
  | [], _, _, h, _ => by simp at h
  | x :: xs, 0, v, _, h => by simp at h ⊢; omega
  | x :: xs, i + 1, v, hl, h => by
    have := sum_put xs i v (by simpa using hl) (by simpa using h)
    simp; omega
theorem sum_nn : ∀ (L : List Int), (∀ x, x ∈ L → 0 ≤ x) → 0 ≤ L.sum
  | [], _ => by simp
  | x :: xs, h => by
    have h1 := h x (by simp)
    have h2 := sum_nn xs (fun y hy => h y (by simp [hy]))
    simp; omega
theorem sum_hts {L : List Int} (h : Hts L) : 0 ≤ L.sum := by
  refine sum_nn L fun x hx => ?_
  obtain ⟨i, hi, rfl⟩ := List.mem_iff_getElem.1 hx
  have := (h i (by omega) (by omega)).1
  unfold rd at this
  simpa [List.getD_eq_getElem?_getD, hi] using this
/-! ### places and their neighbours -/
section
variable {n i : Int}
theorem m_right (hn : 0 < n) (h : i % n + 1 < n) : (i + 1) % n = i % n + 1 := by
  have e := Int.mul_ediv_add_emod i n
  have x0 := Int.emod_nonneg i (show n ≠ 0 by omega)
  rw [show i + 1 = (i % n + 1) + n * (i / n) by omega, Int.add_mul_emod_self_left, Int.emod_eq_of_lt (by omega) h]
theorem m_left (hn : 0 < n) (h : 0 < i % n) : (i - 1) % n = i % n - 1 := by
  have e := Int.mul_ediv_add_emod i n
  have x1 := Int.emod_lt_of_pos i hn
  rw [show i - 1 = (i % n - 1) + n * (i / n) by omega, Int.add_mul_emod_self_left, Int.emod_eq_of_lt (by omega) (by omega)]
theorem m_down (hn : 0 < n) : (i + n) % n = i % n := by
  rw [show i + n = i + n * 1 by omega, Int.add_mul_emod_self_left]
theorem m_up (hn : 0 < n) : (i - n) % n = i % n := by
  rw [show i - n = i + n * (-1) by omega, Int.add_mul_emod_self_left]
theorem m_pos (hn : 0 < n) (i0 : 0 ≤ i) (h : 0 < i % n) : 1 ≤ i := by
  by_cases e : i = 0
  · subst e; simp at h
  · omega
theorem in_right {W H : Int} {L : List Int} (s : Sides W H L) (i0 : 0 ≤ i) (i1 : i < (L.length : Int)) (h : i % (W + 1) + 1 < W + 1) : i + 1 < (L.length : Int) := by
  obtain ⟨a, b, c, d, e⟩ := s
  refine Classical.byContradiction fun hc => ?_
  have h1 := m_right (by omega) h
  rw [show i + 1 = (H + 1) * (W + 1) by omega, Int.mul_emod_left] at h1
  have x0 := Int.emod_nonneg i (show W + 1 ≠ 0 by omega)
  rw [show i % (W + 1) = -1 by omega] at x0
  omega
theorem d_down {W H : Int} {L : List Int} (s : Sides W H L) : i / (W + 1) + 1 < H + 1 ↔ i + (W + 1) < (L.length : Int) := by
  obtain ⟨a, b, c, d, e⟩ := s
  have := Int.ediv_lt_iff_lt_mul (a := i) (b := H) (c := W + 1) (by omega)
  rw [e, Int.add_mul, Int.one_mul]
  omega
theorem d_up {W : Int} (hw : 4 ≤ W) : i / (W + 1) > 0 ↔ W < i := by
  have := Int.ediv_lt_iff_lt_mul (a := i) (b := 1) (c := W + 1) (by omega)
  omega
end
def nbs (W H i : Int) : List Int := (if i % (W + 1) + 1 < W + 1 then [i + 1] else []) ++ (if i % (W + 1) > 0 then [i - 1] else []) ++ (if i / (W + 1) + 1 < H + 1 then [i + (W + 1)] else []) ++ (if i / (W + 1) > 0 then [i - (W + 1)] else [])
theorem mem_nbs {W H i k : Int} : k ∈ nbs W H i ↔ (i % (W + 1) + 1 < W + 1 ∧ k = i + 1) ∨ (i % (W + 1) > 0 ∧ k = i - 1) ∨ (i / (W + 1) + 1 < H + 1 ∧ k = i + (W + 1)) ∨ (i / (W + 1) > 0 ∧ k = i - (W + 1)) := by
  unfold nbs
  by_cases h1 : i % (W + 1) + 1 < W + 1 <;> by_cases h2 : i % (W + 1) > 0 <;> by_cases h3 : i / (W + 1) + 1 < H + 1 <;> by_cases h4 : i / (W + 1) > 0 <;> simp [h1, h2, h3, h4]
theorem nbs_in {W H i k : Int} {L : List Int} (s : Sides W H L) (i0 : 0 ≤ i) (i1 : i < (L.length : Int)) (hm : k ∈ nbs W H i) : 0 ≤ k ∧ k < (L.length : Int) := by
  have hn : 0 < W + 1 := by have := s.1; omega
  rcases mem_nbs.1 hm with ⟨h, rfl⟩ | ⟨h, rfl⟩ | ⟨h, rfl⟩ | ⟨h, rfl⟩
  · have := in_right s i0 i1 h; omega
  · have := m_pos hn i0 h; omega
  · have := (d_down s).1 h; omega
  · have := (d_up s.1).1 h; omega
abbrev Places (W : Int) (n : Nat) (Y : List Int) : Prop := ∀ j : Int, 0 ≤ j → j < (n : Int) → place W Y j
theorem places_nb {W H i k : Int} {L Y : List Int} (s : Sides W H L) (p : Places W L.length Y) (i0 : 0 ≤ i) (i1 : i < (L.length : Int)) (hm : k ∈ nbs W H i) : rd Y i ≤ rd Y k + 1 := by
  have hn : 0 < W + 1 := by have := s.1; omega
  have x0 := Int.emod_nonneg i (show W + 1 ≠ 0 by omega)
  have hk := nbs_in s i0 i1 hm
  rcases mem_nbs.1 hm with ⟨h, rfl⟩ | ⟨h, rfl⟩ | ⟨h, rfl⟩ | ⟨h, rfl⟩
  · have := (p (i + 1) hk.1 hk.2).1 (by rw [m_right hn h]; omega)
    rw [show i + 1 - 1 = i by omega] at this; unfold near at this; omega
  · have := (p i i0 i1).1 h; unfold near at this; omega
  · have := (p (i + (W + 1)) hk.1 hk.2).2 (by omega)
    rw [show i + (W + 1) - W - 1 = i by omega] at this; unfold near at this; omega
  · have := (p i i0 i1).2 (by omega)
    rw [show i - W - 1 = i - (W + 1) by omega] at this; unfold near at this; omega
theorem nb_places {W H : Int} {L Y : List Int} (s : Sides W H L) (h : ∀ i, 0 ≤ i → i < (L.length : Int) → ∀ k, k ∈ nbs W H i → rd Y i ≤ rd Y k + 1) : Places W L.length Y := by
  intro j j0 j1
  have hn : 0 < W + 1 := by have := s.1; omega
  have x1 := Int.emod_lt_of_pos j hn
  refine ⟨fun g => ?_, fun g => ?_⟩
  · have p := m_pos hn j0 g
    have a := h j j0 j1 (j - 1) (mem_nbs.2 (.inr (.inl ⟨g, rfl⟩)))
    have b := h (j - 1) (by omega) (by omega) j (mem_nbs.2 (.inl ⟨by rw [m_left hn g]; omega, by omega⟩))
    unfold near; omega
  · have a := h j j0 j1 (j - (W + 1)) (mem_nbs.2 (.inr (.inr (.inr ⟨(d_up s.1).2 g, rfl⟩))))
    have b := h (j - (W + 1)) (by omega) (by omega) j (mem_nbs.2 (.inr (.inr (.inl ⟨(d_down s).2 (by omega), by omega⟩))))
    rw [show j - (W + 1) = j - W - 1 by omega] at a b
    unfold near; omega
/-- M lies nowhere above O, is of heights, and nowhere below what is level and lies nowhere above O. -/
structure Best (W : Int) (O M : List Int) : Prop where
  len : M.length = O.length
  hts : Hts M
  le : ∀ j : Int, 0 ≤ j → j < (O.length : Int) → rd M j ≤ rd O j
  most : ∀ Y : List Int, Places W O.length Y → (∀ j : Int, 0 ≤ j → j < (O.length : Int) → rd Y j ≤ rd O j) → ∀ j : Int, 0 ≤ j → j < (O.length : Int) → rd Y j ≤ rd M j
theorem Best.refl {W : Int} {O : List Int} (h : Hts O) : Best W O O := ⟨rfl, h, fun _ _ _ => Int.le_refl _, fun _ _ h => h⟩
theorem Best.put {W : Int} {O L : List Int} (g : Best W O L) {i v : Int} (i0 : 0 ≤ i) (i1 : i < (O.length : Int)) (v0 : 0 ≤ v) (v1 : v ≤ rd L i) (hy : ∀ Y : List Int, Places W O.length Y → (∀ j : Int, 0 ≤ j → j < (O.length : Int) → rd Y j ≤ rd L j) → rd Y i ≤ v) : Best W O (L.set i.toNat v) := by
  have hl := g.len
  have hi := g.hts i i0 (by omega)
  refine ⟨by rw [List.length_set]; exact hl, fun j j0 j1 => ?_, fun j j0 j1 => ?_, fun Y p q j j0 j1 => ?_⟩
  · rw [List.length_set] at j1
    rw [rd_put i0 (by omega) j0]
    have := g.hts j j0 j1
    split <;> omega
  · rw [rd_put i0 (by omega) j0]
    have := g.le j j0 j1
    split
    · rename_i e; subst e; omega
    · exact this
  · rw [rd_put i0 (by omega) j0]
    have h1 := g.most Y p q
    split
    · rename_i e; subst e; exact hy Y p h1
    · exact h1 j j0 j1
theorem Best.same {W : Int} {O A B : List Int} (a : Best W O A) (b : Best W O B) (pa : Places W O.length A) (pb : Places W O.length B) : A = B := by
  refine rd_ext (a.len.trans b.len.symm) fun j j0 j1 => ?_
  have hj : j < (O.length : Int) := by have := a.len; omega
  have h1 := b.most A pa a.le j j0 hj
  have h2 := a.most B pb b.le j j0 hj
  omega
def low (L : List Int) : List Int → Int → Int
  | [], z => z
  | k :: ks, z => low L ks (mn z (rd L k + 1))
theorem low_le : ∀ (L ks : List Int) (z : Int), low L ks z ≤ z ∧ ∀ k, k ∈ ks → low L ks z ≤ rd L k + 1
  | L, [], z => ⟨Int.le_refl _, fun k h => by simp at h⟩
  | L, q :: ks, z => by
    obtain ⟨a, b⟩ := low_le L ks (mn z (rd L q + 1))
    have h1 : mn z (rd L q + 1) ≤ z := by unfold mn; split <;> omega
    have h2 : mn z (rd L q + 1) ≤ rd L q + 1 := by unfold mn; split <;> omega
    refine ⟨by simp only [low]; omega, fun k hk => ?_⟩
    simp only [low]
    rcases List.mem_cons.1 hk with rfl | hk
    · omega
    · exact b k hk
theorem low_ge : ∀ (L ks : List Int) (z b : Int), b ≤ z → (∀ k, k ∈ ks → b ≤ rd L k + 1) → b ≤ low L ks z
  | L, [], z, b, h, _ => h
  | L, q :: ks, z, b, h, hk => by
    simp only [low]
    refine low_ge L ks _ b ?_ fun k h' => hk k (by simp [h'])
    have := hk q (by simp)
    unfold mn; split <;> omega
/-! ### the program -/
theorem beside_ok {W H i : Int} {L : List Int} (s : Sides W H L) (i0 : 0 ≤ i) (i1 : i < (L.length : Int)) : Ev (fun k => land_beside.f k i (W + 1) (H + 1)) (nbs W H i) := by
  obtain ⟨n0, n1⟩ := len_le s
  obtain ⟨a, b, c, d, e⟩ := id s
  have hn : 0 < W + 1 := by omega
  have x0 := Int.emod_nonneg i (show W + 1 ≠ 0 by omega)
  have x1 := Int.emod_lt_of_pos i hn
  have y0 : 0 ≤ i / (W + 1) := Int.ediv_nonneg i0 (by omega)
  have y1 : i / (W + 1) ≤ i := Int.ediv_le_self _ i0
  refine ⟨4, fun k hk => ?_⟩
  obtain ⟨k, rfl⟩ : ∃ m, k = m + 1 + 1 + 1 + 1 := ⟨k - 4, by omega⟩
  unfold land_beside.f nbs
  rw [Int.tmod_eq_emod_of_nonneg i0, w64_in (x := i % (W + 1) + 1) (by omega) (by omega), w64_in (x := i + 1) (by omega) (by omega)]
  have t : ∀ l : List Int, l.length ≤ 3 → (l.length < 17592186044416) = True := fun l h => eq_true (by omega)
  by_cases h1 : i % (W + 1) + 1 < W + 1 <;> by_cases h2 : i % (W + 1) > 0 <;> by_cases h3 : i / (W + 1) + 1 < H + 1 <;> by_cases h4 : i / (W + 1) > 0 <;>
    simp [h1, h2, h3, h4, land_beside.j0, land_beside.j1, land_beside.j2, Int.tmod_eq_emod_of_nonneg i0, Int.tdiv_eq_ediv_of_nonneg i0, w64_in (x := i / (W + 1)) (by omega) (by omega), w64_in (x := i / (W + 1) + 1) (by omega) (by omega), w64_in (x := i - 1) (by omega) (by omega), w64_in (x := i + (W + 1)) (by omega) (by omega), w64_in (x := i - (W + 1)) (by omega) (by omega), show ¬ (W + 1 = 0) by omega]
abbrev S4 := Int × Int × List Int × Int
theorem rd_at (P : List Int) (t : Int) (l : List Int) : rd (P ++ t :: l) (P.length : Int) = t := by unfold rd; simp
theorem l3_ok {W H i z : Int} {L : List Int} (hL : Hts L) {r : S4} : ∀ (suf pre : List Int) (a : Int), (pre ++ suf).length < 1000 → (∀ k, k ∈ suf → 0 ≤ k ∧ k < (L.length : Int)) →
    Ev (fun k => if low L suf a < z then (if 0 ≤ i then (if i < (L.length : Int) then land_Settle.l1 k H (W + 1) W H (L.set i.toNat (low L suf a)) else none) else none) else land_Settle.l2 k H (W + 1) L (L.length : Int) (wrap64 (i + 1)) W H L) r →
    Ev (fun k => land_Settle.l3 k H (W + 1) i z a L (L.length : Int) i (pre ++ suf) ((pre ++ suf).length : Int) (pre.length : Int) W H L) r
  | [], pre, a, hl, hk, h => by
    refine Ev.step (fun k => ?_) h
    simp only [land_Settle.l3]
    rw [if_neg (by simp)]
    rfl
  | t :: suf, pre, a, hl, hk, h => by
    have ht := hk t (by simp)
    have hz := hL t ht.1 ht.2
    have hp : (pre.length : Int) < ((pre ++ t :: suf).length : Int) := by simp; omega
    have hpb : pre.length < 1000 := by simp at hl; omega
    have ih := l3_ok (W := W) (H := H) (i := i) (z := z) hL suf (pre ++ [t]) (mn a (rd L t + 1)) (by simpa using hl) (fun k hk' => hk k (by simp [hk'])) h
    refine Ev.step (fun k => ?_) ih
    simp only [land_Settle.l3]
    rw [if_pos hp, if_pos (by omega), if_pos hp, rd_at, if_pos ht.1, if_pos ht.2, w64_in (x := rd L t + 1) (by omega) (by omega), w64_in (x := (pre.length : Int) + 1) (by omega) (by omega)]
    simp
theorem nbs_len (W H i : Int) : (nbs W H i).length < 1000 := by
  unfold nbs
  by_cases h1 : i % (W + 1) + 1 < W + 1 <;> by_cases h2 : i % (W + 1) > 0 <;> by_cases h3 : i / (W + 1) + 1 < H + 1 <;> by_cases h4 : i / (W + 1) > 0 <;> simp [h1, h2, h3, h4]
theorem settle_go {W H : Int} {O : List Int} (s : Sides W H O) : ∀ (d : Nat) (L : List Int), Best W O L → L.sum < d → ∃ M, Ev (fun k => land_Settle.l1 k H (W + 1) W H L) (W, H, M, 0) ∧ Best W O M ∧ Places W O.length M := by
  obtain ⟨n0, n1⟩ := len_le s
  obtain ⟨sa, sb, sc, sd, _⟩ := id s
  intro d; induction d with
  | zero => intro L g h; have := sum_hts g.hts; omega
  | succ d ih =>
    intro L g hd
    have hl := g.len
    have sL : Sides W H L := by unfold Sides at s ⊢; rw [hl]; exact s
    have scan : ∀ (e : Nat) (i : Int), 0 ≤ i → i + e = (L.length : Int) → (∀ j, 0 ≤ j → j < i → ∀ k, k ∈ nbs W H j → rd L j ≤ rd L k + 1) → ∃ M, Ev (fun k => land_Settle.l2 k H (W + 1) L (L.length : Int) i W H L) (W, H, M, 0) ∧ Best W O M ∧ Places W O.length M := by
      intro e; induction e with
      | zero =>
        intro i i0 hi hs
        refine ⟨L, Ev.step (fun k => ?_) (Ev.now _), g, nb_places s fun j j0 j1 => hs j j0 (by omega)⟩
        simp only [land_Settle.l2]; rw [if_neg (by omega)]
      | succ e ihe =>
        intro i i0 hi hs
        have i1 : i < (L.length : Int) := by omega
        have hb := beside_ok sL i0 i1
        have w1 : wrap64 (H + 1) = H + 1 := w64_in (by omega) (by omega)
        have go : ∀ {r : S4}, Ev (fun k => if low L (nbs W H i) (rd L i) < rd L i then (if 0 ≤ i then (if i < (L.length : Int) then land_Settle.l1 k H (W + 1) W H (L.set i.toNat (low L (nbs W H i) (rd L i))) else none) else none) else land_Settle.l2 k H (W + 1) L (L.length : Int) (wrap64 (i + 1)) W H L) r → Ev (fun k => land_Settle.l2 k H (W + 1) L (L.length : Int) i W H L) r := by
          intro r hr
          refine Ev.step (f := fun k => (land_beside.f k i (W + 1) (H + 1)).bind fun t => land_Settle.l3 k H (W + 1) i (rd L i) (rd L i) L (L.length : Int) i t (t.length : Int) 0 W H L) (fun k => ?_) (Ev.bind hb ?_)
          · simp only [land_Settle.l2]; rw [if_pos i1, if_pos i0, if_pos i1, w1]
          · exact l3_ok (W := W) (H := H) (i := i) (z := rd L i) g.hts (nbs W H i) [] (rd L i) (nbs_len W H i) (fun k hk => nbs_in sL i0 i1 hk) hr
        obtain ⟨a1, a2⟩ := low_le L (nbs W H i) (rd L i)
        have hz := g.hts i i0 i1
        by_cases hv : low L (nbs W H i) (rd L i) < rd L i
        · have v0 : 0 ≤ low L (nbs W H i) (rd L i) := low_ge _ _ _ 0 hz.1 fun k hk => by have := nbs_in sL i0 i1 hk; have := g.hts k this.1 this.2; omega
          obtain ⟨M, m1, m2, m3⟩ := ih (L.set i.toNat (low L (nbs W H i) (rd L i))) (g.put i0 (by omega) v0 a1 fun Y p q => low_ge _ _ _ _ (q i i0 (by omega)) fun k hk => by
            have h1 := places_nb s p i0 (by omega) hk
            have h2 := nbs_in s i0 (by omega) hk
            have := q k h2.1 h2.2; omega) (by
              have := sum_put L i.toNat (low L (nbs W H i) (rd L i)) (by omega) hv
              omega)
          refine ⟨M, go ?_, m2, m3⟩
          simp only [hv, i0, i1, if_true]; exact m1
        · have w2 : wrap64 (i + 1) = i + 1 := w64_in (by omega) (by omega)
          obtain ⟨M, m1, m2, m3⟩ := ihe (i + 1) (by omega) (by omega) (fun j j0 j1 k hk => by
            by_cases e' : j = i
            · subst e'; have := a2 k hk; omega
            · exact hs j j0 (by omega) k hk)
          refine ⟨M, go ?_, m2, m3⟩
          simp only [hv, if_false, w2]; exact m1
    obtain ⟨M, m1, m2, m3⟩ := scan L.length 0 (by omega) (by omega) (fun j j0 j1 => by omega)
    exact ⟨M, Ev.step (fun k => by simp only [land_Settle.l1]) m1, m2, m3⟩
def cl (z : Int) : Int := mn (mx z 0) 15
theorem cl_in (z : Int) : 0 ≤ cl z ∧ cl z ≤ 15 := by unfold cl mn mx; split <;> split <;> omega
theorem rd_map {h : List Int} {j : Int} (j0 : 0 ≤ j) (j1 : j < (h.length : Int)) : rd (h.map cl) j = cl (rd h j) := by
  unfold rd
  have : j.toNat < h.length := by omega
  simp [List.getD_eq_getElem?_getD, this]
theorem hts_cl (h : List Int) : Hts (h.map cl) := fun j j0 j1 => by
  rw [List.length_map] at j1
  rw [rd_map j0 j1]; exact cl_in _
theorem clamp_ok {W H a b : Int} {h : List Int} {r : S4} (hn : (h.length : Int) < 1000000) (hr : Ev (fun k => land_Settle.l1 k b (wrap64 (a + 1)) W H (h.map cl)) r) : ∀ (d : Nat) (i : Int) (L : List Int), 0 ≤ i → i + d = (h.length : Int) → L.length = h.length → (∀ j, 0 ≤ j → j < i → rd L j = cl (rd h j)) → Ev (fun k => land_Settle.l0 k a b h (h.length : Int) i W H L) r := by
  intro d; induction d with
  | zero =>
    intro i L i0 hi hl hs
    have e : L = h.map cl := rd_ext (by simp [hl]) fun j j0 j1 => by rw [rd_map j0 (by omega)]; exact hs j j0 (by omega)
    subst e
    refine Ev.step (fun k => ?_) hr
    simp only [land_Settle.l0]; rw [if_neg (by omega)]
  | succ d ih =>
    intro i L i0 hi hl hs
    have := ih (i + 1) (L.set i.toNat (cl (rd h i))) (by omega) (by omega) (by simp [hl]) (fun j j0 j1 => by
      rw [rd_put i0 (by omega) j0]
      split
      · rename_i e; rw [e]
      · exact hs j j0 (by omega))
    refine Ev.step (fun k => ?_) this
    simp only [land_Settle.l0]
    rw [if_pos (by omega), if_pos i0, if_pos (by omega), if_pos (by omega), w64_in (x := i + 1) (by omega) (by omega)]
    rfl
theorem sides_ok (w h : Int) : land_sides.f w h = some (decide (4 ≤ w ∧ w ≤ 32 ∧ 4 ≤ h ∧ h ≤ 32)) := by
  unfold land_sides.f
  by_cases h1 : w ≥ 4 <;> by_cases h2 : w ≤ 32 <;> by_cases h3 : h ≥ 4 <;> by_cases h4 : h ≤ 32 <;> simp [h1, h2, h3, h4]
theorem wrap_len {w h : Int} (a : 4 ≤ w) (b : w ≤ 32) (c : 4 ≤ h) (d : h ≤ 32) : wrap64 (wrap64 (w + 1) * wrap64 (h + 1)) = (h + 1) * (w + 1) := by
  have h1 := Int.mul_le_mul (show h + 1 ≤ 33 by omega) (show w + 1 ≤ 33 by omega) (by omega) (by omega)
  have h2 := Int.mul_nonneg (show 0 ≤ h + 1 by omega) (show 0 ≤ w + 1 by omega)
  rw [w64_in (x := w + 1) (by omega) (by omega), w64_in (x := h + 1) (by omega) (by omega), Int.mul_comm]
  exact w64_in (by omega) (by omega)
/-- The program's land of raw heights. -/
theorem settle_no {w h : Int} {l : List Int} (s : ¬ Sides w h l) : Ev (fun k => land_Settle.f k w h l) ((0, 0, [], 1) : S4) := by
  refine ⟨2, fun k hk => ?_⟩
  obtain ⟨k, rfl⟩ : ∃ m, k = m + 1 + 1 := ⟨k - 2, by omega⟩
  unfold land_Settle.f
  rw [sides_ok]
  simp only [Option.bind_some, decide_eq_true_eq]
  by_cases c : 4 ≤ w ∧ w ≤ 32 ∧ 4 ≤ h ∧ h ≤ 32
  · obtain ⟨a, b, c, d⟩ := c
    rw [if_pos ⟨a, b, c, d⟩, wrap_len a b c d]
    simp only [land_Settle.j0]
    rw [if_pos]
    simp only [bne_iff_ne]
    exact fun e => s ⟨a, b, c, d, e⟩
  · rw [if_neg c]
    simp only [land_Settle.j0]
    rw [if_pos trivial]
theorem settle_yes {w h : Int} {l : List Int} (s : Sides w h l) : ∃ M, Ev (fun k => land_Settle.f k w h l) ((w, h, M, 0) : S4) ∧ Best w (l.map cl) M ∧ Places w (l.map cl).length M := by
  obtain ⟨n0, n1⟩ := len_le s
  obtain ⟨a, b, c, d, e⟩ := id s
  have s' : Sides w h (l.map cl) := by unfold Sides; rw [List.length_map]; exact s
  have hs := sum_hts (hts_cl l)
  obtain ⟨M, m1, m2, m3⟩ := settle_go s' ((l.map cl).sum.toNat + 1) (l.map cl) (Best.refl (hts_cl l)) (by omega)
  refine ⟨M, ?_, m2, m3⟩
  have w1 : wrap64 (w + 1) = w + 1 := w64_in (by omega) (by omega)
  have hc := clamp_ok (W := w) (H := h) (a := w) (b := h) (h := l) (by omega) (by rw [w1]; exact m1) l.length 0 (List.replicate l.length 0) (by omega) (by omega) (by simp) (fun j j0 j1 => by omega)
  refine Ev.step (f := fun k => land_Settle.l0 k w h l (l.length : Int) 0 w h (List.replicate l.length 0)) (fun k => ?_) hc
  unfold land_Settle.f
  rw [sides_ok]
  simp only [Option.bind_some, decide_eq_true_eq]
  rw [if_pos ⟨a, b, c, d⟩, wrap_len a b c d, ← e]
  simp only [land_Settle.j0]
  rw [if_neg (by simp), if_pos (by omega), if_pos (by simp; omega)]
  simp
end Go.Proofs.Ytchflcnegpnkkaa.Set
namespace Go.Proofs.Ytchflcnegpnkkaa.Swp
open Go.RowKit Go.Proofs.YtchflcnegpnkkaaOwn Go.Proofs.Ytchflcnegpnkkaa.Q Go.Proofs.Ytchflcnegpnkkaa.Val Go.Proofs.Ytchflcnegpnkkaa.Set Go.Proofs.YtchflcnegpnkkaaW.PrintWords Go.Proofs.YtchflcnegpnkkaaW.PrintLast Go.Proofs.YtchflcnegpnkkaaW.PrintMore
set_option linter.unusedVariables false
set_option linter.unusedSimpArgs false
set_option linter.unusedSectionVars false
/-- In the middle of a sweep over A: where it has been (p) and something is asked (g), the least of the place and one more than its neighbour (nb). -/
structure Mid (W : Int) (O A L : List Int) (g : Int → Prop) (nb : Int → Int) (p : Int → Prop) : Prop where
  good : Best W O L
  done : ∀ j : Int, 0 ≤ j → j < (O.length : Int) → g j → p j → rd L j = mn (rd A j) (rd L (nb j) + 1)
  rest : ∀ j : Int, 0 ≤ j → j < (O.length : Int) → ¬ (g j ∧ p j) → rd L j = rd A j
theorem Mid.start {W : Int} {O A : List Int} {g : Int → Prop} {nb : Int → Int} {p : Int → Prop} (h : Best W O A) (hp : ∀ j : Int, 0 ≤ j → j < (O.length : Int) → ¬ p j) : Mid W O A A g nb p := ⟨h, fun j a b _ h' => absurd h' (hp j a b), fun _ _ _ _ => rfl⟩
theorem Mid.skip {W i : Int} {O A L : List Int} {g : Int → Prop} {nb : Int → Int} {p p' : Int → Prop} (m : Mid W O A L g nb p) (hp : ∀ j, p' j ↔ p j ∨ j = i) (hi : ¬ g i) : Mid W O A L g nb p' := by
  refine ⟨m.good, fun j a b c d => ?_, fun j a b c => m.rest j a b fun h => c ⟨h.1, (hp j).2 (.inl h.2)⟩⟩
  rcases (hp j).1 d with h | rfl
  · exact m.done j a b c h
  · exact absurd c hi
theorem Mid.step {W i : Int} {O A L : List Int} {g : Int → Prop} {nb : Int → Int} {p p' : Int → Prop} (m : Mid W O A L g nb p) (hp : ∀ j, p' j ↔ p j ∨ j = i) (i0 : 0 ≤ i) (i1 : i < (O.length : Int)) (hi : ¬ p i) (gi : g i) (hn : ∀ j, 0 ≤ j → j < (O.length : Int) → g j → 0 ≤ nb j ∧ nb j < (O.length : Int)) (hne : nb i ≠ i) (hf : ∀ j, p j → nb j ≠ i) (hy : ∀ Y, Places W O.length Y → rd Y i ≤ rd Y (nb i) + 1) : Mid W O A (L.set i.toNat (mn (rd L i) (rd L (nb i) + 1))) g nb p' := by
  have hl := m.good.len
  have ni := hn i i0 i1 gi
  have hz := m.good.hts i i0 (by omega)
  have hk := m.good.hts (nb i) ni.1 (by omega)
  refine ⟨m.good.put i0 i1 (by unfold mn; split <;> omega) (by unfold mn; split <;> omega) fun Y py q => ?_, fun j a b c d => ?_, fun j a b c => ?_⟩
  · have h1 := hy Y py
    have h2 := q i i0 i1
    have h3 := q (nb i) ni.1 ni.2
    unfold mn; split <;> omega
  · have nj := hn j a b c
    rw [rd_put i0 (by omega) a, rd_put i0 (by omega) nj.1]
    rcases (hp j).1 d with h | rfl
    · rw [if_neg (fun (e : j = i) => hi (by rw [← e]; exact h)), if_neg (hf j h)]
      exact m.done j a b c h
    · rw [if_pos rfl, if_neg hne, m.rest j a b (fun h => hi h.2)]
  · rw [rd_put i0 (by omega) a, if_neg (fun (e : j = i) => c ⟨by rw [e]; exact gi, (hp j).2 (.inr e)⟩)]
    exact m.rest j a b fun h => c ⟨h.1, (hp j).2 (.inl h.2)⟩
/-- A whole sweep. -/
structure Swept (W : Int) (O A L : List Int) (g : Int → Prop) (nb : Int → Int) : Prop where
  good : Best W O L
  done : ∀ j : Int, 0 ≤ j → j < (O.length : Int) → g j → rd L j = mn (rd A j) (rd L (nb j) + 1)
  rest : ∀ j : Int, 0 ≤ j → j < (O.length : Int) → ¬ g j → rd L j = rd A j
theorem Mid.swept {W : Int} {O A L : List Int} {g : Int → Prop} {nb : Int → Int} {p : Int → Prop} (m : Mid W O A L g nb p) (hp : ∀ j : Int, 0 ≤ j → j < (O.length : Int) → p j) : Swept W O A L g nb := ⟨m.good, fun j a b c => m.done j a b c (hp j a b), fun j a b c => m.rest j a b fun h => c h.1⟩
theorem Swept.le {W : Int} {O A L : List Int} {g : Int → Prop} {nb : Int → Int} (m : Swept W O A L g nb) (j : Int) (a : 0 ≤ j) (b : j < (O.length : Int)) : rd L j ≤ rd A j := by
  by_cases h : g j
  · rw [m.done j a b h]; unfold mn; split <;> omega
  · rw [m.rest j a b h]; exact Int.le_refl _
abbrev gRF (W : Int) (j : Int) : Prop := 0 < j % (W + 1)
abbrev gRB (W : Int) (j : Int) : Prop := j % (W + 1) < W
abbrev gCF (W : Int) (j : Int) : Prop := W + 1 ≤ j
abbrev gCB (W : Int) (N : Nat) (j : Int) : Prop := j + (W + 1) < (N : Int)
theorem emod_le {i n : Int} (i0 : 0 ≤ i) (hn : 0 < n) : i % n ≤ i := by
  have h1 := Int.mul_ediv_add_emod i n
  have h2 := Int.mul_nonneg (show 0 ≤ n by omega) (Int.ediv_nonneg i0 (show 0 ≤ n by omega))
  omega
section
variable {W H : Int} {O : List Int} (s : Sides W H O)
include s
theorem y_rf {j : Int} (j0 : 0 ≤ j) (j1 : j < (O.length : Int)) (h : gRF W j) (Y : List Int) (p : Places W O.length Y) : rd Y j ≤ rd Y (j - 1) + 1 := by
  have := (p j j0 j1).1 h; unfold near at this; omega
theorem y_rb {j : Int} (j0 : 0 ≤ j) (j1 : j < (O.length : Int)) (h : gRB W j) (Y : List Int) (p : Places W O.length Y) : rd Y j ≤ rd Y (j + 1) + 1 := by
  have hn : 0 < W + 1 := by have := s.1; omega
  have x0 := Int.emod_nonneg j (show W + 1 ≠ 0 by omega)
  have := (p (j + 1) (by omega) (in_right s j0 j1 (by unfold gRB at h; omega))).1 (by rw [m_right hn (by unfold gRB at h; omega)]; omega)
  rw [show j + 1 - 1 = j by omega] at this; unfold near at this; omega
theorem y_cf {j : Int} (j0 : 0 ≤ j) (j1 : j < (O.length : Int)) (h : gCF W j) (Y : List Int) (p : Places W O.length Y) : rd Y j ≤ rd Y (j - (W + 1)) + 1 := by
  have := (p j j0 j1).2 (by unfold gCF at h; omega)
  rw [show j - W - 1 = j - (W + 1) by omega] at this; unfold near at this; omega
theorem y_cb {j : Int} (j0 : 0 ≤ j) (h : gCB W O.length j) (Y : List Int) (p : Places W O.length Y) : rd Y j ≤ rd Y (j + (W + 1)) + 1 := by
  have hn : 0 < W + 1 := by have := s.1; omega
  have := (p (j + (W + 1)) (by omega) h).2 (by omega)
  rw [show j + (W + 1) - W - 1 = j by omega] at this; unfold near at this; omega
theorem row_f {A : List Int} {c : Int} : ∀ (d : Nat) (i : Int) (L : List Int), 0 ≤ i → i + d = (O.length : Int) → Mid W O A L (gRF W) (fun j => j - 1) (fun j => j < i) → ∃ B, Swept W O A B (gRF W) (fun j => j - 1) ∧ ∀ r : S4, Ev (fun k => hinterlandref02_Settle.l3 k W H B ((O.length : Int) - 1) c) r → Ev (fun k => hinterlandref02_Settle.l2 k W H L c (O.length : Int) i) r := by
  obtain ⟨n0, n1⟩ := len_le s
  obtain ⟨sa, sb, sc, sd, _⟩ := id s
  have hn : 0 < W + 1 := by omega
  intro d; induction d with
  | zero =>
    intro i L i0 hi m
    refine ⟨L, m.swept fun j a b => by show j < i; omega, fun r hr => Ev.step (fun k => ?_) hr⟩
    simp only [hinterlandref02_Settle.l2]
    rw [if_neg (by omega), m.good.len, w64_in (by omega) (by omega)]
  | succ d ih =>
    intro i L i0 hi m
    have hl := m.good.len
    have i1 : i < (O.length : Int) := by omega
    have hm := emod_le i0 hn
    have w1 : wrap64 (W + 1) = W + 1 := w64_in (by omega) (by omega)
    have w2 : wrap64 (i + 1) = i + 1 := w64_in (by omega) (by omega)
    by_cases h : gRF W i
    · have hz := m.good.hts (i - 1) (by unfold gRF at h; omega) (by omega)
      have m' := m.step (p' := fun j => j < i + 1) (i := i) (fun j => by show j < i + 1 ↔ j < i ∨ j = i; omega) i0 i1 (by show ¬ i < i; omega) h (fun j a b c => by have := emod_le a hn; unfold gRF at c; show 0 ≤ j - 1 ∧ j - 1 < _; omega) (by show i - 1 ≠ i; omega) (fun j (q : j < i) => by show j - 1 ≠ i; omega) (y_rf s i0 i1 h)
      obtain ⟨B, b1, b2⟩ := ih (i + 1) _ (by omega) (by omega) m'
      refine ⟨B, b1, fun r hr => Ev.step (fun k => ?_) (b2 r hr)⟩
      simp only [hinterlandref02_Settle.l2]
      rw [if_pos i1, w1, if_neg (by omega), Int.tmod_eq_emod_of_nonneg i0, if_pos (show i % (W + 1) > 0 from h), if_pos i0, if_pos (by omega), w64_in (x := i - 1) (by unfold gRF at h; omega) (by omega), if_pos (by unfold gRF at h; omega), if_pos (by omega), w64_in (x := rd L (i - 1) + 1) (by omega) (by omega), w2]
    · obtain ⟨B, b1, b2⟩ := ih (i + 1) L (by omega) (by omega) (m.skip (i := i) (fun j => by show j < i + 1 ↔ j < i ∨ j = i; omega) h)
      refine ⟨B, b1, fun r hr => Ev.step (fun k => ?_) (b2 r hr)⟩
      simp only [hinterlandref02_Settle.l2]
      rw [if_pos i1, w1, if_neg (by omega), Int.tmod_eq_emod_of_nonneg i0, if_neg (show ¬ i % (W + 1) > 0 from h), w2]
theorem row_b {A : List Int} {c : Int} : ∀ (d : Nat) (i : Int) (L : List Int), i + 1 = d → i < (O.length : Int) → Mid W O A L (gRB W) (fun j => j + 1) (fun j => i < j) → ∃ B, Swept W O A B (gRB W) (fun j => j + 1) ∧ ∀ r : S4, Ev (fun k => hinterlandref02_Settle.l4 k W H B (W + 1) c) r → Ev (fun k => hinterlandref02_Settle.l3 k W H L i c) r := by
  obtain ⟨n0, n1⟩ := len_le s
  obtain ⟨sa, sb, sc, sd, _⟩ := id s
  have hn : 0 < W + 1 := by omega
  have w1 : wrap64 (W + 1) = W + 1 := w64_in (by omega) (by omega)
  intro d; induction d with
  | zero =>
    intro i L hi i1 m
    refine ⟨L, m.swept fun j a b => by show i < j; omega, fun r hr => Ev.step (fun k => ?_) hr⟩
    simp only [hinterlandref02_Settle.l3]
    rw [if_neg (by omega), w1]
  | succ d ih =>
    intro i L hi i1 m
    have hl := m.good.len
    have i0 : 0 ≤ i := by omega
    have w2 : wrap64 (i - 1) = i - 1 := w64_in (by omega) (by omega)
    have ir : ∀ j, 0 ≤ j → j < (O.length : Int) → gRB W j → 0 ≤ j + 1 ∧ j + 1 < (O.length : Int) := fun j a b c => ⟨by omega, in_right s a b (by unfold gRB at c; omega)⟩
    by_cases h : gRB W i
    · have hr := ir i i0 i1 h
      have hz := m.good.hts (i + 1) hr.1 (by omega)
      have m' := m.step (p' := fun j => i - 1 < j) (i := i) (fun j => by show i - 1 < j ↔ i < j ∨ j = i; omega) i0 i1 (by show ¬ i < i; omega) h ir (by show i + 1 ≠ i; omega) (fun j (q : i < j) => by show j + 1 ≠ i; omega) (y_rb s i0 i1 h)
      obtain ⟨B, b1, b2⟩ := ih (i - 1) _ (by omega) (by omega) m'
      refine ⟨B, b1, fun r hr' => Ev.step (fun k => ?_) (b2 r hr')⟩
      simp only [hinterlandref02_Settle.l3]
      rw [if_pos (show i ≥ 0 by omega), w1, if_neg (by omega), Int.tmod_eq_emod_of_nonneg i0, if_pos (show i % (W + 1) < W from h), if_pos i0, if_pos (by omega), w64_in (x := i + 1) (by omega) (by omega), if_pos (by omega), if_pos (by omega), w64_in (x := rd L (i + 1) + 1) (by omega) (by omega), w2]
    · obtain ⟨B, b1, b2⟩ := ih (i - 1) L (by omega) (by omega) (m.skip (i := i) (fun j => by show i - 1 < j ↔ i < j ∨ j = i; omega) h)
      refine ⟨B, b1, fun r hr => Ev.step (fun k => ?_) (b2 r hr)⟩
      simp only [hinterlandref02_Settle.l3]
      rw [if_pos (show i ≥ 0 by omega), w1, if_neg (by omega), Int.tmod_eq_emod_of_nonneg i0, if_neg (show ¬ i % (W + 1) < W from h), w2]
theorem col_f {A : List Int} {c : Int} : ∀ (d : Nat) (i : Int) (L : List Int), W + 1 ≤ i → i + d = (O.length : Int) → Mid W O A L (gCF W) (fun j => j - (W + 1)) (fun j => j < i) → ∃ B, Swept W O A B (gCF W) (fun j => j - (W + 1)) ∧ ∀ r : S4, Ev (fun k => hinterlandref02_Settle.l5 k W H B ((O.length : Int) - W - 2) c) r → Ev (fun k => hinterlandref02_Settle.l4 k W H L i c) r := by
  obtain ⟨n0, n1⟩ := len_le s
  obtain ⟨sa, sb, sc, sd, _⟩ := id s
  intro d; induction d with
  | zero =>
    intro i L i0 hi m
    refine ⟨L, m.swept fun j a b => by show j < i; omega, fun r hr => Ev.step (fun k => ?_) hr⟩
    simp only [hinterlandref02_Settle.l4]
    rw [m.good.len, if_neg (by omega), w64_in (x := (O.length : Int) - W) (by omega) (by omega), w64_in (x := (O.length : Int) - W - 2) (by omega) (by omega)]
  | succ d ih =>
    intro i L i0 hi m
    have hl := m.good.len
    have i1 : i < (O.length : Int) := by omega
    have w2 : wrap64 (i + 1) = i + 1 := w64_in (by omega) (by omega)
    have h : gCF W i := i0
    have hz := m.good.hts (i - (W + 1)) (by omega) (by omega)
    have m' := m.step (p' := fun j => j < i + 1) (i := i) (fun j => by show j < i + 1 ↔ j < i ∨ j = i; omega) (by omega) i1 (by show ¬ i < i; omega) h (fun j a b c => by unfold gCF at c; show 0 ≤ j - (W + 1) ∧ j - (W + 1) < _; omega) (by show i - (W + 1) ≠ i; omega) (fun j (q : j < i) => by show j - (W + 1) ≠ i; omega) (y_cf s (by omega) i1 h)
    obtain ⟨B, b1, b2⟩ := ih (i + 1) _ (by omega) (by omega) m'
    refine ⟨B, b1, fun r hr => Ev.step (fun k => ?_) (b2 r hr)⟩
    have e : i - W - 1 = i - (W + 1) := by omega
    simp only [hinterlandref02_Settle.l4]
    rw [if_pos (by omega), if_pos (by omega), w64_in (x := i - W) (by omega) (by omega), w64_in (x := i - W - 1) (by omega) (by omega), e, if_pos (by omega), if_pos (by omega), w64_in (x := rd L (i - (W + 1)) + 1) (by omega) (by omega), w2]
theorem col_b {A : List Int} {c : Int} (hc : 0 ≤ c ∧ c < 10) : ∀ (d : Nat) (i : Int) (L : List Int), i + 1 = d → i + (W + 1) < (O.length : Int) → Mid W O A L (gCB W O.length) (fun j => j + (W + 1)) (fun j => i < j) → ∃ B, Swept W O A B (gCB W O.length) (fun j => j + (W + 1)) ∧ ∀ r : S4, Ev (fun k => hinterlandref02_Settle.l1 k W H B (c + 1)) r → Ev (fun k => hinterlandref02_Settle.l5 k W H L i c) r := by
  obtain ⟨n0, n1⟩ := len_le s
  obtain ⟨sa, sb, sc, sd, _⟩ := id s
  intro d; induction d with
  | zero =>
    intro i L hi i1 m
    refine ⟨L, m.swept fun j a b => by show i < j; omega, fun r hr => Ev.step (fun k => ?_) hr⟩
    simp only [hinterlandref02_Settle.l5]
    rw [if_neg (by omega), w64_in (x := c + 1) (by omega) (by omega)]
  | succ d ih =>
    intro i L hi i1 m
    have hl := m.good.len
    have i0 : 0 ≤ i := by omega
    have w2 : wrap64 (i - 1) = i - 1 := w64_in (by omega) (by omega)
    have hz := m.good.hts (i + (W + 1)) (by omega) (by omega)
    have m' := m.step (p' := fun j => i - 1 < j) (i := i) (fun j => by show i - 1 < j ↔ i < j ∨ j = i; omega) i0 (by omega) (by show ¬ i < i; omega) i1 (fun j a b c => by unfold gCB at c; show 0 ≤ j + (W + 1) ∧ j + (W + 1) < _; omega) (by show i + (W + 1) ≠ i; omega) (fun j (q : i < j) => by show j + (W + 1) ≠ i; omega) (y_cb s i0 i1)
    obtain ⟨B, b1, b2⟩ := ih (i - 1) _ (by omega) (by omega) m'
    refine ⟨B, b1, fun r hr' => Ev.step (fun k => ?_) (b2 r hr')⟩
    have e : i + W + 1 = i + (W + 1) := by omega
    simp only [hinterlandref02_Settle.l5]
    rw [if_pos (show i ≥ 0 by omega), if_pos i0, if_pos (by omega), w64_in (x := i + W) (by omega) (by omega), w64_in (x := i + W + 1) (by omega) (by omega), e, if_pos (by omega), if_pos (by omega), w64_in (x := rd L (i + (W + 1)) + 1) (by omega) (by omega), w2]
def RowLip (W : Int) (N : Nat) (Y : List Int) : Prop := ∀ j : Int, 0 ≤ j → j < (N : Int) → 0 < j % (W + 1) → near (rd Y j) (rd Y (j - 1))
theorem lip_b {L A B : List Int} (a : Swept W O L A (gRF W) (fun j => j - 1)) (b : Swept W O A B (gRB W) (fun j => j + 1)) : RowLip W O.length B := by
  have hn : 0 < W + 1 := by have := s.1; omega
  intro j j0 j1 h
  have x1 := Int.emod_lt_of_pos j hn
  have p := m_pos hn j0 h
  have h1 := a.done j j0 j1 h
  have h2 := b.done (j - 1) (by omega) (by omega) (by show (j - 1) % (W + 1) < W; rw [m_left hn h]; omega)
  simp only [show j - 1 + 1 = j by omega] at h1 h2
  have h3 := b.le j j0 j1
  unfold mn at h1 h2; unfold near
  split at h1 <;> split at h2 <;> omega
theorem lip_c {B C : List Int} (hb : RowLip W O.length B) (c : Swept W O B C (gCF W) (fun j => j - (W + 1))) : RowLip W O.length C := by
  have hn : 0 < W + 1 := by have := s.1; omega
  have go : ∀ (d : Nat) (j : Int), 0 ≤ j → j < d → j < (O.length : Int) → 0 < j % (W + 1) → near (rd C j) (rd C (j - 1)) := by
    intro d; induction d with
    | zero => intro j a b; omega
    | succ d ih =>
      intro j j0 jd j1 h
      have p := m_pos hn j0 h
      have hB := hb j j0 j1 h
      by_cases g : W + 1 ≤ j
      · have hm := m_up (i := j) hn
        have p2 := m_pos (i := j - (W + 1)) hn (by omega) (by rw [hm]; exact h)
        have h1 := c.done j j0 j1 g
        have h2 := c.done (j - 1) (by omega) (by omega) (by show W + 1 ≤ j - 1; omega)
        have h3 := ih (j - (W + 1)) (by omega) (by omega) (by omega) (by rw [hm]; exact h)
        simp only [show j - 1 - (W + 1) = j - (W + 1) - 1 by omega] at h1 h2
        unfold mn at h1 h2; unfold near at hB h3 ⊢
        split at h1 <;> split at h2 <;> omega
      · rw [c.rest j j0 j1 g, c.rest (j - 1) (by omega) (by omega) (by show ¬ W + 1 ≤ j - 1; omega)]; exact hB
  exact fun j a b h => go (j.toNat + 1) j a (by omega) b h
theorem lip_d {C D : List Int} (hc : RowLip W O.length C) (e : Swept W O C D (gCB W O.length) (fun j => j + (W + 1))) : RowLip W O.length D := by
  have hn : 0 < W + 1 := by have := s.1; omega
  have hN : (O.length : Int) % (W + 1) = 0 := by rw [s.2.2.2.2, Int.mul_emod_left]
  have go : ∀ (d : Nat) (j : Int), 0 ≤ j → (O.length : Int) - j ≤ d → j < (O.length : Int) → 0 < j % (W + 1) → near (rd D j) (rd D (j - 1)) := by
    intro d; induction d with
    | zero => intro j a b; omega
    | succ d ih =>
      intro j j0 jd j1 h
      have p := m_pos hn j0 h
      have hC := hc j j0 j1 h
      have hm := m_down (i := j) hn
      by_cases g : j + (W + 1) < (O.length : Int)
      · have h1 := e.done j j0 j1 g
        have h2 := e.done (j - 1) (by omega) (by omega) (by show j - 1 + (W + 1) < _; omega)
        have h3 := ih (j + (W + 1)) (by omega) (by omega) g (by rw [hm]; exact h)
        simp only [show j - 1 + (W + 1) = j + (W + 1) - 1 by omega] at h1 h2
        unfold mn at h1 h2; unfold near at hC h3 ⊢
        split at h1 <;> split at h2 <;> omega
      · have hne : j + (W + 1) ≠ (O.length : Int) := fun he => by rw [he] at hm; omega
        rw [e.rest j j0 j1 g, e.rest (j - 1) (by omega) (by omega) (by show ¬ j - 1 + (W + 1) < _; omega)]; exact hC
  exact fun j a b h => go O.length j a (by omega) b h
theorem sweep {L : List Int} {c : Int} (hc : 0 ≤ c ∧ c < 2) (g : Best W O L) : ∃ D, Best W O D ∧ Places W O.length D ∧ ∀ r : S4, Ev (fun k => hinterlandref02_Settle.l1 k W H D (c + 1)) r → Ev (fun k => hinterlandref02_Settle.l1 k W H L c) r := by
  obtain ⟨n0, n1⟩ := len_le s
  obtain ⟨sa, sb, sc, sd, _⟩ := id s
  have h2 : 5 * (W + 1) ≤ (O.length : Int) := by rw [s.2.2.2.2]; exact Int.mul_le_mul_of_nonneg_right (by omega) (by omega)
  obtain ⟨A, a1, a2⟩ := row_f s (A := L) (c := c) O.length 0 L (by omega) (by omega) (Mid.start g fun j a b => by show ¬ j < 0; omega)
  obtain ⟨B, b1, b2⟩ := row_b s (A := A) (c := c) O.length ((O.length : Int) - 1) A (by omega) (by omega) (Mid.start a1.good fun j a b => by show ¬ (O.length : Int) - 1 < j; omega)
  obtain ⟨C, c1, c2⟩ := col_f s (A := B) (c := c) ((O.length : Int) - (W + 1)).toNat (W + 1) B (by omega) (by omega) (by
    refine ⟨b1.good, fun j a b g p => ?_, fun _ _ _ _ => rfl⟩
    have g' : W + 1 ≤ j := g
    have p' : j < W + 1 := p
    omega)
  obtain ⟨D, d1, d2⟩ := col_b s (A := C) (c := c) (by omega) ((O.length : Int) - W - 1).toNat ((O.length : Int) - W - 2) C (by omega) (by omega) (by
    refine ⟨c1.good, fun j a b g p => ?_, fun _ _ _ _ => rfl⟩
    have g' : j + (W + 1) < (O.length : Int) := g
    have p' : (O.length : Int) - W - 2 < j := p
    omega)
  have ld := lip_d s (lip_c s (lip_b s a1 b1) c1) d1
  refine ⟨D, d1.good, fun j j0 j1 => ⟨fun h => ld j j0 j1 h, fun h => ?_⟩, fun r hr => ?_⟩
  · have h1 := d1.done (j - (W + 1)) (by omega) (by omega) (by show j - (W + 1) + (W + 1) < _; omega)
    have h2 := d1.le j j0 j1
    have h3 := c1.done j j0 j1 (by show W + 1 ≤ j; omega)
    simp only [show j - (W + 1) + (W + 1) = j by omega] at h1
    rw [show j - W - 1 = j - (W + 1) by omega]
    unfold mn at h1 h3; unfold near
    split at h1 <;> split at h3 <;> omega
  · refine Ev.step (fun k => ?_) (a2 r (b2 r (c2 r (d2 r hr))))
    simp only [hinterlandref02_Settle.l1]
    rw [if_pos (by omega), g.len]
end
theorem clamp2_ok {W H : Int} {h : List Int} {r : S4} (hn : (h.length : Int) < 1000000) (hr : Ev (fun k => hinterlandref02_Settle.l1 k W H (h.map cl) 0) r) : ∀ (d : Nat) (i : Int) (L : List Int), 0 ≤ i → i + d = (h.length : Int) → L.length = h.length → (∀ j, 0 ≤ j → j < i → rd L j = cl (rd h j)) → Ev (fun k => hinterlandref02_Settle.l0 k W H L h (h.length : Int) i) r := by
  intro d; induction d with
  | zero =>
    intro i L i0 hi hl hs
    have e : L = h.map cl := rd_ext (by simp [hl]) fun j j0 j1 => by rw [rd_map j0 (by omega)]; exact hs j j0 (by omega)
    subst e
    refine Ev.step (fun k => ?_) hr
    simp only [hinterlandref02_Settle.l0]; rw [if_neg (by omega)]
  | succ d ih =>
    intro i L i0 hi hl hs
    have := ih (i + 1) (L.set i.toNat (cl (rd h i))) (by omega) (by omega) (by simp [hl]) (fun j j0 j1 => by
      rw [rd_put i0 (by omega) j0]
      split
      · rename_i e; rw [e]
      · exact hs j j0 (by omega))
    refine Ev.step (fun k => ?_) this
    simp only [hinterlandref02_Settle.l0]
    rw [if_pos (by omega), if_pos i0, if_pos (by omega), if_pos (by omega), w64_in (x := i + 1) (by omega) (by omega)]
    rfl
theorem ref_yes {w h : Int} {l : List Int} (s : Sides w h l) : ∃ M, Ev (fun k => hinterlandref02_Settle.f k w h l) ((w, h, M, 0) : S4) ∧ Best w (l.map cl) M ∧ Places w (l.map cl).length M := by
  obtain ⟨n0, n1⟩ := len_le s
  obtain ⟨a, b, c, d, e⟩ := id s
  have s' : Sides w h (l.map cl) := by unfold Sides; rw [List.length_map]; exact s
  obtain ⟨D, d1, d2, d3⟩ := sweep s' (c := 0) (by omega) (Best.refl (hts_cl l))
  obtain ⟨M, m1, m2, m3⟩ := sweep s' (c := 1) (by omega) d1
  have hr : Ev (fun k => hinterlandref02_Settle.l1 k w h (l.map cl) 0) ((w, h, M, 0) : S4) := d3 _ (m3 _ (Ev.step (fun k => by simp only [hinterlandref02_Settle.l1]; rw [if_neg (by omega)]) (Ev.now _)))
  refine ⟨M, ?_, m1, m2⟩
  have hc := clamp2_ok (W := w) (H := h) (h := l) (by omega) hr l.length 0 (List.replicate l.length 0) (by omega) (by omega) (by simp) (fun j j0 j1 => by omega)
  refine Ev.step (f := fun k => hinterlandref02_Settle.l0 k w h (List.replicate l.length 0) l (l.length : Int) 0) (fun k => ?_) hc
  unfold hinterlandref02_Settle.f hinterlandref02_side.f
  rw [if_pos (show w ≥ 4 by omega), if_pos (show h ≥ 4 by omega)]
  simp only [Option.bind_some, decide_eq_true_eq]
  rw [if_pos b, if_pos d, wrap_len a b c d, ← e]
  simp only [hinterlandref02_Settle.j0]
  rw [if_neg (by simp), if_pos (by omega), if_pos (by simp; omega)]
  simp
theorem ref_no {w h : Int} {l : List Int} (s : ¬ Sides w h l) : Ev (fun k => hinterlandref02_Settle.f k w h l) ((0, 0, [], 1) : S4) := by
  refine ⟨2, fun k hk => ?_⟩
  obtain ⟨k, rfl⟩ : ∃ m, k = m + 1 + 1 := ⟨k - 2, by omega⟩
  unfold hinterlandref02_Settle.f hinterlandref02_side.f
  by_cases h1 : w ≥ 4
  · by_cases h2 : w ≤ 32
    · by_cases h3 : h ≥ 4
      · by_cases h4 : h ≤ 32
        · simp only [h1, h2, h3, h4, if_true, Option.bind_some, decide_true]
          rw [wrap_len h1 h2 h3 h4]
          simp only [hinterlandref02_Settle.j0]
          rw [if_pos]
          simp only [bne_iff_ne]
          exact fun e => s ⟨h1, h2, h3, h4, e⟩
        · simp [h1, h2, h3, h4, hinterlandref02_Settle.j0]
      · simp [h1, h2, h3, hinterlandref02_Settle.j0]
    · simp [h1, h2, hinterlandref02_Settle.j0]
  · simp [h1, hinterlandref02_Settle.j0]
/-- Both make the same land of raw heights. -/
theorem settle_both (w h : Int) (l : List Int) : ∃ r : S4, Ev (fun k => land_Settle.f k w h l) r ∧ Ev (fun k => hinterlandref02_Settle.f k w h l) r ∧ r.2.2.1.length ≤ l.length ∧ (r.2.2.2 = 0 → Sides w h l ∧ r.1 = w ∧ r.2.1 = h ∧ Best w (l.map cl) r.2.2.1 ∧ Places w (l.map cl).length r.2.2.1) := by
  by_cases s : Sides w h l
  · obtain ⟨M, m1, m2, m3⟩ := settle_yes s
    obtain ⟨N, n1, n2, n3⟩ := ref_yes s
    have e := m2.same n2 m3 n3
    subst e
    refine ⟨(w, h, M, 0), m1, n1, ?_, fun _ => ⟨s, rfl, rfl, m2, m3⟩⟩
    have := m2.len; rw [List.length_map] at this
    show M.length ≤ _; omega
  · exact ⟨(0, 0, [], 1), settle_no s, ref_no s, by simp, fun h => absurd h (by decide)⟩
end Go.Proofs.Ytchflcnegpnkkaa.Swp
namespace Go.Proofs.Ytchflcnegpnkkaa.Pure
open Go.RowKit Go.Proofs.YtchflcnegpnkkaaOwn Go.Proofs.Ytchflcnegpnkkaa.Q Go.Proofs.Ytchflcnegpnkkaa.Val Go.Proofs.Ytchflcnegpnkkaa.Set Go.Proofs.Ytchflcnegpnkkaa.Swp Go.Proofs.YtchflcnegpnkkaaW.PrintWords Go.Proofs.YtchflcnegpnkkaaW.PrintLast
theorem known_ev : Ev (fun k => hinterlandlaw02_known.f k) true := Ev.of hinterlandlaw02_known.mono (k := 200) (by decide +kernel)
theorem list_self {l : List Int} (hl : l.length < 1000000000) : ∀ (d : Nat) (i : Int), 0 ≤ i → i + d = l.length → Ev (fun k => hinterlandsame_List_int.l0 k l l i) true := by
  intro d; induction d with
  | zero =>
    intro i i0 hd
    refine Ev.step (fun _ => rfl) ?_
    simp only [hinterlandsame_List_int.l0, show ¬ i < (l.length : Int) by omega, if_false]; exact Ev.now _
  | succ d ih =>
    intro i i0 hd
    refine Ev.step (fun _ => rfl) ?_
    simp only [hinterlandsame_List_int.l0, show i < (l.length : Int) by omega, i0, if_true, show wrap64 (i + 1) = i + 1 from w64_in (by omega) (by omega)]
    exact ih (i + 1) (by omega) (by omega)
theorem land_self (a b : Int) {l : List Int} (hl : l.length < 1000000000) : Ev (fun k => hinterlandsame_Land.f k a b l a b l) true := by
  unfold hinterlandsame_Land.f
  simp only [if_true]
  refine Ev.bind (?_ : Ev _ true) (Ev.now _)
  unfold hinterlandsame_List_int.f
  simp only [if_true]
  exact list_self hl l.length 0 (by omega) (by omega)
/-- The land of raw heights. -/
theorem LandSettles : hinterlandlaw02_LandSettles.Pure := by
  intro w h l _ _ _
  refine Ev.rounds ?_
  unfold hinterlandlaw02_LandSettles.f
  by_cases c : (l.length : Int) > 4000
  · simp only [c, if_true]
    exact Ev.bind known_ev (Ev.now _)
  · simp only [c, if_false]
    obtain ⟨r, h1, h2, h3, _⟩ := settle_both w h l
    refine Ev.bind h1 (Ev.bind h2 ?_)
    simp only [if_true]
    refine Ev.bind (land_self r.1 r.2.1 (l := r.2.2.1) (by omega)) ?_
    simp only [if_true]
    exact Ev.bind known_ev (Ev.now _)
end Go.Proofs.Ytchflcnegpnkkaa.Pure

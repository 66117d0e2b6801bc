-- PRINTED by print.py out of the translation. Not trusted: Lean checks it.
import Derived.Test.YtnkgelnkoljgdaaPrs
import Derived.Test.YtnkgelnkoljgdaaQ0
import Derived.Test.YtnkgelnkoljgdaaQ4
import Derived.Maps.Keyed
import Derived.Maps.Own
import Derived.Maps.OwnSet
import Derived.Maps.Views
namespace Go.Proofs.Ytnkgelnkoljgdaa.Q
open Go.RowKit Go.Proofs.YtnkgelnkoljgdaaPrs Go.Proofs.YtnkgelnkoljgdaaOwn Go.Proofs.YtnkgelnkoljgdaaW.PrintWords Go.Proofs.YtnkgelnkoljgdaaW.PrintLast Go.Proofs.YtnkgelnkoljgdaaW.PrintMore
attribute [local go_sem] max2_int min2_int max_two min_two max_three min_three max_four min_four   -- for this text's walks alone
set_option linter.unusedVariables false
set_option linter.unusedSimpArgs false

/-! ### plant_ValidateKinds: function 33 -/
-- IMPORT Derived.Maps.Own
-- IMPORT Derived.Maps.OwnSet
-- IMPORT Derived.Maps.Views
-- IMPORT Derived.Maps.Keyed
/-- Block b holds a map from texts to truths, of at most n entries: true stand just those of p. -/
def MapS (P : Program) (w : World) (b n : Nat) (p : ByteArray → Bool) : Prop :=
  ∃ D : DataW Unit, w.ownsMap P 9 (plainElem P 4) b n D ∧ ∀ s : ByteArray, D.atKey (.string s.data.toList) (.lit (.bool false)) = .lit (.bool (p s))
theorem MapS.lt {P : Program} {w : World} {b n : Nat} {p : ByteArray → Bool} (h : MapS P w b n p) : b < w.heap.size := by
  obtain ⟨D, hD, _⟩ := h; exact hD.lt
theorem MapS.below {P : Program} {w w1 : World} {b n : Nat} {p : ByteArray → Bool} (h : MapS P w b n p) (hb : Below w.heap.size w w1) : MapS P w1 b n p := by
  obtain ⟨D, hD, hp⟩ := h; exact ⟨D, hD.kept (grown_of_below hb none) (by simp), hp⟩
theorem MapS.drew {P : Program} {w : World} {b n : Nat} {p : ByteArray → Bool} (h : MapS P w b n p) : MapS P w.drew b n p := h
theorem MapS.drewN {P : Program} {w : World} {b n : Nat} {p : ByteArray → Bool} (h : MapS P w b n p) (m : Nat) : MapS P (w.drewN m) b n p := h
theorem MapS.alloc {P : Program} {w : World} {b n : Nat} {p : ByteArray → Bool} (h : MapS P w b n p) (o : Obj) : MapS P (w.alloc o) b n p := h.below (below_alloc (Below.refl _ _) o)
theorem MapS.set {P : Program} {w : World} {b n : Nat} {p : ByteArray → Bool} (h : MapS P w b n p) {g j : Nat} (hg : b ≠ g) (u : Value) : MapS P (w.setCell ⟨g, j, none⟩ u) b n p := by
  obtain ⟨D, hD, hp⟩ := h; exact ⟨D, hD.setCell (a := ⟨g, j, none⟩) hg u, hp⟩
theorem MapS.made (P : Program) (w : World) : MapS P (w.alloc (.map #[] 0)) w.heap.size 0 (fun _ => false) :=
  ⟨.map [], World.ownsMap_made w P 9 (plainElem P 4), fun _ => rfl⟩
theorem MapS.ext {P : Program} {w : World} {b n : Nat} {p q : ByteArray → Bool} (h : MapS P w b n p) (e : ∀ s, p s = q s) : MapS P w b n q := by
  have : p = q := funext e; subst this; exact h
section
variable {P : Program} {ops : Array Oper} {rest : List Oper} {o : Oper} {a : Act} {Q : Exit → Act → World → Prop}
theorem gate_mapUpdate {W : World} {t : TypeId} {m x v : Operand} (_ho : o.op = .mapUpdate t m x v) (h : wpList P ops Q (o :: rest) a W) : wpList P ops Q (o :: rest) a W := h
theorem map_event {W : World} (hgd : o.guard = none) {N : Tmp} (_hd : o.dst = some N)
    (hrun : (execOp a.eval o).run P W = .ok (.value (.map (some W.heap.size))) (W.alloc (.map #[] 0)))
    (h : ∀ b, b = W.heap.size → ∀ w1, MapS P w1 b 0 (fun _ => false) → Below W.heap.size W w1 → wpList P ops Q rest (a.put o.dst (.map (some b))) w1) : wpList P ops Q (o :: rest) a W :=
  Kd.event_run hgd hrun (h _ rfl _ (MapS.made P W) (below_alloc (Below.refl _ _) _))
theorem look_event {W : World} (hgd : o.guard = none) {N : Tmp} (_hd : o.dst = some N) {m x : Operand} {t : TypeId} (hop : o.op = .lookup t m x false)
    (ht : P.underlying t = some (.map 9 4)) (h9 : P.underlying 9 = some .string) (h4 : P.underlying 4 = some .bool) (hz : ∀ w, (zeroValue 4).run P w = .ok (.bool false) w)
    {b n : Nat} {p : ByteArray → Bool} (hm : a.eval m = .map (some b)) (hM : MapS P W b n p) {s : ByteArray} (hx : a.eval x = .string s) (hs : s.size ≤ maxLen) {r : Bool} (hr : p s = r)
    (h : wpList P ops Q rest (a.put o.dst (.bool r)) W) : wpList P ops Q (o :: rest) a W := by
  obtain ⟨D, hD, hp⟩ := hM; have hkey : keyOf P 9 (.string s) = some (.string s.data.toList) := by simp [keyOf, mapKey, h9, hs]
  obtain ⟨v, ps, hrun, hv⟩ := hD.lookup (Maps.string_keyed h9) ht (hz W) (plainElem_bool h4 false) hkey; rw [hp s, hr] at hv; have hvb : v = .bool r := by
    unfold plainElem at hv
    rw [h4] at hv
    cases v <;> simp at hv
    rename_i y; rw [hv.1]
  subst hvb; refine wpList_plain hgd fun K hK => ?_
  unfold Oper.wp
  simp [execOp, hop, hm, hx, hrun, Result.andThen]
  exact hK _ _ h
theorem put_event {W : World} (hgd : o.guard = none) (hd : o.dst = none) {m x v : Operand} {t : TypeId} (hop : o.op = .mapUpdate t m x v)
    (ht : P.underlying t = some (.map 9 4)) (h9 : P.underlying 9 = some .string) (h4 : P.underlying 4 = some .bool)
    {b n : Nat} {p : ByteArray → Bool} (hm : a.eval m = .map (some b)) (hM : MapS P W b n p) {s : ByteArray} (hx : a.eval x = .string s) (hs : s.size ≤ maxLen) (hv : a.eval v = .bool true) (hn : n < maxLen)
    (h : ∀ w', MapS P w' b (n + 1) (fun y => decide (y = s) || p y) → W.grownBy w' (some b) → wpList P ops Q rest a w') : wpList P ops Q (o :: rest) a W := by
  obtain ⟨D, hD, hp⟩ := hM; have hkey : keyOf P 9 (.string s) = some (.string s.data.toList) := by simp [keyOf, mapKey, h9, hs]
  obtain ⟨w', hrun, r1, r2⟩ := hD.update (Maps.string_keyed h9) ht hn hkey (plainElem_bool h4 true); refine wpList_plain hgd fun K hK => ?_
  unfold Oper.wp
  simp [execOp, hop, hm, hx, hv, hrun, Result.andThen]
  show K (a.put o.dst undef) w'
  rw [hd]; refine hK _ _ (h w' ⟨_, r1, fun y => ?_⟩ r2)
  by_cases hy : y = s
  · subst hy
    rw [Maps.atKey_put_same (k := .string y.data.toList) hD.isMap trivial]; simp
  · rw [Maps.atKey_put_other (by
      intro e; apply hy
      injection e with e
      cases y; cases s
      congr 1
      exact Array.ext' e), hp y]
    simp [hy]
end
theorem below_grown {w W w1 : World} {b : Nat} (h : Below w.heap.size w W) (hb : w.heap.size ≤ b) (hg : W.grownBy w1 (some b)) : Below w.heap.size w w1 :=
  ⟨hg.os.trans h.os, hg.tape.trans h.tape, hg.output.trans h.output, Nat.le_trans h.size hg.size, fun k hk => (hg.block k (Nat.lt_of_lt_of_le hk h.size) (by simp; omega)).trans (h.block k hk)⟩
/-- An earlier kind bears the name of this one. -/
def plant_seen (l : List S39) (i : Int) : Bool := (l.take i.toNat).any (fun m => decide ((rd_T39 l i).f0 = m.f0))
theorem plant_seen_step (l : List S39) (i : Int) (h0 : 0 ≤ i) (h1 : i < (l.length : Int)) (hl : l.length ≤ 16) : (wrap64 (i + 1)).toNat = i.toNat + 1 ∧ ∀ y : ByteArray, (decide (y = (rd_T39 l i).f0) || (l.take i.toNat).any (fun m => decide (y = m.f0))) = (l.take (i.toNat + 1)).any (fun m => decide (y = m.f0)) := by
  have w1 : wrap64 (i + 1) = i + 1 := by unfold wrap64; omega
  refine ⟨by rw [w1]; omega, fun y => ?_⟩; have hi : i.toNat < l.length := by omega
  have hr : rd_T39 l i = l[i.toNat] := by
    unfold rd_T39
    simp [List.getD_eq_getElem?_getD, List.getElem?_eq_getElem hi]
  rw [List.take_add_one, List.getElem?_eq_getElem hi, List.any_append, hr]
  simp [Bool.or_comm]
mutual
def plant_ValidateKinds.l0 : Nat → List (S39) → List (S39) → Int → Int → Option (Int)
  | 0, _, _, _, _ => none
  | k + 1, x0, x11, x12, x13 => if x13 < x12 then (if 0 ≤ x13 then (if x13 < (x11.length : Int) then ((plant_kind.f k ((rd_T39 x11 x13).f0) ((rd_T39 x11 x13).f1) ((rd_T39 x11 x13).f2)).bind fun t113 => (if t113 = true then (plant_ValidateKinds.l0 k x0 x11 x12 (wrap64 (x13 + 1))) else (some 1))) else (none)) else (none)) else (plant_ValidateKinds.l1 k x0 (x0.length : Int) 0)
def plant_ValidateKinds.l1 : Nat → List (S39) → Int → Int → Option (Int)
  | 0, _, _, _ => none
  | k + 1, x22, x23, x24 => if x24 < x23 then (if 0 ≤ x24 then (if x24 < (x22.length : Int) then (if ((rd_T39 x22 x24).f0).size ≤ maxLen then (if plant_seen x22 x24 = true then (some 3) else (plant_ValidateKinds.l1 k x22 x23 (wrap64 (x24 + 1)))) else (none)) else (none)) else (none)) else (some 0)
end
def plant_ValidateKinds.f (k : Nat) (l0 : List (S39)) : Option (Int) := if (l0.length : Int) > 16 then (some 4) else (plant_ValidateKinds.l0 k l0 l0 (l0.length : Int) 0)
theorem plant_ValidateKinds.mono_l : ∀ k, (∀ y0 y1 y2 y3, LeO (plant_ValidateKinds.l0 k y0 y1 y2 y3) (plant_ValidateKinds.l0 (k + 1) y0 y1 y2 y3)) ∧ (∀ y0 y1 y2, LeO (plant_ValidateKinds.l1 k y0 y1 y2) (plant_ValidateKinds.l1 (k + 1) y0 y1 y2))
  | 0 => ⟨fun _ _ _ _ r h => by simp [plant_ValidateKinds.l0] at h, fun _ _ _ r h => by simp [plant_ValidateKinds.l1] at h⟩
  | k + 1 => by
    obtain ⟨ih0, ih1⟩ := plant_ValidateKinds.mono_l k; refine ⟨?_, ?_⟩
    · intro y0 y1 y2 y3
      unfold plant_ValidateKinds.l0
      repeat' first
      | (with_reducible first | apply ih0 | apply ih1 | apply plant_kind.mono | exact LeO.refl _ | exact LeO.none _ | refine LeO.ite ?_ ?_ | refine LeO.bind ?_ (fun _ => ?_))
    · intro y0 y1 y2
      unfold plant_ValidateKinds.l1
      repeat' first
      | (with_reducible first | apply ih0 | apply ih1 | apply plant_kind.mono | exact LeO.refl _ | exact LeO.none _ | refine LeO.ite ?_ ?_ | refine LeO.bind ?_ (fun _ => ?_))
theorem plant_ValidateKinds.mono : ∀ a0 k, LeO (plant_ValidateKinds.f k a0) (plant_ValidateKinds.f (k + 1) a0) := by
  intro a0 k; obtain ⟨ih0, ih1⟩ := plant_ValidateKinds.mono_l k
  unfold plant_ValidateKinds.f
  repeat' first
      | (with_reducible first | apply ih0 | apply ih1 | apply plant_kind.mono | exact LeO.refl _ | exact LeO.none _ | refine LeO.ite ?_ ?_ | refine LeO.bind ?_ (fun _ => ?_))
set_option maxHeartbeats 8000000 in
set_option maxRecDepth 100000 in
theorem plant_ValidateKinds.calls (k : Nat) (A0 : Option Addr) (c0 : Nat) (l0 : List (S39)) (r : Int) (w : World) (hr0 : Kd.C k39 w A0 l0.length l0) (hc0 : l0.length ≤ c0) (h : plant_ValidateKinds.f k l0 = some r) :
    Calls Try.prog 33 #[.slice A0 l0.length c0] w fun e w' => e = .returned (.int .i64 r) ∧ Below w.heap.size w w' := by
 have hu39 := Try.underlying39; have HR0 := Aside0.mk hr0; have HC0 := Aside0.mk hc0; clear hr0 hc0; have HB := Aside0.mk (Below.refl w.heap.size w); have H : (if (l0.length : Int) > 16 then (some 4) else (plant_ValidateKinds.l0 k l0 l0 (l0.length : Int) 0)) = some r := h; clear h
 by_cases c2 : (l0.length : Int) > 16
 ·rw [if_pos c2] at H; have c2b0 : decide (16 < (l0.length : Int)) = true := decide_eq_true c2; have c2b1 : decide (16 < l0.length) = true := decide_eq_true (by omega); clear c2; obtain rfl := Option.some.inj H
  go_enter Try.func33, Try.ntmps33
  go_wp2
  go_ret
  exact ⟨tE_, dL_ HB⟩
 ·rw [if_neg c2] at H; have HL := Aside0.mk (show l0.length ≤ 16 by omega); have c2b0 : decide (16 < (l0.length : Int)) = false := decide_eq_false c2; have c2b1 : decide (16 < l0.length) = false := decide_eq_false (by omega); clear c2; have H' := Aside0.mk H; clear H
  go_enter Try.func33, Try.ntmps33
  go_wp2
  go_loopg [13] k (fun kq v13 w' => ∃ (x13_1 : Int), v13 = .int .i64 x13_1 ∧ Aside0 (plant_ValidateKinds.l0 kq l0 l0 (l0.length : Int) x13_1 = some r) ∧ Aside0 (kq ≤ k) ∧ Aside0 (Below w.heap.size w w'))
  case atStart => exact ⟨(0), tS_, H', ⟨Nat.le_refl _⟩, ⟨dL_ HB⟩⟩
  case round =>
   clear H'; (try clear c2); (try clear c2b0); (try clear c2b1); obtain ⟨x13_1, rfl, HA, HK1, HB⟩ := hrel
   cases gk with
   | zero => exact absurd HA.out (by simp [plant_ValidateKinds.l0])
   | succ k1 =>
    have H := HA.out; clear HA; simp only [plant_ValidateKinds.l0] at H
    by_cases c3 : x13_1 < (l0.length : Int)
    ·rw [if_pos c3] at H; have c3b0 : decide (x13_1 < (l0.length : Int)) = true := decide_eq_true c3; clear c3
     by_cases c4 : 0 ≤ x13_1
     ·rw [if_pos c4] at H; have c4b0 : decide (0 ≤ x13_1) = true := decide_eq_true c4; clear c4
      by_cases c5 : x13_1 < (l0.length : Int)
      ·rw [if_pos c5] at H; have c5b0 : decide (x13_1 < (l0.length : Int)) = true := decide_eq_true c5; clear c5; replace H := Option.bind_eq_some_iff.mp H; obtain ⟨t113, A60, H⟩ := H; have A6 := Aside0.mk A60; clear A60
       by_cases c7 : t113 = true
       ·subst c7; rw [if_pos rfl] at H; have H' := Aside0.mk H; clear H; have p111 : 0 ≤ (x13_1 : Int) := of_decide_eq_true tW_; have q111 : x13_1 < (l0.length : Int) := of_decide_eq_true tW_; obtain ⟨ad111, A111_1, c111_1, A111_2, c111_2, e111, hx111_0, hx111_1, hx111_2, hl111_1, hi111_1, hl111_2, hi111_2⟩ := at_T39 HR0.out x13_1 p111 q111; cases e111; replace hx111_0 := bc_ HB hx111_0; replace hx111_1 := bc_ HB hx111_1; replace hx111_2 := bc_ HB hx111_2; have HR111_1 := Aside0.mk hi111_1; have HC111_1 := Aside0.mk hl111_1; clear hi111_1 hl111_1; have HR111_2 := Aside0.mk hi111_2; have HC111_2 := Aside0.mk hl111_2; clear hi111_2 hl111_2; replace p111 := eq_true p111; replace q111 := eq_true q111
        go_wp2_with (first | ((with_reducible refine gate_dst (N := 4) rfl ?_); refine bx_ (N := 4) (cs := #[.string (⟨#[]⟩ : ByteArray), .slice none 0 0, .slice none 0 0]) (t := 39) ?_; intro gb112 hg w8 hbox hb; have BK112 := Aside0.mk (hbox); have GW112 := Aside0.mk ((dS_ hg (dL_ HB) : w.heap.size ≤ gb112)); have GE112 := GW112; replace HB := Aside0.mk (below_step (dL_ HB) hb); clear hb hbox hg; obtain ⟨z9a, z9b, z9c, y9a, y9b, y9c⟩ := cs3_ BK112.out) | ((with_reducible refine gate_callee (f := 47) rfl ?_); refine gL_ (some 18) Try.func47 #[.agg #[.string ((rd_T39 l0 x13_1).f0), .slice A111_1 ((rd_T39 l0 x13_1).f1).length c111_1, .slice A111_2 ((rd_T39 l0 x13_1).f2).length c111_2]] ?_ rfl; (with_reducible refine (plant_kind.calls k1 ((rd_T39 l0 x13_1).f0) _ _ ((rd_T39 l0 x13_1).f1) _ _ ((rd_T39 l0 x13_1).f2) true _ ?side1 ?side2 ?side3 ?side4 A6.out).mono ?_); (case side1 => exact Kd.C_below HR111_1.out (dL1_ HB GE112)); (case side2 => exact HC111_1.out); (case side3 => exact Kd.C_below HR111_2.out (dL1_ HB GE112)); (case side4 => exact HC111_2.out); rintro e w10 ⟨rfl, hb⟩; refine ⟨_, rfl, ?_⟩; replace BK112 := Aside0.mk (blk_below (g := gb112) (o := .cells #[.string ((rd_T39 l0 x13_1).f0), .slice A111_1 ((rd_T39 l0 x13_1).f1).length c111_1, .slice A111_2 ((rd_T39 l0 x13_1).f2).length c111_2] 39 (0, 0)) (bz_ BK112) hb); replace HB := Aside0.mk (below_step (dL1_ HB GE112) hb)))
        go_roundg k1
        case measure => have := HK1.out; omega
        case rel => exact ⟨(wrap64 (x13_1 + 1)), tS_, H', ⟨by have := HK1.out; omega⟩, ⟨dL1_ HB GE112⟩⟩
       ·replace c7 := Bool.eq_false_iff.mpr c7; subst c7; rw [if_neg (show ¬ (false = true) by decide)] at H; obtain rfl := Option.some.inj H; have p111 : 0 ≤ (x13_1 : Int) := of_decide_eq_true tW_; have q111 : x13_1 < (l0.length : Int) := of_decide_eq_true tW_; obtain ⟨ad111, A111_1, c111_1, A111_2, c111_2, e111, hx111_0, hx111_1, hx111_2, hl111_1, hi111_1, hl111_2, hi111_2⟩ := at_T39 HR0.out x13_1 p111 q111; cases e111; replace hx111_0 := bc_ HB hx111_0; replace hx111_1 := bc_ HB hx111_1; replace hx111_2 := bc_ HB hx111_2; have HR111_1 := Aside0.mk hi111_1; have HC111_1 := Aside0.mk hl111_1; clear hi111_1 hl111_1; have HR111_2 := Aside0.mk hi111_2; have HC111_2 := Aside0.mk hl111_2; clear hi111_2 hl111_2; replace p111 := eq_true p111; replace q111 := eq_true q111
        go_wp2_with (first | ((with_reducible refine gate_dst (N := 4) rfl ?_); refine bx_ (N := 4) (cs := #[.string (⟨#[]⟩ : ByteArray), .slice none 0 0, .slice none 0 0]) (t := 39) ?_; intro gb112 hg w11 hbox hb; have BK112 := Aside0.mk (hbox); have GW112 := Aside0.mk ((dS_ hg (dL_ HB) : w.heap.size ≤ gb112)); have GE112 := GW112; replace HB := Aside0.mk (below_step (dL_ HB) hb); clear hb hbox hg; obtain ⟨z12a, z12b, z12c, y12a, y12b, y12c⟩ := cs3_ BK112.out) | ((with_reducible refine gate_callee (f := 47) rfl ?_); refine gL_ (some 18) Try.func47 #[.agg #[.string ((rd_T39 l0 x13_1).f0), .slice A111_1 ((rd_T39 l0 x13_1).f1).length c111_1, .slice A111_2 ((rd_T39 l0 x13_1).f2).length c111_2]] ?_ rfl; (with_reducible refine (plant_kind.calls k1 ((rd_T39 l0 x13_1).f0) _ _ ((rd_T39 l0 x13_1).f1) _ _ ((rd_T39 l0 x13_1).f2) false _ ?side1 ?side2 ?side3 ?side4 A6.out).mono ?_); (case side1 => exact Kd.C_below HR111_1.out (dL1_ HB GE112)); (case side2 => exact HC111_1.out); (case side3 => exact Kd.C_below HR111_2.out (dL1_ HB GE112)); (case side4 => exact HC111_2.out); rintro e w13 ⟨rfl, hb⟩; refine ⟨_, rfl, ?_⟩; replace BK112 := Aside0.mk (blk_below (g := gb112) (o := .cells #[.string ((rd_T39 l0 x13_1).f0), .slice A111_1 ((rd_T39 l0 x13_1).f1).length c111_1, .slice A111_2 ((rd_T39 l0 x13_1).f2).length c111_2] 39 (0, 0)) (bz_ BK112) hb); replace HB := Aside0.mk (below_step (dL1_ HB GE112) hb)))
        go_ret
        exact ⟨tE_, dL1_ HB GE112⟩
      ·rw [if_neg c5] at H; exact absurd H (by simp)
     ·rw [if_neg c4] at H; exact absurd H (by simp)
    ·rw [if_neg c3] at H; have c3b0 : decide (x13_1 < (l0.length : Int)) = false := decide_eq_false c3; clear c3; have H' := Aside0.mk H; clear H
     go_wp2_with (first | ((with_reducible refine gate_dst (N := 21) rfl ?_); refine map_event ?hg (N := 21) ?hd ?hr ?_; (case hd => rfl); (case hg => rfl); (case hr => first | rfl | (go_simp; done) | (go_simp; rfl)); intro mb21 hg w12 hM hb; have n0_ := Aside0.mk (below_step (dL_ HB) hb); have GM := Aside0.mk ((dS_ hg (dL_ HB) : w.heap.size ≤ mb21)); have HM := Aside0.mk hM; clear HB; have HB := n0_; clear n0_; clear hb hM hg))
     go_loopg [24] k1 (fun kq v24 w' => ∃ (x24_2 : Int), v24 = .int .i64 x24_2 ∧ Aside0 (plant_ValidateKinds.l1 kq l0 (l0.length : Int) x24_2 = some r) ∧ Aside0 (kq ≤ k1) ∧ Aside0 (MapS Try.prog w' mb21 x24_2.toNat (fun s => (l0.take (x24_2).toNat).any (fun m => decide (s = m.f0)))) ∧ Aside0 (Below w.heap.size w w'))
     case atStart => exact ⟨(0), tS_, H', ⟨Nat.le_refl _⟩, ⟨by (with_reducible repeat (first | refine MapS.drewN ?_ _ | refine MapS.drew ?_ | refine MapS.alloc ?_ _)); exact HM.out⟩, ⟨dL_ HB⟩⟩
     case round =>
      clear H'; clear HM; (try clear c2); (try clear c2b0); (try clear c2b1); (try clear c3); (try clear c3b0); (try clear c4); (try clear c5); obtain ⟨x24_2, rfl, HA, HK2, HM, HB⟩ := hrel
      cases gk with
      | zero => exact absurd HA.out (by simp [plant_ValidateKinds.l1])
      | succ k2 =>
       have H := HA.out; clear HA; simp only [plant_ValidateKinds.l1] at H
       by_cases c14 : x24_2 < (l0.length : Int)
       ·rw [if_pos c14] at H; have c14b0 : decide (x24_2 < (l0.length : Int)) = true := decide_eq_true c14; clear c14
        by_cases c15 : 0 ≤ x24_2
        ·rw [if_pos c15] at H; have c15b0 : decide (0 ≤ x24_2) = true := decide_eq_true c15; clear c15
         by_cases c16 : x24_2 < (l0.length : Int)
         ·rw [if_pos c16] at H; have c16b0 : decide (x24_2 < (l0.length : Int)) = true := decide_eq_true c16; clear c16; have c0 : ((rd_T39 l0 x24_2).f0).size ≤ maxLen := by
            by_cases c1 : ((rd_T39 l0 x24_2).f0).size ≤ maxLen
            · exact c1
            · rw [if_neg c1] at H; exact absurd H (by simp)
          rw [if_pos c0] at H; have HS := Aside0.mk c0; clear c0
          by_cases c17 : plant_seen l0 x24_2 = true
          ·rw [if_pos c17] at H; have HC17 := Aside0.mk c17; clear c17; obtain rfl := Option.some.inj H; have p114 : 0 ≤ (x24_2 : Int) := of_decide_eq_true tW_; have q114 : x24_2 < (l0.length : Int) := of_decide_eq_true tW_; obtain ⟨ad114, A114_1, c114_1, A114_2, c114_2, e114, hx114_0, hx114_1, hx114_2, hl114_1, hi114_1, hl114_2, hi114_2⟩ := at_T39 HR0.out x24_2 p114 q114; cases e114; replace hx114_0 := bc_ HB hx114_0; replace hx114_1 := bc_ HB hx114_1; replace hx114_2 := bc_ HB hx114_2; have HR114_1 := Aside0.mk hi114_1; have HC114_1 := Aside0.mk hl114_1; clear hi114_1 hl114_1; have HR114_2 := Aside0.mk hi114_2; have HC114_2 := Aside0.mk hl114_2; clear hi114_2 hl114_2; replace p114 := eq_true p114; replace q114 := eq_true q114
           go_wp2_with (first | ((with_reducible refine gate_dst (N := 7) rfl ?_); refine bx_ (N := 7) (cs := #[.string (⟨#[]⟩ : ByteArray), .slice none 0 0, .slice none 0 0]) (t := 39) ?_; intro gb115 hg w18 hbox hb; have n0_ := Aside0.mk (below_step (dL_ HB) hb); have n1_ := Aside0.mk (hbox); have NM := Aside0.mk ((by rw [hg]; exact Nat.ne_of_lt (MapS.lt (by (with_reducible repeat (first | refine MapS.drewN ?_ _ | refine MapS.drew ?_ | refine MapS.alloc ?_ _)); exact HM.out)) : mb21 ≠ gb115)); have nM_ := Aside0.mk (MapS.below (by (with_reducible repeat (first | refine MapS.drewN ?_ _ | refine MapS.drew ?_ | refine MapS.alloc ?_ _)); exact HM.out) hb); clear HM; have HM := nM_; clear nM_; have n2_ := Aside0.mk ((dS_ hg (dL_ HB) : w.heap.size ≤ gb115)); have n3_ := Aside0.mk ((dS_ hg (dL_ HB) : w.heap.size ≤ gb115)); clear HB; have HB := n0_; have BK115 := n1_; have GW115 := n2_; have GE115 := n3_; clear n0_ n1_ n2_ n3_; clear hb hbox hg; obtain ⟨z19a, z19b, z19c, y19a, y19b, y19c⟩ := cs3_ BK115.out) | ((with_reducible refine gate_dst (N := 31) rfl ?_); refine look_event ?hg (N := 31) ?hd (m := .tmp 28) (x := .tmp 30) (t := 68) ?ho Try.underlying68 Try.underlying9 Try.underlying4 ?hz (b := mb21) (n := x24_2.toNat) (p := (fun s => (l0.take (x24_2).toNat).any (fun m => decide (s = m.f0)))) ?hm (by (with_reducible repeat (first | refine MapS.set ?_ NM.out _ | refine MapS.drewN ?_ _ | refine MapS.drew ?_ | refine MapS.alloc ?_ _)); exact HM.out) (s := (rd_T39 l0 x24_2).f0) ?hx HS.out (r := true) HC17.out ?_; (case hg => rfl); (case hd => rfl); (case ho => rfl); (case hz => intro w_; rfl); (case hm => rfl); (case hx => rfl)))
           go_ret
           exact ⟨tE_, dL1_ HB GE115⟩
          ·rw [if_neg c17] at H; have HC17 := Aside0.mk (Bool.eq_false_iff.mpr c17); clear c17; have hst := plant_seen_step l0 x24_2 (of_decide_eq_true (by assumption)) (of_decide_eq_true (by assumption)) HL.out; have HST := Aside0.mk hst; clear hst; have hn := (show x24_2.toNat < maxLen by have h1 : x24_2 < (l0.length : Int) := of_decide_eq_true (by assumption); have := HL.out; simp only [maxLen]; omega); have HN := Aside0.mk hn; clear hn; have H' := Aside0.mk H; clear H; have p114 : 0 ≤ (x24_2 : Int) := of_decide_eq_true tW_; have q114 : x24_2 < (l0.length : Int) := of_decide_eq_true tW_; obtain ⟨ad114, A114_1, c114_1, A114_2, c114_2, e114, hx114_0, hx114_1, hx114_2, hl114_1, hi114_1, hl114_2, hi114_2⟩ := at_T39 HR0.out x24_2 p114 q114; cases e114; replace hx114_0 := bc_ HB hx114_0; replace hx114_1 := bc_ HB hx114_1; replace hx114_2 := bc_ HB hx114_2; have HR114_1 := Aside0.mk hi114_1; have HC114_1 := Aside0.mk hl114_1; clear hi114_1 hl114_1; have HR114_2 := Aside0.mk hi114_2; have HC114_2 := Aside0.mk hl114_2; clear hi114_2 hl114_2; replace p114 := eq_true p114; replace q114 := eq_true q114
           go_wp2_with (first | ((with_reducible refine gate_dst (N := 7) rfl ?_); refine bx_ (N := 7) (cs := #[.string (⟨#[]⟩ : ByteArray), .slice none 0 0, .slice none 0 0]) (t := 39) ?_; intro gb115 hg w20 hbox hb; have n0_ := Aside0.mk (below_step (dL_ HB) hb); have n1_ := Aside0.mk (hbox); have NM := Aside0.mk ((by rw [hg]; exact Nat.ne_of_lt (MapS.lt (by (with_reducible repeat (first | refine MapS.drewN ?_ _ | refine MapS.drew ?_ | refine MapS.alloc ?_ _)); exact HM.out)) : mb21 ≠ gb115)); have nM_ := Aside0.mk (MapS.below (by (with_reducible repeat (first | refine MapS.drewN ?_ _ | refine MapS.drew ?_ | refine MapS.alloc ?_ _)); exact HM.out) hb); clear HM; have HM := nM_; clear nM_; have n2_ := Aside0.mk ((dS_ hg (dL_ HB) : w.heap.size ≤ gb115)); have n3_ := Aside0.mk ((dS_ hg (dL_ HB) : w.heap.size ≤ gb115)); clear HB; have HB := n0_; have BK115 := n1_; have GW115 := n2_; have GE115 := n3_; clear n0_ n1_ n2_ n3_; clear hb hbox hg; obtain ⟨z21a, z21b, z21c, y21a, y21b, y21c⟩ := cs3_ BK115.out) | ((with_reducible refine gate_dst (N := 31) rfl ?_); refine look_event ?hg (N := 31) ?hd (m := .tmp 28) (x := .tmp 30) (t := 68) ?ho Try.underlying68 Try.underlying9 Try.underlying4 ?hz (b := mb21) (n := x24_2.toNat) (p := (fun s => (l0.take (x24_2).toNat).any (fun m => decide (s = m.f0)))) ?hm (by (with_reducible repeat (first | refine MapS.set ?_ NM.out _ | refine MapS.drewN ?_ _ | refine MapS.drew ?_ | refine MapS.alloc ?_ _)); exact HM.out) (s := (rd_T39 l0 x24_2).f0) ?hx HS.out (r := false) HC17.out ?_; (case hg => rfl); (case hd => rfl); (case ho => rfl); (case hz => intro w_; rfl); (case hm => rfl); (case hx => rfl)) | ((with_reducible refine gate_mapUpdate (t := 68) (m := .tmp 32) (x := .tmp 34) (v := .const (.bool true)) rfl ?_); refine put_event ?hg ?hd (m := .tmp 32) (x := .tmp 34) (v := .const (.bool true)) (t := 68) ?ho Try.underlying68 Try.underlying9 Try.underlying4 (b := mb21) (n := x24_2.toNat) (p := (fun s => (l0.take (x24_2).toNat).any (fun m => decide (s = m.f0)))) ?hm (by (with_reducible repeat (first | refine MapS.set ?_ NM.out _ | refine MapS.drewN ?_ _ | refine MapS.drew ?_ | refine MapS.alloc ?_ _)); exact HM.out) (s := (rd_T39 l0 x24_2).f0) ?hx HS.out ?hv HN.out ?_; (case hg => rfl); (case hd => rfl); (case ho => rfl); (case hm => rfl); (case hx => rfl); (case hv => rfl); intro w25 hM hgr; replace HB := Aside0.mk (below_grown (dL1_ HB GE115) GM.out hgr); clear HM; have HM := Aside0.mk hM; clear hM hgr))
           go_roundg k2
           case measure => have := HK1.out; have := HK2.out; omega
           case rel => exact ⟨(wrap64 (x24_2 + 1)), tS_, H', ⟨by have := HK1.out; have := HK2.out; omega⟩, ⟨by rw [HST.out.1]; refine MapS.ext ?_ HST.out.2; (with_reducible repeat (first | refine MapS.drewN ?_ _ | refine MapS.drew ?_ | refine MapS.alloc ?_ _)); exact HM.out⟩, ⟨dL1_ HB GE115⟩⟩
         ·rw [if_neg c16] at H; exact absurd H (by simp)
        ·rw [if_neg c15] at H; exact absurd H (by simp)
       ·rw [if_neg c14] at H; have c14b0 : decide (x24_2 < (l0.length : Int)) = false := decide_eq_false c14; clear c14; obtain rfl := Option.some.inj H; go_wp2
        go_ret
        exact ⟨tE_, dL_ HB⟩


end Go.Proofs.Ytnkgelnkoljgdaa.Q
namespace Go.Proofs.Ytnkgelnkoljgdaa.Q
open Go.RowKit Go.Proofs.YtnkgelnkoljgdaaPrs Go.Proofs.YtnkgelnkoljgdaaOwn Go.Proofs.YtnkgelnkoljgdaaW.PrintWords Go.Proofs.YtnkgelnkoljgdaaW.PrintLast Go.Proofs.YtnkgelnkoljgdaaW.PrintMore
attribute [local go_sem] max2_int min2_int max_two min_two max_three min_three max_four min_four   -- for this text's walks alone
set_option linter.unusedVariables false
set_option linter.unusedSimpArgs false

/-! ### plant_within: function 34 -/
mutual
def plant_within.l0 : Nat → Int → List Int → Int → Int → Option (Bool)
  | 0, _, _, _, _ => none
  | k + 1, x0, x7, x8, x9 => if x9 < x8 then (if 0 ≤ x9 then (if x9 < (x7.length : Int) then (if (rd x7 x9) < 0 then (plant_within.j1 k x0 x7 x8 x9 true) else (plant_within.j1 k x0 x7 x8 x9 (decide ((rd x7 x9) > x0)))) else (none)) else (none)) else (some true)
def plant_within.j1 : Nat → Int → List Int → Int → Int → Bool → Option (Bool)
  | 0, _, _, _, _, _ => none
  | k + 1, x0, x7, x8, x9, x19 => if x19 = true then (some false) else (plant_within.l0 k x0 x7 x8 (wrap64 (x9 + 1)))
end
def plant_within.f (k : Nat) (a0 : Int) (l1 : List Int) : Option (Bool) := plant_within.l0 k a0 l1 (l1.length : Int) 0
theorem plant_within.mono_l : ∀ k, (∀ y0 y1 y2 y3, LeO (plant_within.l0 k y0 y1 y2 y3) (plant_within.l0 (k + 1) y0 y1 y2 y3)) ∧ (∀ y0 y1 y2 y3 y4, LeO (plant_within.j1 k y0 y1 y2 y3 y4) (plant_within.j1 (k + 1) y0 y1 y2 y3 y4))
  | 0 => ⟨fun _ _ _ _ r h => by simp [plant_within.l0] at h, fun _ _ _ _ _ r h => by simp [plant_within.j1] at h⟩
  | k + 1 => by
    obtain ⟨ih0, ih1⟩ := plant_within.mono_l k; refine ⟨?_, ?_⟩
    · intro y0 y1 y2 y3
      unfold plant_within.l0
      repeat' first
      | (with_reducible first | apply ih0 | apply ih1 | exact LeO.refl _ | exact LeO.none _ | refine LeO.ite ?_ ?_ | refine LeO.bind ?_ (fun _ => ?_))
    · intro y0 y1 y2 y3 y4
      unfold plant_within.j1
      repeat' first
      | (with_reducible first | apply ih0 | apply ih1 | exact LeO.refl _ | exact LeO.none _ | refine LeO.ite ?_ ?_ | refine LeO.bind ?_ (fun _ => ?_))
theorem plant_within.mono : ∀ a0 a1 k, LeO (plant_within.f k a0 a1) (plant_within.f (k + 1) a0 a1) := by
  intro a0 a1 k; obtain ⟨ih0, ih1⟩ := plant_within.mono_l k
  unfold plant_within.f
  repeat' first
      | (with_reducible first | apply ih0 | apply ih1 | exact LeO.refl _ | exact LeO.none _ | refine LeO.ite ?_ ?_ | refine LeO.bind ?_ (fun _ => ?_))
set_option maxHeartbeats 8000000 in
set_option maxRecDepth 100000 in
theorem plant_within.calls (k : Nat) (a0 : Int) (A1 : Option Addr) (c1 : Nat) (l1 : List Int) (r : Bool) (w : World) (hr1 : Kd.C (Kd.int .i64) w A1 l1.length l1) (hc1 : l1.length ≤ c1) (h : plant_within.f k a0 l1 = some r) :
    Calls Try.prog 34 #[.int .i64 a0, .slice A1 l1.length c1] w fun e w' => e = .returned (.bool r) ∧ Drawn0 w w' := by
 have HR1 := Aside0.mk hr1; have HC1 := Aside0.mk hc1; clear hr1 hc1; have H : (plant_within.l0 k a0 l1 (l1.length : Int) 0) = some r := h; clear h; have H' := Aside0.mk H; clear H
 go_enter Try.func34, Try.ntmps34
 go_wp2
 go_loopg [9] k (fun kq v9 w' => ∃ (x9_1 : Int), v9 = .int .i64 x9_1 ∧ Aside0 (plant_within.l0 kq a0 l1 (l1.length : Int) x9_1 = some r) ∧ Aside0 (kq ≤ k) ∧ Drawn0 w w')
 case atStart => exact ⟨(0), tS_, H', ⟨Nat.le_refl _⟩, by repeat (first | exact Drawn0.refl _ | apply Drawn0.step)⟩
 case round =>
  clear H'; (try clear c1); obtain ⟨x9_1, rfl, HA, HK1, ⟨m1, rfl⟩⟩ := hrel
  cases gk with
  | zero => exact absurd HA.out (by simp [plant_within.l0])
  | succ k1 =>
   have H := HA.out; clear HA; simp only [plant_within.l0] at H
   by_cases c3 : x9_1 < (l1.length : Int)
   ·rw [if_pos c3] at H; have c3b0 : decide (x9_1 < (l1.length : Int)) = true := decide_eq_true c3; clear c3
    by_cases c4 : 0 ≤ x9_1
    ·rw [if_pos c4] at H; have c4b0 : decide (0 ≤ x9_1) = true := decide_eq_true c4; clear c4
     by_cases c5 : x9_1 < (l1.length : Int)
     ·rw [if_pos c5] at H; have c5b0 : decide (x9_1 < (l1.length : Int)) = true := decide_eq_true c5; clear c5; have HC6 := Aside0.mk H; clear H; have p126 : 0 ≤ (x9_1 : Int) := of_decide_eq_true tW_; have q126 : x9_1 < (l1.length : Int) := of_decide_eq_true tW_; obtain ⟨ad126, e126, hx126_0⟩ := Kd.at_int HR1.out x9_1 p126 q126; cases e126; replace p126 := eq_true p126; replace q126 := eq_true q126
      go_upto_region 4 with (fail)
      go_cut [19] (fun v19 wc => ∃ (kq : Nat) (x19_5 : Bool), v19 = .bool x19_5 ∧ Aside0 (plant_within.j1 kq a0 l1 (l1.length : Int) x9_1 x19_5 = some r) ∧ Aside0 (kq ≤ k1) ∧ Drawn0 w wc)
      case first =>
       have H := HC6.out; clear HC6
       by_cases c7 : (rd l1 x9_1) < 0
       ·rw [if_pos c7] at H; have c7b0 : decide ((rd l1 x9_1) < 0) = true := decide_eq_true c7; clear c7
        (first | rw [c7b0] | (simp only [i64_w, i32_w]; rw [c7b0]) | skip)
        have H' := Aside0.mk H; clear H; go_wp2
        go_meet
        case rel => exact ⟨_, (true), tS_, H', ⟨by have := HK1.out; first | omega | exact Nat.le_refl _⟩, by repeat (first | exact Drawn0.refl _ | apply Drawn0.step)⟩
       ·rw [if_neg c7] at H; have c7b0 : decide ((rd l1 x9_1) < 0) = false := decide_eq_false c7; clear c7
        (first | rw [c7b0] | (simp only [i64_w, i32_w]; rw [c7b0]) | skip)
        have H' := Aside0.mk H; clear H; go_wp2
        go_meet
        case rel => exact ⟨_, (decide ((rd l1 x9_1) > a0)), tS_, H', ⟨by have := HK1.out; first | omega | exact Nat.le_refl _⟩, by repeat (first | exact Drawn0.refl _ | apply Drawn0.step)⟩
      case rest =>
       clear HC6; (try clear c1); (try clear c3); (try clear c3b0); (try clear c4); (try clear c4b0); (try clear c5); (try clear c5b0); (try clear c7); (try clear hx126_0); (try clear p126); (try clear q126); obtain ⟨kq, x19_5, rfl, HA, HJ5, ⟨mc5, rfl⟩⟩ := hcut
       cases kq with
       | zero => exact absurd HA.out (by simp [plant_within.j1])
       | succ kj5 =>
        have H := HA.out; clear HA; simp only [plant_within.j1] at H
        by_cases c8 : x19_5 = true
        ·subst c8; rw [if_pos rfl] at H; obtain rfl := Option.some.inj H; go_wp2
         go_ret
         exact ⟨tS_, by repeat (first | exact Drawn0.refl _ | apply Drawn0.step)⟩
        ·replace c8 := Bool.eq_false_iff.mpr c8; subst c8; rw [if_neg (show ¬ (false = true) by decide)] at H; have H' := Aside0.mk H; clear H; go_wp2
         go_roundg kj5
         case measure => have := HK1.out; have := HJ5.out; omega
         case rel => exact ⟨(wrap64 (x9_1 + 1)), tS_, H', ⟨by have := HK1.out; have := HJ5.out; omega⟩, by repeat (first | exact Drawn0.refl _ | apply Drawn0.step)⟩
     ·rw [if_neg c5] at H; exact absurd H (by simp)
    ·rw [if_neg c4] at H; exact absurd H (by simp)
   ·rw [if_neg c3] at H; have c3b0 : decide (x9_1 < (l1.length : Int)) = false := decide_eq_false c3; clear c3; obtain rfl := Option.some.inj H; go_wp2
    go_ret
    exact ⟨tS_, by repeat (first | exact Drawn0.refl _ | apply Drawn0.step)⟩

end Go.Proofs.Ytnkgelnkoljgdaa.Q

-- PRINTED by print.py (a twelfth state) out of the translation. Not trusted: Lean checks it.
import Derived.Test.YtnkgelnkoljgdaaPrs
import Derived.Test.YtnkgelnkoljgdaaQ0
import Derived.Test.YtnkgelnkoljgdaaQ4
import Derived.Carry
import Derived.Maps.Keyed
import Derived.Maps.Own
import Derived.Maps.OwnSet
import Derived.Maps.Views
namespace Go.Proofs.Ytnkgelnkoljgdaa.Q
open Go.RowKit Go.Proofs.YtnkgelnkoljgdaaPrs Go.Proofs.YtnkgelnkoljgdaaOwn Go.Proofs.YtnkgelnkoljgdaaW.PrintWords Go.Proofs.YtnkgelnkoljgdaaW.PrintLast Go.Proofs.YtnkgelnkoljgdaaW.PrintMore
attribute [local go_sem] max2_int min2_int max_two min_two max_three min_three max_four min_four   -- for this text's walks alone
set_option linter.unusedVariables false
set_option linter.unusedSimpArgs false

/-! ### plant_Chains: function 28 -/
-- IMPORT Derived.Maps.Own
-- IMPORT Derived.Maps.OwnSet
-- IMPORT Derived.Maps.Views
-- IMPORT Derived.Maps.Keyed
-- IMPORT Derived.Carry
mutual
def plant_Chains.j0 : Nat → List (S39) → Int → Bool → Option (List Int × List Int × Int)
  | 0, _, _, _ => none
  | k + 1, x0, x1, x25 => if x25 = true then (some (([] : List Int), ([] : List Int), 1)) else (plant_Chains.l0 k x1 x0 (x0.length : Int) 0 ([] : List Int) ([] : List Int))
def plant_Chains.l0 : Nat → Int → List (S39) → Int → Int → List Int → List Int → Option (List Int × List Int × Int)
  | 0, _, _, _, _, _, _ => none
  | k + 1, x1, x27, x28, x29, x900, x901 => if x29 < x28 then (if 0 ≤ x29 then (if x29 < (x27.length : Int) then (plant_Chains.l1 k x1 x29 x27 x28 x29 ((rd_T39 x27 x29).f1) (((rd_T39 x27 x29).f1).length : Int) 0 x900 x901 ((rd_T39 x27 x29).f0) ((rd_T39 x27 x29).f1) ((rd_T39 x27 x29).f2)) else (none)) else (none)) else (some (x900, x901, 0))
def plant_Chains.l1 : Nat → Int → Int → List (S39) → Int → Int → List Int → Int → Int → List Int → List Int → ByteArray → List Int → List (S41) → Option (List Int × List Int × Int)
  | 0, _, _, _, _, _, _, _, _, _, _, _, _, _ => none
  | k + 1, x1, x9, x27, x28, x29, x35, x36, x37, x900, x901, x250000, x250001, x250002 => if x37 < x36 then (if 0 ≤ x37 then (if x37 < (x35.length : Int) then (if (rd x35 x37) = x1 then (if x900.length < 17592186044416 then (plant_Chains.l1 k x1 x9 x27 x28 x29 x35 x36 (wrap64 (x37 + 1)) (x900 ++ [x9]) x901 x250000 x250001 x250002) else (none)) else (plant_Chains.l1 k x1 x9 x27 x28 x29 x35 x36 (wrap64 (x37 + 1)) x900 x901 x250000 x250001 x250002)) else (none)) else (none)) else (plant_Chains.l2 k x1 x9 x27 x28 x29 x250002 (x250002.length : Int) 0 x900 x901)
def plant_Chains.l2 : Nat → Int → Int → List (S39) → Int → Int → List (S41) → Int → Int → List Int → List Int → Option (List Int × List Int × Int)
  | 0, _, _, _, _, _, _, _, _, _, _ => none
  | k + 1, x1, x9, x27, x28, x29, x52, x53, x54, x900, x901 => if x54 < x53 then (if 0 ≤ x54 then (if x54 < (x52.length : Int) then (if ((rd_T41 x52 x54).f0) = x1 then (if x901.length < 17592186044416 then (plant_Chains.l2 k x1 x9 x27 x28 x29 x52 x53 (wrap64 (x54 + 1)) x900 (x901 ++ [x9])) else (none)) else (plant_Chains.l2 k x1 x9 x27 x28 x29 x52 x53 (wrap64 (x54 + 1)) x900 x901)) else (none)) else (none)) else (plant_Chains.l0 k x1 x27 x28 (wrap64 (x29 + 1)) x900 x901)
end
def plant_Chains.f (k : Nat) (l0 : List (S39)) (a1 : Int) : Option (List Int × List Int × Int) := (plant_ValidateKinds.f k l0).bind fun t247 => (if t247 = 0 then (if a1 < 0 then (plant_Chains.j0 k l0 a1 true) else (plant_Chains.j0 k l0 a1 (decide (a1 ≥ 16)))) else (some (([] : List Int), ([] : List Int), t247)))
theorem plant_Chains.mono_l : ∀ k, (∀ y0 y1 y2, LeO (plant_Chains.j0 k y0 y1 y2) (plant_Chains.j0 (k + 1) y0 y1 y2)) ∧ (∀ y0 y1 y2 y3 y4 y5, LeO (plant_Chains.l0 k y0 y1 y2 y3 y4 y5) (plant_Chains.l0 (k + 1) y0 y1 y2 y3 y4 y5)) ∧ (∀ y0 y1 y2 y3 y4 y5 y6 y7 y8 y9 y10 y11 y12, LeO (plant_Chains.l1 k y0 y1 y2 y3 y4 y5 y6 y7 y8 y9 y10 y11 y12) (plant_Chains.l1 (k + 1) y0 y1 y2 y3 y4 y5 y6 y7 y8 y9 y10 y11 y12)) ∧ (∀ y0 y1 y2 y3 y4 y5 y6 y7 y8 y9, LeO (plant_Chains.l2 k y0 y1 y2 y3 y4 y5 y6 y7 y8 y9) (plant_Chains.l2 (k + 1) y0 y1 y2 y3 y4 y5 y6 y7 y8 y9))
  | 0 => ⟨fun _ _ _ r h => by simp [plant_Chains.j0] at h, fun _ _ _ _ _ _ r h => by simp [plant_Chains.l0] at h, fun _ _ _ _ _ _ _ _ _ _ _ _ _ r h => by simp [plant_Chains.l1] at h, fun _ _ _ _ _ _ _ _ _ _ r h => by simp [plant_Chains.l2] at h⟩
  | k + 1 => by
    obtain ⟨ih0, ih1, ih2, ih3⟩ := plant_Chains.mono_l k
    refine ⟨?_, ?_, ?_, ?_⟩
    · intro y0 y1 y2
      unfold plant_Chains.j0
      repeat' first
      | (with_reducible first | exact ih0 _ _ _ | exact ih1 _ _ _ _ _ _ | exact ih2 _ _ _ _ _ _ _ _ _ _ _ _ _ | exact ih3 _ _ _ _ _ _ _ _ _ _ | exact plant_ValidateKinds.mono _ _ | exact LeO.refl _ | exact LeO.none _ | refine LeO.ite ?_ ?_ | refine LeO.bind ?_ (fun _ => ?_))
      | exact ih0 _ _ _
      | exact ih1 _ _ _ _ _ _
      | exact ih2 _ _ _ _ _ _ _ _ _ _ _ _ _
      | exact ih3 _ _ _ _ _ _ _ _ _ _
      | exact plant_ValidateKinds.mono _ _
      | exact LeO.none _
      | refine LeO.ite ?_ ?_
      | refine LeO.bind ?_ (fun _ => ?_)
    · intro y0 y1 y2 y3 y4 y5
      unfold plant_Chains.l0
      repeat' first
      | (with_reducible first | exact ih0 _ _ _ | exact ih1 _ _ _ _ _ _ | exact ih2 _ _ _ _ _ _ _ _ _ _ _ _ _ | exact ih3 _ _ _ _ _ _ _ _ _ _ | exact plant_ValidateKinds.mono _ _ | exact LeO.refl _ | exact LeO.none _ | refine LeO.ite ?_ ?_ | refine LeO.bind ?_ (fun _ => ?_))
      | exact ih0 _ _ _
      | exact ih1 _ _ _ _ _ _
      | exact ih2 _ _ _ _ _ _ _ _ _ _ _ _ _
      | exact ih3 _ _ _ _ _ _ _ _ _ _
      | exact plant_ValidateKinds.mono _ _
      | exact LeO.none _
      | refine LeO.ite ?_ ?_
      | refine LeO.bind ?_ (fun _ => ?_)
    · intro y0 y1 y2 y3 y4 y5 y6 y7 y8 y9 y10 y11 y12
      unfold plant_Chains.l1
      repeat' first
      | (with_reducible first | exact ih0 _ _ _ | exact ih1 _ _ _ _ _ _ | exact ih2 _ _ _ _ _ _ _ _ _ _ _ _ _ | exact ih3 _ _ _ _ _ _ _ _ _ _ | exact plant_ValidateKinds.mono _ _ | exact LeO.refl _ | exact LeO.none _ | refine LeO.ite ?_ ?_ | refine LeO.bind ?_ (fun _ => ?_))
      | exact ih0 _ _ _
      | exact ih1 _ _ _ _ _ _
      | exact ih2 _ _ _ _ _ _ _ _ _ _ _ _ _
      | exact ih3 _ _ _ _ _ _ _ _ _ _
      | exact plant_ValidateKinds.mono _ _
      | exact LeO.none _
      | refine LeO.ite ?_ ?_
      | refine LeO.bind ?_ (fun _ => ?_)
    · intro y0 y1 y2 y3 y4 y5 y6 y7 y8 y9
      unfold plant_Chains.l2
      repeat' first
      | (with_reducible first | exact ih0 _ _ _ | exact ih1 _ _ _ _ _ _ | exact ih2 _ _ _ _ _ _ _ _ _ _ _ _ _ | exact ih3 _ _ _ _ _ _ _ _ _ _ | exact plant_ValidateKinds.mono _ _ | exact LeO.refl _ | exact LeO.none _ | refine LeO.ite ?_ ?_ | refine LeO.bind ?_ (fun _ => ?_))
      | exact ih0 _ _ _
      | exact ih1 _ _ _ _ _ _
      | exact ih2 _ _ _ _ _ _ _ _ _ _ _ _ _
      | exact ih3 _ _ _ _ _ _ _ _ _ _
      | exact plant_ValidateKinds.mono _ _
      | exact LeO.none _
      | refine LeO.ite ?_ ?_
      | refine LeO.bind ?_ (fun _ => ?_)
theorem plant_Chains.mono : ∀ a0 a1 k, LeO (plant_Chains.f k a0 a1) (plant_Chains.f (k + 1) a0 a1) := by
  intro a0 a1 k
  obtain ⟨ih0, ih1, ih2, ih3⟩ := plant_Chains.mono_l k
  unfold plant_Chains.f
  repeat' first
      | (with_reducible first | exact ih0 _ _ _ | exact ih1 _ _ _ _ _ _ | exact ih2 _ _ _ _ _ _ _ _ _ _ _ _ _ | exact ih3 _ _ _ _ _ _ _ _ _ _ | exact plant_ValidateKinds.mono _ _ | exact LeO.refl _ | exact LeO.none _ | refine LeO.ite ?_ ?_ | refine LeO.bind ?_ (fun _ => ?_))
      | exact ih0 _ _ _
      | exact ih1 _ _ _ _ _ _
      | exact ih2 _ _ _ _ _ _ _ _ _ _ _ _ _
      | exact ih3 _ _ _ _ _ _ _ _ _ _
      | exact plant_ValidateKinds.mono _ _
      | exact LeO.none _
      | refine LeO.ite ?_ ?_
      | refine LeO.bind ?_ (fun _ => ?_)
/-- A map from truths to slices, by its two values. -/
def mR (v : Value) : Option (DataW Value × List MemPlace) := some (.held v, [])
def mFrm (ou ov : Option Value) : List (Lit × DataW Value) := (match ov with | none => [] | some v => [(Lit.bool false, DataW.held v)]) ++ (match ou with | none => [] | some u => [(Lit.bool true, DataW.held u)])
def mV (o : Option Value) : Value := match o with | none => .slice none 0 0 | some v => v
/-- Block b holds a map whose value at true is u, at false v. -/
def MapV (P : Program) (w : World) (b : Nat) (u v : Value) : Prop := ∃ ou ov : Option Value, w.ownsMap P 4 mR b 2 (.map (mFrm ou ov)) ∧ u = mV ou ∧ v = mV ov
theorem MapV.lt {P : Program} {w : World} {b : Nat} {u v : Value} (h : MapV P w b u v) : b < w.heap.size := by
  obtain ⟨_, _, hD, _⟩ := h; exact hD.lt
theorem MapV.obj {P : Program} {w : World} {b : Nat} {u v : Value} (h : MapV P w b u v) : ∃ es c, w.heap[b]? = some (.map es c) := by
  obtain ⟨_, _, ⟨es, c, hb, _⟩, _⟩ := h; exact ⟨es, c, hb⟩
theorem MapV.kept {P : Program} {w w1 : World} {b : Nat} {u v : Value} (h : MapV P w b u v) {row : Option Nat} (hg : w.grownBy w1 row) (hne : some b ≠ row) : MapV P w1 b u v := by
  obtain ⟨ou, ov, hD, h1, h2⟩ := h
  exact ⟨ou, ov, hD.kept hg hne, h1, h2⟩
theorem MapV.below {P : Program} {w w1 : World} {b : Nat} {u v : Value} (h : MapV P w b u v) (hb : Below w.heap.size w w1) : MapV P w1 b u v := h.kept (grown_of_below hb none) (by simp)
theorem MapV.drew {P : Program} {w : World} {b : Nat} {u v : Value} (h : MapV P w b u v) : MapV P w.drew b u v := h
theorem MapV.drewN {P : Program} {w : World} {b : Nat} {u v : Value} (h : MapV P w b u v) (m : Nat) : MapV P (w.drewN m) b u v := h
theorem MapV.alloc {P : Program} {w : World} {b : Nat} {u v : Value} (h : MapV P w b u v) (o : Obj) : MapV P (w.alloc o) b u v := h.below (below_alloc (Below.refl _ _) o)
theorem MapV.set {P : Program} {w : World} {b : Nat} {u v : Value} (h : MapV P w b u v) {g T : Nat} {cs : Array Value} {fr : Nat × Nat} (hg : w.heap[g]? = some (.cells cs T fr)) (j : Nat) (x : Value) : MapV P (w.setCell ⟨g, j, none⟩ x) b u v := by
  obtain ⟨es, c, hb⟩ := h.obj
  obtain ⟨ou, ov, hD, h1, h2⟩ := h
  refine ⟨ou, ov, hD.setCell (a := ⟨g, j, none⟩) ?_ x, h1, h2⟩
  rintro rfl
  rw [hb] at hg; cases hg
theorem MapV.grown {P : Program} {w w1 : World} {b : Nat} {u v x : Value} {e : Nat} (h : MapV P w b u v) (hg : w.grownBy w1 x.ownBlock) (ht : ∀ k, x.ownBlock = some k → ∃ cells, w.heap[k]? = some (.cells cells e (0, 0))) : MapV P w1 b u v := by
  refine h.kept hg fun he => ?_
  obtain ⟨es, c, hb⟩ := h.obj
  obtain ⟨cells, hc⟩ := ht b he.symm
  rw [hb] at hc; cases hc
theorem MapV.made (P : Program) (w : World) : MapV P (w.alloc (.map #[] 0)) w.heap.size (.slice none 0 0) (.slice none 0 0) :=
  ⟨none, none, (World.ownsMap_made w P 4 mR).mono (by omega), rfl, rfl⟩
theorem ownsMap_tight {P : Program} {k : TypeId} {R : Value → Option (DataW Value × List MemPlace)} {w : World} {b n m : Nat} {L : List (Lit × DataW Value)} (h : w.ownsMap P k R b n (.map L)) (hm : L.length ≤ m) : w.ownsMap P k R b m (.map L) := by
  obtain ⟨es, clock, hb, F, hs, hD⟩ := h
  refine ⟨es, clock, hb, F, ?_, hD⟩
  have hL := DataW.map.inj hD
  have e1 : es.size = ((es.toList.map (Go.WideElems.rg P k R)).foldr DataW.insert []).length := by rw [length_sorted]; simp
  rw [e1, ← hL]; exact hm
theorem mFrm_len (ou ov : Option Value) : (mFrm ou ov).length ≤ 2 := by cases ou <;> cases ov <;> simp [mFrm]
theorem mAt_true (ou ov : Option Value) : (DataW.map (mFrm ou ov)).atKey (.bool true) (.held (.slice none 0 0)) = .held (mV ou) := by cases ou <;> cases ov <;> rfl
theorem mAt_false (ou ov : Option Value) : (DataW.map (mFrm ou ov)).atKey (.bool false) (.held (.slice none 0 0)) = .held (mV ov) := by cases ou <;> cases ov <;> rfl
theorem mPut_true (ou ov : Option Value) (x : Value) : (DataW.map (mFrm ou ov)).put (.bool true) (.held x) = .map (mFrm (some x) ov) := by cases ou <;> cases ov <;> rfl
theorem mPut_false (ou ov : Option Value) (x : Value) : (DataW.map (mFrm ou ov)).put (.bool false) (.held x) = .map (mFrm ou (some x)) := by cases ou <;> cases ov <;> rfl
/-- The call's row lies apart from the map's block. -/
theorem Kd.R_map {α : Type} {d : Kd α} {e base : Nat} {ok : Nat → Prop} {P : Program} {w w1 : World} {b : Nat} {u v x : Value} {xs : List α} (h : d.R e w base ok x xs) (hM : MapV P w b u v) (hg : w.grownBy w1 (some b)) : d.R e w1 base ok x xs := by
  obtain ⟨es, c, hb⟩ := hM.obj
  refine Kd.R_mono (Kd.R_grown (Kd.R_bound h) hg fun k hk he => ?_) (fun _ hk => hk.1)
  obtain ⟨_, _, _, q, _, cells, hc⟩ := hk
  cases he
  rw [hb] at hc; cases hc
theorem blk_map {P : Program} {w w1 : World} {b g T : Nat} {cs : Array Value} {fr : Nat × Nat} {u v : Value} (h : w.heap[g]? = some (.cells cs T fr)) (hM : MapV P w b u v) (hg : w.grownBy w1 (some b)) : w1.heap[g]? = some (.cells cs T fr) := by
  obtain ⟨es, c, hb⟩ := hM.obj
  refine (hg.block g (blk_lt h) fun he => ?_).trans h
  cases he
  rw [hb] at h; cases h
theorem below_map {w W w1 : World} {b : Nat} (h : Below w.heap.size w W) (hb : w.heap.size ≤ b) (hg : W.grownBy w1 (some b)) : Below w.heap.size w w1 :=
  ⟨hg.os.trans h.os, hg.tape.trans h.tape, hg.output.trans h.output, Nat.le_trans h.size hg.size, fun k hk => (hg.block k (Nat.lt_of_lt_of_le hk h.size) (by simp; omega)).trans (h.block k hk)⟩
section
variable {P : Program} {ops : Array Oper} {rest : List Oper} {o : Oper} {a : Act} {Q : Exit → Act → World → Prop}
theorem gate_mapV {W : World} {t : TypeId} {m x v : Operand} (_ho : o.op = .mapUpdate t m x v) (h : wpList P ops Q (o :: rest) a W) : wpList P ops Q (o :: rest) a W := h
theorem mapV_event {W : World} (hgd : o.guard = none) {N : Tmp} (_hd : o.dst = some N)
    (hrun : (execOp a.eval o).run P W = .ok (.value (.map (some W.heap.size))) (W.alloc (.map #[] 0)))
    (h : ∀ b, b = W.heap.size → ∀ w1, MapV P w1 b (.slice none 0 0) (.slice none 0 0) → Below W.heap.size W w1 → wpList P ops Q rest (a.put o.dst (.map (some b))) w1) : wpList P ops Q (o :: rest) a W :=
  Kd.event_run hgd hrun (h _ rfl _ (MapV.made P W) (below_alloc (Below.refl _ _) _))
theorem lookT_event {W : World} (hgd : o.guard = none) {N : Tmp} (_hd : o.dst = some N) {m x : Operand} {t : TypeId} (hop : o.op = .lookup t m x false)
    (ht : P.underlying t = some (.map 4 23)) (h4 : P.underlying 4 = some .bool) (hz : ∀ w, (zeroValue 23).run P w = .ok (.slice none 0 0) w)
    {b : Nat} {u v : Value} (hm : a.eval m = .map (some b)) (hM : MapV P W b u v) (hx : a.eval x = .bool true)
    (h : wpList P ops Q rest (a.put o.dst u) W) : wpList P ops Q (o :: rest) a W := by
  obtain ⟨ou, ov, hD, rfl, rfl⟩ := hM
  have hkey : keyOf P 4 (.bool true) = some (.bool true) := by simp [keyOf, mapKey, h4]
  obtain ⟨r, ps, hrun, hv⟩ := hD.lookup (Maps.bool_keyed h4) ht (hz W) (zd := .held (.slice none 0 0)) (zp := []) rfl hkey
  rw [mAt_true] at hv
  have hr : r = mV ou := DataW.held.inj (Prod.mk.inj (Option.some.inj hv)).1
  subst hr
  refine wpList_plain hgd fun K hK => ?_
  unfold Oper.wp
  simp [execOp, hop, hm, hx, hrun, Result.andThen]
  exact hK _ _ h
theorem lookF_event {W : World} (hgd : o.guard = none) {N : Tmp} (_hd : o.dst = some N) {m x : Operand} {t : TypeId} (hop : o.op = .lookup t m x false)
    (ht : P.underlying t = some (.map 4 23)) (h4 : P.underlying 4 = some .bool) (hz : ∀ w, (zeroValue 23).run P w = .ok (.slice none 0 0) w)
    {b : Nat} {u v : Value} (hm : a.eval m = .map (some b)) (hM : MapV P W b u v) (hx : a.eval x = .bool false)
    (h : wpList P ops Q rest (a.put o.dst v) W) : wpList P ops Q (o :: rest) a W := by
  obtain ⟨ou, ov, hD, rfl, rfl⟩ := hM
  have hkey : keyOf P 4 (.bool false) = some (.bool false) := by simp [keyOf, mapKey, h4]
  obtain ⟨r, ps, hrun, hv⟩ := hD.lookup (Maps.bool_keyed h4) ht (hz W) (zd := .held (.slice none 0 0)) (zp := []) rfl hkey
  rw [mAt_false] at hv
  have hr : r = mV ov := DataW.held.inj (Prod.mk.inj (Option.some.inj hv)).1
  subst hr
  refine wpList_plain hgd fun K hK => ?_
  unfold Oper.wp
  simp [execOp, hop, hm, hx, hrun, Result.andThen]
  exact hK _ _ h
theorem putT_event {W : World} (hgd : o.guard = none) (hd : o.dst = none) {m x v : Operand} {t : TypeId} (hop : o.op = .mapUpdate t m x v)
    (ht : P.underlying t = some (.map 4 23)) (h4 : P.underlying 4 = some .bool)
    {b : Nat} {p q r : Value} (hm : a.eval m = .map (some b)) (hM : MapV P W b p q) (hx : a.eval x = .bool true) (hv : a.eval v = r)
    (h : ∀ w', MapV P w' b r q → W.grownBy w' (some b) → wpList P ops Q rest a w') : wpList P ops Q (o :: rest) a W := by
  obtain ⟨ou, ov, hD, rfl, rfl⟩ := hM
  have hkey : keyOf P 4 (.bool true) = some (.bool true) := by simp [keyOf, mapKey, h4]
  obtain ⟨w', hrun, r1, r2⟩ := hD.update (Maps.bool_keyed h4) ht (by unfold maxLen; omega) hkey (val := r) (d := .held r) (ps := []) rfl
  rw [mPut_true] at r1
  refine wpList_plain hgd fun K hK => ?_
  unfold Oper.wp
  simp [execOp, hop, hm, hx, hv, hrun, Result.andThen]
  show K (a.put o.dst undef) w'
  rw [hd]
  exact hK _ _ (h w' ⟨some r, ov, ownsMap_tight r1 (mFrm_len _ _), rfl, rfl⟩ r2)
theorem putF_event {W : World} (hgd : o.guard = none) (hd : o.dst = none) {m x v : Operand} {t : TypeId} (hop : o.op = .mapUpdate t m x v)
    (ht : P.underlying t = some (.map 4 23)) (h4 : P.underlying 4 = some .bool)
    {b : Nat} {p q r : Value} (hm : a.eval m = .map (some b)) (hM : MapV P W b p q) (hx : a.eval x = .bool false) (hv : a.eval v = r)
    (h : ∀ w', MapV P w' b p r → W.grownBy w' (some b) → wpList P ops Q rest a w') : wpList P ops Q (o :: rest) a W := by
  obtain ⟨ou, ov, hD, rfl, rfl⟩ := hM
  have hkey : keyOf P 4 (.bool false) = some (.bool false) := by simp [keyOf, mapKey, h4]
  obtain ⟨w', hrun, r1, r2⟩ := hD.update (Maps.bool_keyed h4) ht (by unfold maxLen; omega) hkey (val := r) (d := .held r) (ps := []) rfl
  rw [mPut_false] at r1
  refine wpList_plain hgd fun K hK => ?_
  unfold Oper.wp
  simp [execOp, hop, hm, hx, hv, hrun, Result.andThen]
  show K (a.put o.dst undef) w'
  rw [hd]
  exact hK _ _ (h w' ⟨ou, some r, ownsMap_tight r1 (mFrm_len _ _), rfl, rfl⟩ r2)
end
theorem MapV.far {P : Program} {w : World} {b : Nat} {u v : Value} {g : Nat} (h : MapV P w b u v) (hne : b ≠ g) (j : Nat) (x : Value) : MapV P (w.setCell ⟨g, j, none⟩ x) b u v := by
  obtain ⟨ou, ov, hD, h1, h2⟩ := h
  exact ⟨ou, ov, hD.setCell (a := ⟨g, j, none⟩) hne x, h1, h2⟩
theorem MapV.runs {P : Program} {w : World} {b : Nat} {u v : Value} {t : TypeId} (h : MapV P w b u v) (ht : P.underlying t = some (.map 4 23)) (h4 : P.underlying 4 = some .bool) (hz : ∀ w, (zeroValue 23).run P w = .ok (.slice none 0 0) w) :
    (∀ n, (Instr.lookup t (.map (some b)) (.bool true) false).run P (w.drewN n) = .ok u (w.drewN n)) ∧ (∀ n, (Instr.lookup t (.map (some b)) (.bool false) false).run P (w.drewN n) = .ok v (w.drewN n)) := by
  refine ⟨fun n => ?_, fun n => ?_⟩
  · obtain ⟨ou, ov, hD, rfl, rfl⟩ := h.drewN n
    have hkey : keyOf P 4 (.bool true) = some (.bool true) := by simp [keyOf, mapKey, h4]
    obtain ⟨r, ps, hrun, hv⟩ := hD.lookup (Maps.bool_keyed h4) ht (hz _) (zd := .held (.slice none 0 0)) (zp := []) rfl hkey
    rw [mAt_true] at hv
    have hr : r = mV ou := DataW.held.inj (Prod.mk.inj (Option.some.inj hv)).1
    subst hr; exact hrun
  · obtain ⟨ou, ov, hD, rfl, rfl⟩ := h.drewN n
    have hkey : keyOf P 4 (.bool false) = some (.bool false) := by simp [keyOf, mapKey, h4]
    obtain ⟨r, ps, hrun, hv⟩ := hD.lookup (Maps.bool_keyed h4) ht (hz _) (zd := .held (.slice none 0 0)) (zp := []) rfl hkey
    rw [mAt_false] at hv
    have hr : r = mV ov := DataW.held.inj (Prod.mk.inj (Option.some.inj hv)).1
    subst hr; exact hrun
set_option maxHeartbeats 8000000 in
set_option maxRecDepth 100000 in
theorem plant_Chains.calls (k : Nat) (A0 : Option Addr) (c0 : Nat) (l0 : List (S39)) (a1 : Int) (r1 : List Int) (r2 : List Int) (r3 : Int) (w : World) (hr0 : Kd.C k39 w A0 l0.length l0) (hc0 : l0.length ≤ c0) (h : plant_Chains.f k l0 a1 = some (r1, r2, r3)) :
    Calls Try.prog 28 #[.slice A0 l0.length c0, .int .i64 a1] w fun e w' => ∃ v0_ v1_ : Value, e = .returned (.tuple #[v0_, v1_, .int .i64 r3]) ∧ Kd.R (Kd.int .i64) 3 w' w.heap.size (fun k_ => some k_ ≠ (v1_ : Value).ownBlock) v0_ r1 ∧ Kd.R (Kd.int .i64) 3 w' w.heap.size (fun k_ => some k_ ≠ (v0_ : Value).ownBlock) v1_ r2 ∧ Below w.heap.size w w' := by
 have hu39 := Try.underlying39
 have hu41 := Try.underlying41
 have HR0 := Aside0.mk hr0
 have HC0 := Aside0.mk hc0
 clear hr0 hc0
 have HB := Aside0.mk (Below.refl w.heap.size w)
 have H : ((plant_ValidateKinds.f k l0).bind fun t247 => (if t247 = 0 then (if a1 < 0 then (plant_Chains.j0 k l0 a1 true) else (plant_Chains.j0 k l0 a1 (decide (a1 ≥ 16)))) else (some (([] : List Int), ([] : List Int), t247)))) = some (r1, r2, r3) := h
 clear h
 replace H := Option.bind_eq_some_iff.mp H
 obtain ⟨t247, A30, H⟩ := H
 replace H : (if t247 = 0 then (if a1 < 0 then (plant_Chains.j0 k l0 a1 true) else (plant_Chains.j0 k l0 a1 (decide (a1 ≥ 16)))) else (some (([] : List Int), ([] : List Int), t247))) = some (r1, r2, r3) := H
 have A3 := Aside0.mk A30
 clear A30
 by_cases c4 : t247 = 0
 ·rw [if_pos c4] at H
  have c4b0 : (t247 == 0) = true := beq_iff_eq.mpr c4
  have c4b1 : (t247 != 0) = false := bne_eq_false_iff_eq.mpr c4
  clear c4
  have HC5 := Aside0.mk H
  clear H
  go_enter Try.func28, Try.ntmps28
  go_upto_region 4 with (first | (go_at_call 33; (with_reducible refine (plant_ValidateKinds.calls k _ _ l0 t247 _ ?side1 ?side2 A3.out).mono ?_); (case side1 => repeat (first | exact HR0.out | (with_reducible refine Kd.C_alloc ?_ _) | (with_reducible refine Kd.C_drewN ?_ _) | (with_reducible refine Kd.C_drew ?_))); (case side2 => exact HC0.out); rintro e w6 ⟨rfl, hb⟩; replace HB := Aside0.mk (below_step (dL_ HB) hb)))
  (try simp only [Act.put, List.setIfInBounds_toArray, List.set_cons_zero, List.set_cons_succ])
  go_cut [25] (fun v25 wc => ∃ (kq : Nat) (x25_4 : Bool), v25 = .bool x25_4 ∧ Aside0 (plant_Chains.j0 kq l0 a1 x25_4 = some (r1, r2, r3)) ∧ Aside0 (kq ≤ k) ∧ Aside0 (Below w.heap.size w wc))
  case first =>
   have H := HC5.out
   clear HC5
   by_cases c7 : a1 < 0
   ·rw [if_pos c7] at H
    have c7b0 : decide (a1 < 0) = true := decide_eq_true c7
    clear c7
    (first | rw [c7b0] | (simp only [i64_w, i32_w]; rw [c7b0]) | skip)
    have H' := Aside0.mk H
    clear H
    go_wp2
    go_meet
    case rel => exact ⟨_, (true), tS_, H', ⟨by first | omega | exact Nat.le_refl _⟩, ⟨dL_ HB⟩⟩
   ·rw [if_neg c7] at H
    have c7b0 : decide (a1 < 0) = false := decide_eq_false c7
    clear c7
    (first | rw [c7b0] | (simp only [i64_w, i32_w]; rw [c7b0]) | skip)
    have H' := Aside0.mk H
    clear H
    go_wp2
    go_meet
    case rel => exact ⟨_, (decide (a1 ≥ 16)), tS_, H', ⟨by first | omega | exact Nat.le_refl _⟩, ⟨dL_ HB⟩⟩
  case rest =>
   clear HC5
   try clear c4
   try clear c4b0
   try clear c4b1
   try clear c7
   obtain ⟨kq, x25_4, rfl, HA, HJ4, HB⟩ := hcut
   cases kq with
   | zero => exact absurd HA.out (by simp [plant_Chains.j0])
   | succ kj4 =>
    have H := HA.out
    clear HA
    simp only [plant_Chains.j0] at H
    by_cases c8 : x25_4 = true
    ·subst c8
     have H1 : (some (([] : List Int), ([] : List Int), 1)) = some (r1, r2, r3) := by rw [if_pos rfl] at H; exact H
     clear H
     have H := H1
     clear H1
     simp only [Option.some.injEq, Prod.mk.injEq] at H
     obtain ⟨rfl, rfl, rfl⟩ := H
     go_wp2
     go_ret3
     exact ⟨_, _, tE_, by first | exact Kd.R_nil _ _ _ _ _ | exact Kd.N_nil _ _ _ _ _ | exact Kd.V_nil _ _ _ _ _ | exact Kd.Q_nil _ _ _ _ _ | exact Kd.S_nil _ _ _ _ _, by first | exact Kd.R_nil _ _ _ _ _ | exact Kd.N_nil _ _ _ _ _ | exact Kd.V_nil _ _ _ _ _ | exact Kd.Q_nil _ _ _ _ _ | exact Kd.S_nil _ _ _ _ _, dL_ HB⟩
    ·replace c8 := Bool.eq_false_iff.mpr c8
     subst c8
     have H1 : (plant_Chains.l0 kj4 a1 l0 (l0.length : Int) 0 ([] : List Int) ([] : List Int)) = some (r1, r2, r3) := by rw [if_neg (show ¬ (false = true) by decide)] at H; exact H
     clear H
     have H := H1
     clear H1
     have H' := Aside0.mk H
     clear H
     go_wp2_with (first | ((with_reducible refine gate_dst (N := 26) rfl ?_); refine mapV_event ?hg (N := 26) ?hd ?hr ?_; (case hd => rfl); (case hg => rfl); (case hr => first | rfl | (go_simp; done) | (go_simp; rfl)); intro mb hg w12 hM hb; have n0_ := Aside0.mk (below_step (dL_ HB) hb); have GM := Aside0.mk ((dS_ hg (dL_ HB) : w.heap.size ≤ mb)); have HM := Aside0.mk hM; clear HB; have HB := n0_; clear n0_; clear hb hM hg))
     go_loopg [29] kj4 (fun kq v29 w' => ∃ (v900 v901 : Value) (x29_2 : Int) (x900_2 : List Int) (x901_2 : List Int), v29 = .int .i64 x29_2 ∧ Aside0 (plant_Chains.l0 kq a1 l0 (l0.length : Int) x29_2 x900_2 x901_2 = some (r1, r2, r3)) ∧ Aside0 (kq ≤ kj4) ∧ Aside0 (Kd.R (Kd.int .i64) 3 w' w.heap.size (fun k_ => some k_ ≠ (v901 : Value).ownBlock) v900 x900_2) ∧ Aside0 (Kd.R (Kd.int .i64) 3 w' w.heap.size (fun k_ => some k_ ≠ (v900 : Value).ownBlock) v901 x901_2) ∧ Aside0 (MapV Try.prog w' mb v900 v901) ∧ Aside0 (Below w.heap.size w w'))
     case atStart => exact ⟨(.slice none 0 0), (.slice none 0 0), (0), (([] : List Int)), (([] : List Int)), tS_, H', ⟨Nat.le_refl _⟩, ⟨by first | exact Kd.R_nil _ _ _ _ _ | exact Kd.N_nil _ _ _ _ _ | exact Kd.V_nil _ _ _ _ _ | exact Kd.Q_nil _ _ _ _ _ | exact Kd.S_nil _ _ _ _ _⟩, ⟨by first | exact Kd.R_nil _ _ _ _ _ | exact Kd.N_nil _ _ _ _ _ | exact Kd.V_nil _ _ _ _ _ | exact Kd.Q_nil _ _ _ _ _ | exact Kd.S_nil _ _ _ _ _⟩, ⟨by (with_reducible repeat (first | refine MapV.far ?_ NM249.out _ _ | refine MapV.far ?_ NM255.out _ _ | apply MapV.drewN | apply MapV.drew | apply MapV.alloc)); exact HM.out⟩, ⟨dL_ HB⟩⟩
     case round =>
      clear H'; try clear HM
      try clear c4
      try clear c4b0
      try clear c4b1
      try clear c7
      try clear c8
      obtain ⟨u900, u901, x29_2, x900_2, x901_2, rfl, HA, HK2, HO_900, HO_901, HM, HB⟩ := hrel
      cases gk with
      | zero => exact absurd HA.out (by simp [plant_Chains.l0])
      | succ k2 =>
       have H := HA.out
       clear HA
       simp only [plant_Chains.l0] at H
       by_cases c9 : x29_2 < (l0.length : Int)
       ·rw [if_pos c9] at H
        have c9b0 : decide (x29_2 < (l0.length : Int)) = true := decide_eq_true c9
        clear c9
        by_cases c10 : 0 ≤ x29_2
        ·rw [if_pos c10] at H
         have c10b0 : decide (0 ≤ x29_2) = true := decide_eq_true c10
         clear c10
         by_cases c11 : x29_2 < (l0.length : Int)
         ·rw [if_pos c11] at H
          have c11b0 : decide (x29_2 < (l0.length : Int)) = true := decide_eq_true c11
          clear c11
          have H' := Aside0.mk H
          clear H
          have p248 : 0 ≤ (x29_2 : Int) := of_decide_eq_true tW_
          have q248 : x29_2 < (l0.length : Int) := of_decide_eq_true tW_
          obtain ⟨ad248, A248_1, c248_1, A248_2, c248_2, e248, hx248_0, hx248_1, hx248_2, hl248_1, hi248_1, hl248_2, hi248_2⟩ := at_T39 HR0.out x29_2 p248 q248
          cases e248
          replace hx248_0 := bc_ HB hx248_0
          replace hx248_1 := bc_ HB hx248_1
          replace hx248_2 := bc_ HB hx248_2
          have HR248_1 := Aside0.mk hi248_1
          have HC248_1 := Aside0.mk hl248_1
          clear hi248_1 hl248_1
          have HR248_2 := Aside0.mk hi248_2
          have HC248_2 := Aside0.mk hl248_2
          clear hi248_2 hl248_2
          replace p248 := eq_true p248
          replace q248 := eq_true q248
          go_wp2_with (first | ((with_reducible refine gate_dst (N := 10) rfl ?_); refine box_event ?hg (N := 10) ?hd (cs := #[.string (⟨#[]⟩ : ByteArray), .slice none 0 0, .slice none 0 0]) (t := 39) ?hr ?_; (case hd => rfl); (case hg => rfl); (case hr => first | (go_simp; done) | (go_simp; rfl)); intro gb249 hg w12 hbox hb; have NM249 := Aside0.mk (show mb ≠ gb249 from Nat.ne_of_lt (by rw [hg]; exact MapV.lt (P := Try.prog) (u := u900) (v := u901) (by (with_reducible repeat (first | refine MapV.far ?_ NM249.out _ _ | refine MapV.far ?_ NM255.out _ _ | apply MapV.drewN | apply MapV.drew | apply MapV.alloc)); exact HM.out))); have hm_ := Aside0.mk (MapV.below (by (with_reducible repeat (first | refine MapV.far ?_ NM249.out _ _ | refine MapV.far ?_ NM255.out _ _ | apply MapV.drewN | apply MapV.drew | apply MapV.alloc)); exact HM.out) hb); clear HM; have HM := hm_; clear hm_; replace HO_900 := Aside0.mk (Kd.R_below (dR_ HO_900) hb); replace HO_901 := Aside0.mk (Kd.R_below (dR_ HO_901) hb); have BK249 := Aside0.mk (hbox); have GW249 := Aside0.mk ((dS_ hg (dL_ HB) : w.heap.size ≤ gb249)); have GE249 := Aside0.mk ((dS_ hg (dL_ HB) : w.heap.size ≤ gb249)); replace HB := Aside0.mk (below_step (dL_ HB) hb); clear hb hbox hg; obtain ⟨hcz13_0, hcz13_1, hcz13_2, hfz13_0, hfz13_1, hfz13_2⟩ := cs3_ BK249.out))
          go_loopg [37] k2 (fun kq v37 w' => ∃ (v900 : Value) (x37_3 : Int) (x900_3 : List Int), v37 = .int .i64 x37_3 ∧ Aside0 (plant_Chains.l1 kq a1 x29_2 l0 (l0.length : Int) x29_2 ((rd_T39 l0 x29_2).f1) (((rd_T39 l0 x29_2).f1).length : Int) x37_3 x900_3 x901_2 ((rd_T39 l0 x29_2).f0) ((rd_T39 l0 x29_2).f1) ((rd_T39 l0 x29_2).f2) = some (r1, r2, r3)) ∧ Aside0 (kq ≤ k2) ∧ Aside0 (Kd.R (Kd.int .i64) 3 w' w.heap.size (fun k_ => some k_ ≠ (u901 : Value).ownBlock) v900 x900_3) ∧ Aside0 (Kd.R (Kd.int .i64) 3 w' w.heap.size (fun k_ => some k_ ≠ (v900 : Value).ownBlock) u901 x901_2) ∧ Aside0 (w'.heap[gb249]? = some (.cells #[.string ((rd_T39 l0 x29_2).f0), (.slice A248_1 ((rd_T39 l0 x29_2).f1).length c248_1), (.slice A248_2 ((rd_T39 l0 x29_2).f2).length c248_2)] 39 (0, 0))) ∧ Aside0 (MapV Try.prog w' mb v900 u901) ∧ Aside0 (Below w.heap.size w w'))
          case atStart => exact ⟨u900, (0), (x900_2), tS_, H', ⟨Nat.le_refl _⟩, ⟨by (with_reducible repeat (first | apply Kd.R_alloc | apply Kd.R_drewN | apply Kd.R_drew)); exact Kd.R_mono (Kd.R_far (p := ⟨gb249, 2, none⟩) (Kd.R_far (p := ⟨gb249, 1, none⟩) (Kd.R_far (p := ⟨gb249, 0, none⟩) (Kd.R_types HO_900.out BK249.out (by decide)) (fun _ hk => hk.2) (.string ((rd_T39 l0 x29_2).f0))) (fun _ hk => hk.2) (.slice A248_1 ((rd_T39 l0 x29_2).f1).length c248_1)) (fun _ hk => hk.2) (.slice A248_2 ((rd_T39 l0 x29_2).f2).length c248_2)) (fun _ hk => hk.1)⟩, ⟨by (with_reducible repeat (first | apply Kd.R_alloc | apply Kd.R_drewN | apply Kd.R_drew)); exact Kd.R_mono (Kd.R_far (p := ⟨gb249, 2, none⟩) (Kd.R_far (p := ⟨gb249, 1, none⟩) (Kd.R_far (p := ⟨gb249, 0, none⟩) (Kd.R_types HO_901.out BK249.out (by decide)) (fun _ hk => hk.2) (.string ((rd_T39 l0 x29_2).f0))) (fun _ hk => hk.2) (.slice A248_1 ((rd_T39 l0 x29_2).f1).length c248_1)) (fun _ hk => hk.2) (.slice A248_2 ((rd_T39 l0 x29_2).f2).length c248_2)) (fun _ hk => hk.1)⟩, ⟨by (with_reducible repeat (first | refine blk_drewN ?_ _ | refine blk_drew ?_ | refine blk_alloc ?_ _)); refine blk_put (cs := #[.string ((rd_T39 l0 x29_2).f0), .slice A248_1 ((rd_T39 l0 x29_2).f1).length c248_1, .slice none 0 0]) ?_ 2 _ rfl; (with_reducible repeat (first | refine blk_drewN ?_ _ | refine blk_drew ?_ | refine blk_alloc ?_ _)); refine blk_put (cs := #[.string ((rd_T39 l0 x29_2).f0), .slice none 0 0, .slice none 0 0]) ?_ 1 _ rfl; (with_reducible repeat (first | refine blk_drewN ?_ _ | refine blk_drew ?_ | refine blk_alloc ?_ _)); refine blk_put (cs := #[.string (⟨#[]⟩ : ByteArray), .slice none 0 0, .slice none 0 0]) ?_ 0 _ rfl; (with_reducible repeat (first | refine blk_drewN ?_ _ | refine blk_drew ?_ | refine blk_alloc ?_ _)); exact BK249.out⟩, ⟨by (with_reducible repeat (first | refine MapV.far ?_ NM249.out _ _ | refine MapV.far ?_ NM255.out _ _ | apply MapV.drewN | apply MapV.drew | apply MapV.alloc)); exact HM.out⟩, ⟨dL1_ HB GE249⟩⟩
          case round =>
           clear H'; try clear HM
           try clear c4
           try clear c4b0
           try clear c4b1
           try clear c7
           try clear c8
           try clear c9
           try clear c9b0
           try clear c10
           try clear c10b0
           try clear c11
           try clear c11b0
           try clear hcz13_0
           try clear hcz13_1
           try clear hcz13_2
           try clear hfz13_0
           try clear hfz13_1
           try clear hfz13_2
           try clear hx248_0
           try clear hx248_1
           try clear hx248_2
           try clear p248
           try clear q248
           obtain ⟨u900, x37_3, x900_3, rfl, HA, HK3, HO_900, HO_901, BK249, HM, HB⟩ := hrel
           cases gk with
           | zero => exact absurd HA.out (by simp [plant_Chains.l1])
           | succ k3 =>
            have H := HA.out
            clear HA
            simp only [plant_Chains.l1] at H
            by_cases c14 : x37_3 < (((rd_T39 l0 x29_2).f1).length : Int)
            ·rw [if_pos c14] at H
             have c14b0 : decide (x37_3 < (((rd_T39 l0 x29_2).f1).length : Int)) = true := decide_eq_true c14
             clear c14
             by_cases c15 : 0 ≤ x37_3
             ·rw [if_pos c15] at H
              have c15b0 : decide (0 ≤ x37_3) = true := decide_eq_true c15
              clear c15
              by_cases c16 : x37_3 < (((rd_T39 l0 x29_2).f1).length : Int)
              ·rw [if_pos c16] at H
               have c16b0 : decide (x37_3 < (((rd_T39 l0 x29_2).f1).length : Int)) = true := decide_eq_true c16
               clear c16
               by_cases c17 : (rd ((rd_T39 l0 x29_2).f1) x37_3) = a1
               ·rw [if_pos c17] at H
                have c17b0 : ((rd ((rd_T39 l0 x29_2).f1) x37_3) == a1) = true := beq_iff_eq.mpr c17
                have c17b1 : ((rd ((rd_T39 l0 x29_2).f1) x37_3) != a1) = false := bne_eq_false_iff_eq.mpr c17
                clear c17
                by_cases c18 : x900_3.length < 17592186044416
                ·rw [if_pos c18] at H
                 have LMc18 := Aside0.mk c18
                 clear c18
                 obtain ⟨y251, hy251⟩ : ∃ y_ : List Int, y_ = (x900_3 ++ [x29_2]) := ⟨_, rfl⟩
                 replace H : (plant_Chains.l1 k3 a1 x29_2 l0 (l0.length : Int) x29_2 ((rd_T39 l0 x29_2).f1) (((rd_T39 l0 x29_2).f1).length : Int) (wrap64 (x37_3 + 1)) y251 x901_2 ((rd_T39 l0 x29_2).f0) ((rd_T39 l0 x29_2).f1) ((rd_T39 l0 x29_2).f2)) = some (r1, r2, r3) := by first | (rw [hy251]; with_reducible exact H) | (have H2_ := (Option.bind_some _ _).symm.trans H; rw [hy251]; with_reducible exact H2_) | (have H2_ := (Option.bind_some _ _).symm.trans H; with_reducible exact H2_) | with_reducible exact H | (rw [hy251]; exact H) | exact H
                 have Ny251 := Aside0.mk hy251
                 clear hy251
                 have H' := Aside0.mk H
                 clear H
                 have p250 : 0 ≤ (x37_3 : Int) := of_decide_eq_true tW_
                 have q250 : x37_3 < (((rd_T39 l0 x29_2).f1).length : Int) := of_decide_eq_true tW_
                 obtain ⟨ad250, e250, hx250_0⟩ := Kd.at_int HR248_1.out x37_3 p250 q250
                 cases e250
                 replace hx250_0 := bc_ HB hx250_0
                 replace p250 := eq_true p250
                 replace q250 := eq_true q250
                 go_wp2_with (first | ((with_reducible refine gate_dst (N := 46) rfl ?_); refine lookT_event rfl (N := 46) rfl (m := .tmp 45) (x := .const (.bool true)) (t := 64) rfl Try.underlying64 Try.underlying4 (fun _ => by kernel_rfl) (b := mb) (u := u900) (v := u901) ?hm (by (with_reducible repeat (first | refine MapV.far ?_ NM249.out _ _ | refine MapV.far ?_ NM255.out _ _ | apply MapV.drewN | apply MapV.drew | apply MapV.alloc)); exact HM.out) rfl ?_; (case hm => first | rfl | (go_simp; done))) | ((with_reducible refine gate_builtin (b := .append) (xs := #[.tmp 46, .tmp 48]) rfl ?_); at_builtin; refine Kd.R_append (Kd.int .i64) (w0 := w) w.heap.size rfl (.tmp 46) (.tmp 48) 23 3 (.int .i64 0) 8 rfl Try.underlying23 info3 rfl (by decide) (by omega) u900 x900_3 x29_2 [.int .i64 x29_2] (fun k_ => some k_ ≠ (u901 : Value).ownBlock) (fun _ => False) rfl rfl ?aP (fun _ hk => hk.elim) ?aF ?aO ?aB ?aS ?aL ?_; (case aP => exact rfl); (case aB => exact (dL1_ HB GE249)); (case aF => exact (fun k_ hk => Kd.fresh' (Kd.R_lt (dR_ HO_901)) k_ hk)); (case aO => exact (dR_ HO_900)); (case aS => exact (below_size (dL1_ HB GE249))); (case aL => have := LMc18.out; omega); intro v252 w19 ho hb hg hat; have q1_ := (show Kd.R (Kd.int .i64) 3 _ w.heap.size (fun k_ => some k_ ≠ (u901 : Value).ownBlock) u900 x900_3 from HO_900.out); have hm_ := Aside0.mk (MapV.grown (P := Try.prog) (b := mb) (u := u900) (v := u901) (by (with_reducible repeat (first | refine MapV.far ?_ NM249.out _ _ | refine MapV.far ?_ NM255.out _ _ | apply MapV.drewN | apply MapV.drew | apply MapV.alloc)); exact HM.out) hg (Kd.R_typed q1_)); clear HM q1_; have HM := hm_; clear hm_; rw [← Ny251.out] at ho; replace HO_901 := Aside0.mk (Kd.R_after (ok := (fun _ => True)) (by (with_reducible repeat (first | apply Kd.R_alloc | apply Kd.R_drewN | apply Kd.R_drew)); exact Kd.R_mono HO_901.out (fun _ hk => ⟨trivial, hk⟩)) hg hat); replace BK249 := Aside0.mk (blk_grown (g := gb249) (o := .cells #[.string ((rd_T39 l0 x29_2).f0), .slice (some ad250) ((rd_T39 l0 x29_2).f1).length c248_1, .slice A248_2 ((rd_T39 l0 x29_2).f2).length c248_2] 39 (0, 0)) (dB_ BK249) hg (Kd.R_ne HO_900.out BK249.out (by decide))); replace HB := Aside0.mk (hb); have HO253 := Aside0.mk (ho); clear HO_900; clear ho hb hg hat) | ((with_reducible refine gate_mapV (t := 64) (m := .tmp 44) (x := .const (.bool true)) (v := .tmp 49) rfl ?_); refine putT_event rfl rfl rfl Try.underlying64 Try.underlying4 (b := mb) (p := u900) (q := u901) (r := v252) ?hm HM.out rfl ?hv ?_; (case hm => first | rfl | (go_simp; done)); (case hv => first | rfl | (go_simp; done)); intro wm hM hgm; have n0_ := Aside0.mk (Kd.R_map HO_901.out HM.out hgm); have n1_ := Aside0.mk (blk_map BK249.out HM.out hgm); have n2_ := Aside0.mk (below_map HB.out GM.out hgm); have n3_ := Aside0.mk (Kd.R_map HO253.out HM.out hgm); clear HM; have HM := Aside0.mk hM; clear HO_901; have HO_901 := n0_; clear BK249; have BK249 := n1_; clear HB; have HB := n2_; clear HO253; have HO253 := n3_; clear n0_ n1_ n2_ n3_; clear hM hgm))
                 go_roundg k3
                 case measure => have := HJ4.out; have := HK2.out; have := HK3.out; omega
                 case rel => exact ⟨v252, (wrap64 (x37_3 + 1)), (y251), tS_, H', ⟨by have := HJ4.out; have := HK2.out; have := HK3.out; omega⟩, ⟨dR_ HO253⟩, ⟨by (with_reducible repeat (first | apply Kd.R_alloc | apply Kd.R_drewN | apply Kd.R_drew)); exact Kd.R_mono HO_901.out (fun _ hk => hk.2)⟩, ⟨dB_ BK249⟩, ⟨by (with_reducible repeat (first | refine MapV.far ?_ NM249.out _ _ | refine MapV.far ?_ NM255.out _ _ | apply MapV.drewN | apply MapV.drew | apply MapV.alloc)); exact HM.out⟩, ⟨dL1_ HB GE249⟩⟩
                ·rw [if_neg c18] at H
                 exact absurd H (by simp)
               ·rw [if_neg c17] at H
                have c17b0 : ((rd ((rd_T39 l0 x29_2).f1) x37_3) == a1) = false := beq_eq_false_iff_ne.mpr c17
                have c17b1 : ((rd ((rd_T39 l0 x29_2).f1) x37_3) != a1) = true := bne_iff_ne.mpr c17
                have H' := Aside0.mk H
                clear H
                have p250 : 0 ≤ (x37_3 : Int) := of_decide_eq_true tW_
                have q250 : x37_3 < (((rd_T39 l0 x29_2).f1).length : Int) := of_decide_eq_true tW_
                obtain ⟨ad250, e250, hx250_0⟩ := Kd.at_int HR248_1.out x37_3 p250 q250
                cases e250
                replace hx250_0 := bc_ HB hx250_0
                replace p250 := eq_true p250
                replace q250 := eq_true q250
                go_wp2
                go_roundg k3
                case measure => have := HJ4.out; have := HK2.out; have := HK3.out; omega
                case rel => exact ⟨u900, (wrap64 (x37_3 + 1)), (x900_3), tS_, H', ⟨by have := HJ4.out; have := HK2.out; have := HK3.out; omega⟩, ⟨dR_ HO_900⟩, ⟨dR_ HO_901⟩, ⟨dB_ BK249⟩, ⟨by (with_reducible repeat (first | refine MapV.far ?_ NM249.out _ _ | refine MapV.far ?_ NM255.out _ _ | apply MapV.drewN | apply MapV.drew | apply MapV.alloc)); exact HM.out⟩, ⟨dL1_ HB GE249⟩⟩
              ·rw [if_neg c16] at H
               exact absurd H (by simp)
             ·rw [if_neg c15] at H
              exact absurd H (by simp)
            ·rw [if_neg c14] at H
             have c14b0 : decide (x37_3 < (((rd_T39 l0 x29_2).f1).length : Int)) = false := decide_eq_false c14
             clear c14
             have H' := Aside0.mk H
             clear H
             obtain ⟨hcz20_0, hcz20_1, hcz20_2, hfz20_0, hfz20_1, hfz20_2⟩ := cs3_ BK249.out
             go_wp2
             go_loopg [54] k3 (fun kq v54 w' => ∃ (v901 : Value) (x54_4 : Int) (x901_4 : List Int), v54 = .int .i64 x54_4 ∧ Aside0 (plant_Chains.l2 kq a1 x29_2 l0 (l0.length : Int) x29_2 ((rd_T39 l0 x29_2).f2) (((rd_T39 l0 x29_2).f2).length : Int) x54_4 x900_3 x901_4 = some (r1, r2, r3)) ∧ Aside0 (kq ≤ k3) ∧ Aside0 (Kd.R (Kd.int .i64) 3 w' w.heap.size (fun k_ => some k_ ≠ (v901 : Value).ownBlock) u900 x900_3) ∧ Aside0 (Kd.R (Kd.int .i64) 3 w' w.heap.size (fun k_ => some k_ ≠ (u900 : Value).ownBlock) v901 x901_4) ∧ Aside0 (w'.heap[gb249]? = some (.cells #[.string ((rd_T39 l0 x29_2).f0), (.slice A248_1 ((rd_T39 l0 x29_2).f1).length c248_1), (.slice A248_2 ((rd_T39 l0 x29_2).f2).length c248_2)] 39 (0, 0))) ∧ Aside0 (MapV Try.prog w' mb u900 v901) ∧ Aside0 (Below w.heap.size w w'))
             case atStart => exact ⟨u901, (0), (x901_2), tS_, H', ⟨Nat.le_refl _⟩, ⟨dR_ HO_900⟩, ⟨dR_ HO_901⟩, ⟨dB_ BK249⟩, ⟨by (with_reducible repeat (first | refine MapV.far ?_ NM249.out _ _ | refine MapV.far ?_ NM255.out _ _ | apply MapV.drewN | apply MapV.drew | apply MapV.alloc)); exact HM.out⟩, ⟨dL1_ HB GE249⟩⟩
             case round =>
              clear H'; try clear HM
              try clear c4
              try clear c4b0
              try clear c4b1
              try clear c7
              try clear c8
              try clear c9
              try clear c9b0
              try clear c10
              try clear c10b0
              try clear c11
              try clear c11b0
              try clear c14
              try clear c14b0
              try clear c15
              try clear c16
              try clear c17
              try clear c18
              try clear hcz13_0
              try clear hcz13_1
              try clear hcz13_2
              try clear hcz20_0
              try clear hcz20_1
              try clear hcz20_2
              try clear hfz13_0
              try clear hfz13_1
              try clear hfz13_2
              try clear hfz20_0
              try clear hfz20_1
              try clear hfz20_2
              try clear hx248_0
              try clear hx248_1
              try clear hx248_2
              try clear p248
              try clear q248
              obtain ⟨u901, x54_4, x901_4, rfl, HA, HK4, HO_900, HO_901, BK249, HM, HB⟩ := hrel
              cases gk with
              | zero => exact absurd HA.out (by simp [plant_Chains.l2])
              | succ k4 =>
               have H := HA.out
               clear HA
               simp only [plant_Chains.l2] at H
               by_cases c21 : x54_4 < (((rd_T39 l0 x29_2).f2).length : Int)
               ·rw [if_pos c21] at H
                have c21b0 : decide (x54_4 < (((rd_T39 l0 x29_2).f2).length : Int)) = true := decide_eq_true c21
                clear c21
                by_cases c22 : 0 ≤ x54_4
                ·rw [if_pos c22] at H
                 have c22b0 : decide (0 ≤ x54_4) = true := decide_eq_true c22
                 clear c22
                 by_cases c23 : x54_4 < (((rd_T39 l0 x29_2).f2).length : Int)
                 ·rw [if_pos c23] at H
                  have c23b0 : decide (x54_4 < (((rd_T39 l0 x29_2).f2).length : Int)) = true := decide_eq_true c23
                  clear c23
                  by_cases c24 : ((rd_T41 ((rd_T39 l0 x29_2).f2) x54_4).f0) = a1
                  ·rw [if_pos c24] at H
                   have c24b0 : (((rd_T41 ((rd_T39 l0 x29_2).f2) x54_4).f0) == a1) = true := beq_iff_eq.mpr c24
                   have c24b1 : (((rd_T41 ((rd_T39 l0 x29_2).f2) x54_4).f0) != a1) = false := bne_eq_false_iff_eq.mpr c24
                   clear c24
                   by_cases c25 : x901_4.length < 17592186044416
                   ·rw [if_pos c25] at H
                    have LMc25 := Aside0.mk c25
                    clear c25
                    obtain ⟨y256, hy256⟩ : ∃ y_ : List Int, y_ = (x901_4 ++ [x29_2]) := ⟨_, rfl⟩
                    replace H : (plant_Chains.l2 k4 a1 x29_2 l0 (l0.length : Int) x29_2 ((rd_T39 l0 x29_2).f2) (((rd_T39 l0 x29_2).f2).length : Int) (wrap64 (x54_4 + 1)) x900_3 y256) = some (r1, r2, r3) := by first | (rw [hy256]; with_reducible exact H) | (have H2_ := (Option.bind_some _ _).symm.trans H; rw [hy256]; with_reducible exact H2_) | (have H2_ := (Option.bind_some _ _).symm.trans H; with_reducible exact H2_) | with_reducible exact H | (rw [hy256]; exact H) | exact H
                    have Ny256 := Aside0.mk hy256
                    clear hy256
                    have H' := Aside0.mk H
                    clear H
                    have p254 : 0 ≤ (x54_4 : Int) := of_decide_eq_true tW_
                    have q254 : x54_4 < (((rd_T39 l0 x29_2).f2).length : Int) := of_decide_eq_true tW_
                    obtain ⟨ad254, e254, hx254_0, hx254_1⟩ := at_T41 HR248_2.out x54_4 p254 q254
                    cases e254
                    replace hx254_0 := bc_ HB hx254_0
                    replace hx254_1 := bc_ HB hx254_1
                    replace p254 := eq_true p254
                    replace q254 := eq_true q254
                    go_wp2_with (first | ((with_reducible refine gate_dst (N := 64) rfl ?_); refine lookF_event rfl (N := 64) rfl (m := .tmp 63) (x := .const (.bool false)) (t := 64) rfl Try.underlying64 Try.underlying4 (fun _ => by kernel_rfl) (b := mb) (u := u900) (v := u901) ?hm (by (with_reducible repeat (first | refine MapV.far ?_ NM249.out _ _ | refine MapV.far ?_ NM255.out _ _ | apply MapV.drewN | apply MapV.drew | apply MapV.alloc)); exact HM.out) rfl ?_; (case hm => first | rfl | (go_simp; done))) | ((with_reducible refine gate_dst (N := 14) rfl ?_); refine box_event ?hg (N := 14) ?hd (cs := #[.int .i64 0, .int .i64 0]) (t := 41) ?hr ?_; (case hd => rfl); (case hg => rfl); (case hr => first | (go_simp; done) | (go_simp; rfl)); intro gb255 hg w26 hbox hb; have NM255 := Aside0.mk (show mb ≠ gb255 from Nat.ne_of_lt (by rw [hg]; exact MapV.lt (P := Try.prog) (u := u900) (v := u901) (by (with_reducible repeat (first | refine MapV.far ?_ NM249.out _ _ | refine MapV.far ?_ NM255.out _ _ | apply MapV.drewN | apply MapV.drew | apply MapV.alloc)); exact HM.out))); have hm_ := Aside0.mk (MapV.below (by (with_reducible repeat (first | refine MapV.far ?_ NM249.out _ _ | refine MapV.far ?_ NM255.out _ _ | apply MapV.drewN | apply MapV.drew | apply MapV.alloc)); exact HM.out) hb); clear HM; have HM := hm_; clear hm_; replace HO_900 := Aside0.mk (Kd.R_below (dR_ HO_900) hb); replace HO_901 := Aside0.mk (Kd.R_below (dR_ HO_901) hb); have BK255 := Aside0.mk (hbox); have GW255 := Aside0.mk ((dS_ hg (dL1_ HB GE249) : w.heap.size ≤ gb255)); have GE255 := Aside0.mk ((dS_ hg (dL1_ HB GE249) : w.heap.size ≤ gb255)); replace HB := Aside0.mk (below_step (dL1_ HB GE249) hb); have NB249_255 := Aside0.mk ((by rw [hg]; exact Nat.ne_of_lt (blk_lt (dB_ BK249)) : gb249 ≠ gb255)); have NB255_249 := Aside0.mk ((by rw [hg]; exact Nat.ne_of_gt (blk_lt (dB_ BK249)) : gb255 ≠ gb249)); replace BK249 := Aside0.mk (blk_below (g := gb249) (o := .cells #[.string ((rd_T39 l0 x29_2).f0), .slice A248_1 ((rd_T39 l0 x29_2).f1).length c248_1, .slice (some ad254) ((rd_T39 l0 x29_2).f2).length c248_2] 39 (0, 0)) (dB_ BK249) hb); clear hb hbox hg; have hnb27 := NB255_249.out; have hnc27 := NB249_255.out; obtain ⟨hcz28_0, hcz28_1, hfz28_0, hfz28_1⟩ := cs2_ BK255.out) | ((with_reducible refine gate_builtin (b := .append) (xs := #[.tmp 64, .tmp 66]) rfl ?_); at_builtin; refine Kd.R_append (Kd.int .i64) (w0 := w) w.heap.size rfl (.tmp 64) (.tmp 66) 23 3 (.int .i64 0) 8 rfl Try.underlying23 info3 rfl (by decide) (by omega) u901 x901_4 x29_2 [.int .i64 x29_2] (fun k_ => some k_ ≠ (u900 : Value).ownBlock) (fun _ => False) rfl (by first | (go_simp; done) | (go_simp; rfl)) ?aP (fun _ hk => hk.elim) ?aF ?aO ?aB ?aS ?aL ?_; (case aP => exact rfl); (case aB => exact (dL2_ HB GE249 GE255)); (case aF => exact (fun k_ hk => Kd.fresh' (Kd.R_lt (by (with_reducible repeat (first | apply Kd.R_alloc | apply Kd.R_drewN | apply Kd.R_drew)); exact (Kd.R_mono (Kd.R_far (p := ⟨gb255, 1, none⟩) (Kd.R_far (p := ⟨gb255, 0, none⟩) (Kd.R_types HO_900.out BK255.out (by decide)) (fun _ hk => hk.2) (.int .i64 ((rd_T41 ((rd_T39 l0 x29_2).f2) x54_4).f0))) (fun _ hk => hk.2) (.int .i64 ((rd_T41 ((rd_T39 l0 x29_2).f2) x54_4).f1))) (fun _ h_ => h_.1)))) k_ hk)); (case aO => exact (by (with_reducible repeat (first | apply Kd.R_alloc | apply Kd.R_drewN | apply Kd.R_drew)); exact Kd.R_mono (Kd.R_far (p := ⟨gb255, 1, none⟩) (Kd.R_far (p := ⟨gb255, 0, none⟩) (Kd.R_types HO_901.out BK255.out (by decide)) (fun _ hk => hk.2) (.int .i64 ((rd_T41 ((rd_T39 l0 x29_2).f2) x54_4).f0))) (fun _ hk => hk.2) (.int .i64 ((rd_T41 ((rd_T39 l0 x29_2).f2) x54_4).f1))) (fun _ hk => hk.1))); (case aS => exact (below_size (dL2_ HB GE249 GE255))); (case aL => have := LMc25.out; omega); intro v257 w29 ho hb hg hat; have q1_ := Kd.R_mono (Kd.R_far (p := ⟨gb255, 1, none⟩) (Kd.R_far (p := ⟨gb255, 0, none⟩) (Kd.R_types HO_901.out BK255.out (by decide)) (fun _ hk => hk.2) (.int .i64 ((rd_T41 ((rd_T39 l0 x29_2).f2) x54_4).f0))) (fun _ hk => hk.2) (.int .i64 ((rd_T41 ((rd_T39 l0 x29_2).f2) x54_4).f1))) (ok' := fun k_ => some k_ ≠ (u900 : Value).ownBlock) (fun _ hk => hk.1); have hm_ := Aside0.mk (MapV.grown (P := Try.prog) (b := mb) (u := u900) (v := u901) (by (with_reducible repeat (first | refine MapV.far ?_ NM249.out _ _ | refine MapV.far ?_ NM255.out _ _ | apply MapV.drewN | apply MapV.drew | apply MapV.alloc)); exact HM.out) hg (Kd.R_typed q1_)); clear HM q1_; have HM := hm_; clear hm_; rw [← Ny256.out] at ho; replace HO_900 := Aside0.mk (Kd.R_after (ok := (fun _ => True)) (by (with_reducible repeat (first | apply Kd.R_alloc | apply Kd.R_drewN | apply Kd.R_drew)); exact Kd.R_mono (Kd.R_far (p := ⟨gb255, 1, none⟩) (Kd.R_far (p := ⟨gb255, 0, none⟩) (Kd.R_types HO_900.out BK255.out (by decide)) (fun _ hk => hk.2) (.int .i64 ((rd_T41 ((rd_T39 l0 x29_2).f2) x54_4).f0))) (fun _ hk => hk.2) (.int .i64 ((rd_T41 ((rd_T39 l0 x29_2).f2) x54_4).f1))) (fun _ hk => ⟨trivial, hk.1⟩)) hg hat); replace BK249 := Aside0.mk (blk_grown (g := gb249) (o := .cells #[.string ((rd_T39 l0 x29_2).f0), .slice A248_1 ((rd_T39 l0 x29_2).f1).length c248_1, .slice (some ad254) ((rd_T39 l0 x29_2).f2).length c248_2] 39 (0, 0)) (by (with_reducible repeat (first | refine blk_drewN ?_ _ | refine blk_drew ?_ | refine blk_alloc ?_ _)); refine blk_far ?_ NB249_255.out _; (with_reducible repeat (first | refine blk_drewN ?_ _ | refine blk_drew ?_ | refine blk_alloc ?_ _)); refine blk_far ?_ NB249_255.out _; (with_reducible repeat (first | refine blk_drewN ?_ _ | refine blk_drew ?_ | refine blk_alloc ?_ _)); exact BK249.out) hg (Kd.R_ne HO_901.out BK249.out (by decide))); replace BK255 := Aside0.mk (blk_grown (g := gb255) (o := .cells #[.int .i64 ((rd_T41 ((rd_T39 l0 x29_2).f2) x54_4).f0), .int .i64 ((rd_T41 ((rd_T39 l0 x29_2).f2) x54_4).f1)] 41 (0, 0)) (by (with_reducible repeat (first | refine blk_drewN ?_ _ | refine blk_drew ?_ | refine blk_alloc ?_ _)); refine blk_put (cs := #[.int .i64 ((rd_T41 ((rd_T39 l0 x29_2).f2) x54_4).f0), .int .i64 0]) ?_ 1 _ rfl; (with_reducible repeat (first | refine blk_drewN ?_ _ | refine blk_drew ?_ | refine blk_alloc ?_ _)); refine blk_put (cs := #[.int .i64 0, .int .i64 0]) ?_ 0 _ rfl; (with_reducible repeat (first | refine blk_drewN ?_ _ | refine blk_drew ?_ | refine blk_alloc ?_ _)); exact BK255.out) hg (Kd.R_ne HO_901.out BK255.out (by decide))); replace HB := Aside0.mk (hb); have HO258 := Aside0.mk (ho); clear HO_901; clear ho hb hg hat) | ((with_reducible refine gate_mapV (t := 64) (m := .tmp 62) (x := .const (.bool false)) (v := .tmp 67) rfl ?_); refine putF_event rfl rfl rfl Try.underlying64 Try.underlying4 (b := mb) (p := u900) (q := u901) (r := v257) ?hm HM.out rfl ?hv ?_; (case hm => first | rfl | (go_simp; done)); (case hv => first | rfl | (go_simp; done)); intro wm hM hgm; have n0_ := Aside0.mk (Kd.R_map HO_900.out HM.out hgm); have n1_ := Aside0.mk (blk_map BK249.out HM.out hgm); have n2_ := Aside0.mk (blk_map BK255.out HM.out hgm); have n3_ := Aside0.mk (below_map HB.out GM.out hgm); have n4_ := Aside0.mk (Kd.R_map HO258.out HM.out hgm); clear HM; have HM := Aside0.mk hM; clear HO_900; have HO_900 := n0_; clear BK249; have BK249 := n1_; clear BK255; have BK255 := n2_; clear HB; have HB := n3_; clear HO258; have HO258 := n4_; clear n0_ n1_ n2_ n3_ n4_; clear hM hgm))
                    go_roundg k4
                    case measure => have := HJ4.out; have := HK2.out; have := HK3.out; have := HK4.out; omega
                    case rel => exact ⟨v257, (wrap64 (x54_4 + 1)), (y256), tS_, H', ⟨by have := HJ4.out; have := HK2.out; have := HK3.out; have := HK4.out; omega⟩, ⟨by (with_reducible repeat (first | apply Kd.R_alloc | apply Kd.R_drewN | apply Kd.R_drew)); exact Kd.R_mono HO_900.out (fun _ hk => hk.2)⟩, ⟨dR_ HO258⟩, ⟨dB_ BK249⟩, ⟨by (with_reducible repeat (first | refine MapV.far ?_ NM249.out _ _ | refine MapV.far ?_ NM255.out _ _ | apply MapV.drewN | apply MapV.drew | apply MapV.alloc)); exact HM.out⟩, ⟨dL2_ HB GE249 GE255⟩⟩
                   ·rw [if_neg c25] at H
                    exact absurd H (by simp)
                  ·rw [if_neg c24] at H
                   have c24b0 : (((rd_T41 ((rd_T39 l0 x29_2).f2) x54_4).f0) == a1) = false := beq_eq_false_iff_ne.mpr c24
                   have c24b1 : (((rd_T41 ((rd_T39 l0 x29_2).f2) x54_4).f0) != a1) = true := bne_iff_ne.mpr c24
                   have H' := Aside0.mk H
                   clear H
                   have p254 : 0 ≤ (x54_4 : Int) := of_decide_eq_true tW_
                   have q254 : x54_4 < (((rd_T39 l0 x29_2).f2).length : Int) := of_decide_eq_true tW_
                   obtain ⟨ad254, e254, hx254_0, hx254_1⟩ := at_T41 HR248_2.out x54_4 p254 q254
                   cases e254
                   replace hx254_0 := bc_ HB hx254_0
                   replace hx254_1 := bc_ HB hx254_1
                   replace p254 := eq_true p254
                   replace q254 := eq_true q254
                   go_wp2_with (first | ((with_reducible refine gate_dst (N := 14) rfl ?_); refine box_event ?hg (N := 14) ?hd (cs := #[.int .i64 0, .int .i64 0]) (t := 41) ?hr ?_; (case hd => rfl); (case hg => rfl); (case hr => first | (go_simp; done) | (go_simp; rfl)); intro gb255 hg w30 hbox hb; have NM255 := Aside0.mk (show mb ≠ gb255 from Nat.ne_of_lt (by rw [hg]; exact MapV.lt (P := Try.prog) (u := u900) (v := u901) (by (with_reducible repeat (first | refine MapV.far ?_ NM249.out _ _ | refine MapV.far ?_ NM255.out _ _ | apply MapV.drewN | apply MapV.drew | apply MapV.alloc)); exact HM.out))); have hm_ := Aside0.mk (MapV.below (by (with_reducible repeat (first | refine MapV.far ?_ NM249.out _ _ | refine MapV.far ?_ NM255.out _ _ | apply MapV.drewN | apply MapV.drew | apply MapV.alloc)); exact HM.out) hb); clear HM; have HM := hm_; clear hm_; replace HO_900 := Aside0.mk (Kd.R_below (dR_ HO_900) hb); replace HO_901 := Aside0.mk (Kd.R_below (dR_ HO_901) hb); have BK255 := Aside0.mk (hbox); have GW255 := Aside0.mk ((dS_ hg (dL1_ HB GE249) : w.heap.size ≤ gb255)); have GE255 := Aside0.mk ((dS_ hg (dL1_ HB GE249) : w.heap.size ≤ gb255)); replace HB := Aside0.mk (below_step (dL1_ HB GE249) hb); have NB249_255 := Aside0.mk ((by rw [hg]; exact Nat.ne_of_lt (blk_lt (dB_ BK249)) : gb249 ≠ gb255)); have NB255_249 := Aside0.mk ((by rw [hg]; exact Nat.ne_of_gt (blk_lt (dB_ BK249)) : gb255 ≠ gb249)); replace BK249 := Aside0.mk (blk_below (g := gb249) (o := .cells #[.string ((rd_T39 l0 x29_2).f0), .slice A248_1 ((rd_T39 l0 x29_2).f1).length c248_1, .slice (some ad254) ((rd_T39 l0 x29_2).f2).length c248_2] 39 (0, 0)) (dB_ BK249) hb); clear hb hbox hg; have hnb31 := NB255_249.out; have hnc31 := NB249_255.out; obtain ⟨hcz32_0, hcz32_1, hfz32_0, hfz32_1⟩ := cs2_ BK255.out))
                   go_roundg k4
                   case measure => have := HJ4.out; have := HK2.out; have := HK3.out; have := HK4.out; omega
                   case rel => exact ⟨u901, (wrap64 (x54_4 + 1)), (x901_4), tS_, H', ⟨by have := HJ4.out; have := HK2.out; have := HK3.out; have := HK4.out; omega⟩, ⟨by (with_reducible repeat (first | apply Kd.R_alloc | apply Kd.R_drewN | apply Kd.R_drew)); exact Kd.R_mono (Kd.R_far (p := ⟨gb255, 1, none⟩) (Kd.R_far (p := ⟨gb255, 0, none⟩) (Kd.R_types HO_900.out BK255.out (by decide)) (fun _ hk => hk.2) (.int .i64 ((rd_T41 ((rd_T39 l0 x29_2).f2) x54_4).f0))) (fun _ hk => hk.2) (.int .i64 ((rd_T41 ((rd_T39 l0 x29_2).f2) x54_4).f1))) (fun _ hk => hk.1)⟩, ⟨by (with_reducible repeat (first | apply Kd.R_alloc | apply Kd.R_drewN | apply Kd.R_drew)); exact Kd.R_mono (Kd.R_far (p := ⟨gb255, 1, none⟩) (Kd.R_far (p := ⟨gb255, 0, none⟩) (Kd.R_types HO_901.out BK255.out (by decide)) (fun _ hk => hk.2) (.int .i64 ((rd_T41 ((rd_T39 l0 x29_2).f2) x54_4).f0))) (fun _ hk => hk.2) (.int .i64 ((rd_T41 ((rd_T39 l0 x29_2).f2) x54_4).f1))) (fun _ hk => hk.1)⟩, ⟨by (with_reducible repeat (first | refine blk_drewN ?_ _ | refine blk_drew ?_ | refine blk_alloc ?_ _)); refine blk_far ?_ NB249_255.out _; (with_reducible repeat (first | refine blk_drewN ?_ _ | refine blk_drew ?_ | refine blk_alloc ?_ _)); refine blk_far ?_ NB249_255.out _; (with_reducible repeat (first | refine blk_drewN ?_ _ | refine blk_drew ?_ | refine blk_alloc ?_ _)); exact BK249.out⟩, ⟨by (with_reducible repeat (first | refine MapV.far ?_ NM249.out _ _ | refine MapV.far ?_ NM255.out _ _ | apply MapV.drewN | apply MapV.drew | apply MapV.alloc)); exact HM.out⟩, ⟨dL2_ HB GE249 GE255⟩⟩
                 ·rw [if_neg c23] at H
                  exact absurd H (by simp)
                ·rw [if_neg c22] at H
                 exact absurd H (by simp)
               ·rw [if_neg c21] at H
                have c21b0 : decide (x54_4 < (((rd_T39 l0 x29_2).f2).length : Int)) = false := decide_eq_false c21
                clear c21
                have H' := Aside0.mk H
                clear H
                go_wp2
                go_roundg k4
                case measure => have := HJ4.out; have := HK2.out; have := HK3.out; have := HK4.out; omega
                case rel => exact ⟨u900, u901, (wrap64 (x29_2 + 1)), (x900_3), (x901_4), tS_, H', ⟨by have := HJ4.out; have := HK2.out; have := HK3.out; have := HK4.out; omega⟩, ⟨dR_ HO_900⟩, ⟨dR_ HO_901⟩, ⟨by (with_reducible repeat (first | refine MapV.far ?_ NM249.out _ _ | refine MapV.far ?_ NM255.out _ _ | apply MapV.drewN | apply MapV.drew | apply MapV.alloc)); exact HM.out⟩, ⟨dL1_ HB GE249⟩⟩
         ·rw [if_neg c11] at H
          exact absurd H (by simp)
        ·rw [if_neg c10] at H
         exact absurd H (by simp)
       ·rw [if_neg c9] at H
        have c9b0 : decide (x29_2 < (l0.length : Int)) = false := decide_eq_false c9
        clear c9
        simp only [Option.some.injEq, Prod.mk.injEq] at H
        obtain ⟨rfl, rfl, rfl⟩ := H
        obtain ⟨hlT, hlF⟩ := MapV.runs HM.out Try.underlying64 Try.underlying4 (fun _ => by kernel_rfl)
        go_wp2
        repeat (go_quiet (fail); try go_wp2)
        go_ret3
        exact ⟨_, _, tE_, dR_ HO_900, dR_ HO_901, dL_ HB⟩
 ·rw [if_neg c4] at H
  have c4b0 : (t247 == 0) = false := beq_eq_false_iff_ne.mpr c4
  have c4b1 : (t247 != 0) = true := bne_iff_ne.mpr c4
  simp only [Option.some.injEq, Prod.mk.injEq] at H
  obtain ⟨rfl, rfl, rfl⟩ := H
  go_enter Try.func28, Try.ntmps28
  go_wp2_with (first | (go_at_call 33; (with_reducible refine (plant_ValidateKinds.calls k _ _ l0 t247 _ ?side1 ?side2 A3.out).mono ?_); (case side1 => repeat (first | exact HR0.out | (with_reducible refine Kd.C_alloc ?_ _) | (with_reducible refine Kd.C_drewN ?_ _) | (with_reducible refine Kd.C_drew ?_))); (case side2 => exact HC0.out); rintro e w33 ⟨rfl, hb⟩; replace HB := Aside0.mk (below_step (dL_ HB) hb)))
  go_ret3
  exact ⟨_, _, tE_, by first | exact Kd.R_nil _ _ _ _ _ | exact Kd.N_nil _ _ _ _ _ | exact Kd.V_nil _ _ _ _ _ | exact Kd.Q_nil _ _ _ _ _ | exact Kd.S_nil _ _ _ _ _, by first | exact Kd.R_nil _ _ _ _ _ | exact Kd.N_nil _ _ _ _ _ | exact Kd.V_nil _ _ _ _ _ | exact Kd.Q_nil _ _ _ _ _ | exact Kd.S_nil _ _ _ _ _, dL_ HB⟩

end Go.Proofs.Ytnkgelnkoljgdaa.Q

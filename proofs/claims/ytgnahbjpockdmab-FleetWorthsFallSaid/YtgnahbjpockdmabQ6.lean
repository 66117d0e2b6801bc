-- PRINTED by print.py out of the translation. Not trusted: Lean checks it.
import Derived.Test.YtgnahbjpockdmabPrs
import Derived.Test.YtgnahbjpockdmabQ0
namespace Go.Proofs.Ytgnahbjpockdmab.Q
open Go.RowKit Go.Proofs.YtgnahbjpockdmabPrs Go.Proofs.YtgnahbjpockdmabOwn Go.Proofs.YtgnahbjpockdmabW.PrintWords Go.Proofs.YtgnahbjpockdmabW.PrintLast Go.Proofs.YtgnahbjpockdmabW.PrintMore
attribute [local go_sem] max2_int min2_int max_two min_two max_three min_three max_four min_four   -- for this text's walks alone
set_option linter.unusedVariables false
set_option linter.unusedSimpArgs false

/-! ### fleet_named: function 54 -/
mutual
def fleet_named.l0 : Nat → ByteArray → Int → Int → Option (Bool)
  | 0, _, _, _ => none
  | k + 1, x0, x5, x6 => if x6 < x5 then (if 0 ≤ x6 then (if x6 < (x0.size : Int) then (if (bt x0 x6) < 97 then (fleet_named.j1 k x0 x5 x6 true) else (fleet_named.j1 k x0 x5 x6 (decide ((bt x0 x6) > 122)))) else (none)) else (none)) else (if x0.toList = ([] : List UInt8) then (some false) else (some (decide ((x0.size : Int) ≤ 12))))
def fleet_named.j1 : Nat → ByteArray → Int → Int → Bool → Option (Bool)
  | 0, _, _, _, _ => none
  | k + 1, x0, x5, x6, x18 => if x18 = true then (some false) else (fleet_named.l0 k x0 x5 (wrap64 (x6 + 1)))
end
def fleet_named.f (k : Nat) (a0 : ByteArray) : Option (Bool) := fleet_named.l0 k a0 (a0.size : Int) 0
theorem fleet_named.mono_l : ∀ k, (∀ y0 y1 y2, LeO (fleet_named.l0 k y0 y1 y2) (fleet_named.l0 (k + 1) y0 y1 y2)) ∧ (∀ y0 y1 y2 y3, LeO (fleet_named.j1 k y0 y1 y2 y3) (fleet_named.j1 (k + 1) y0 y1 y2 y3))
  | 0 => ⟨fun _ _ _ r h => by simp [fleet_named.l0] at h, fun _ _ _ _ r h => by simp [fleet_named.j1] at h⟩
  | k + 1 => by
    obtain ⟨ih0, ih1⟩ := fleet_named.mono_l k
    refine ⟨?_, ?_⟩
    · intro y0 y1 y2
      unfold fleet_named.l0
      repeat' first
      | (with_reducible first | exact ih0 _ _ _ | exact ih1 _ _ _ _ | exact LeO.refl _ | exact LeO.none _ | refine LeO.ite ?_ ?_ | refine LeO.bind ?_ (fun _ => ?_))
      | exact ih0 _ _ _
      | exact ih1 _ _ _ _
      | exact LeO.none _
      | refine LeO.ite ?_ ?_
      | refine LeO.bind ?_ (fun _ => ?_)
    · intro y0 y1 y2 y3
      unfold fleet_named.j1
      repeat' first
      | (with_reducible first | exact ih0 _ _ _ | exact ih1 _ _ _ _ | exact LeO.refl _ | exact LeO.none _ | refine LeO.ite ?_ ?_ | refine LeO.bind ?_ (fun _ => ?_))
      | exact ih0 _ _ _
      | exact ih1 _ _ _ _
      | exact LeO.none _
      | refine LeO.ite ?_ ?_
      | refine LeO.bind ?_ (fun _ => ?_)
theorem fleet_named.mono : ∀ a0 k, LeO (fleet_named.f k a0) (fleet_named.f (k + 1) a0) := by
  intro a0 k
  obtain ⟨ih0, ih1⟩ := fleet_named.mono_l k
  unfold fleet_named.f
  repeat' first
      | (with_reducible first | exact ih0 _ _ _ | exact ih1 _ _ _ _ | exact LeO.refl _ | exact LeO.none _ | refine LeO.ite ?_ ?_ | refine LeO.bind ?_ (fun _ => ?_))
      | exact ih0 _ _ _
      | exact ih1 _ _ _ _
      | exact LeO.none _
      | refine LeO.ite ?_ ?_
      | refine LeO.bind ?_ (fun _ => ?_)
set_option maxHeartbeats 8000000 in
set_option maxRecDepth 100000 in
theorem fleet_named.calls (k : Nat) (a0 : ByteArray) (r : Bool) (w : World) (h : fleet_named.f k a0 = some r) :
    Calls Try.prog 54 #[.string a0] w fun e w' => e = .returned (.bool r) ∧ Drawn0 w w' := by
 have H : (fleet_named.l0 k a0 (a0.size : Int) 0) = some r := h
 clear h
 have H' := Aside0.mk H
 clear H
 go_enter Try.func54, Try.ntmps54
 go_wp2
 go_loopg [6] k (fun kq v6 w' => ∃ (x6_1 : Int), v6 = .int .i64 x6_1 ∧ Aside0 (fleet_named.l0 kq a0 (a0.size : Int) x6_1 = some r) ∧ Aside0 (kq ≤ k) ∧ Drawn0 w w')
 case atStart => exact ⟨(0), tS_, H', ⟨Nat.le_refl _⟩, by repeat (first | exact Drawn0.refl _ | apply Drawn0.step)⟩
 case round =>
  clear H'
  obtain ⟨x6_1, rfl, HA, HK1, ⟨m1, rfl⟩⟩ := hrel
  cases gk with
  | zero => exact absurd HA.out (by simp [fleet_named.l0])
  | succ k1 =>
   have H := HA.out
   clear HA
   simp only [fleet_named.l0] at H
   by_cases c2 : x6_1 < (a0.size : Int)
   ·rw [if_pos c2] at H
    have c2b0 : decide (x6_1 < (a0.size : Int)) = true := decide_eq_true c2
    clear c2
    have HC3 := Aside0.mk H
    clear H
    go_upto_region 4 with (fail)
    go_cut [18] (fun v18 wc => ∃ (kq : Nat) (x18_2 : Bool), v18 = .bool x18_2 ∧ Aside0 (fleet_named.j1 kq a0 (a0.size : Int) x6_1 x18_2 = some r) ∧ Aside0 (kq ≤ k1) ∧ Drawn0 w wc)
    case first =>
     have H := HC3.out
     clear HC3
     by_cases c4 : 0 ≤ x6_1
     ·rw [if_pos c4] at H
      have c4b0 : decide (0 ≤ x6_1) = true := decide_eq_true c4
      clear c4
      (first | rw [c4b0] | (simp only [i64_w, i32_w]; rw [c4b0]) | skip)
      by_cases c5 : x6_1 < (a0.size : Int)
      ·rw [if_pos c5] at H
       have c5b0 : decide (x6_1 < (a0.size : Int)) = true := decide_eq_true c5
       clear c5
       by_cases c7 : (bt a0 x6_1) < 97
       ·rw [if_pos c7] at H
        have c7b0 : decide ((bt a0 x6_1) < 97) = true := decide_eq_true c7
        clear c7
        have H' := Aside0.mk H
        clear H
        have p6 : 0 ≤ (x6_1 : Int) := of_decide_eq_true tW_
        have q6 : x6_1 < (a0.size : Int) := of_decide_eq_true tW_
        have hx6 := bt_at a0 x6_1
        replace p6 := eq_true p6
        replace q6 := eq_true q6
        go_wp2
        go_meet
        case rel => exact ⟨_, (true), tS_, H', ⟨by have := HK1.out; first | omega | exact Nat.le_refl _⟩, by repeat (first | exact Drawn0.refl _ | apply Drawn0.step)⟩
       ·rw [if_neg c7] at H
        have c7b0 : decide ((bt a0 x6_1) < 97) = false := decide_eq_false c7
        clear c7
        have H' := Aside0.mk H
        clear H
        have p6 : 0 ≤ (x6_1 : Int) := of_decide_eq_true tW_
        have q6 : x6_1 < (a0.size : Int) := of_decide_eq_true tW_
        have hx6 := bt_at a0 x6_1
        replace p6 := eq_true p6
        replace q6 := eq_true q6
        have p8 : 0 ≤ (x6_1 : Int) := of_decide_eq_true tW_
        have q8 : x6_1 < (a0.size : Int) := of_decide_eq_true tW_
        have hx8 := bt_at a0 x6_1
        replace p8 := eq_true p8
        replace q8 := eq_true q8
        go_wp2
        go_meet
        case rel => exact ⟨_, (decide ((bt a0 x6_1) > 122)), tS_, H', ⟨by have := HK1.out; first | omega | exact Nat.le_refl _⟩, by repeat (first | exact Drawn0.refl _ | apply Drawn0.step)⟩
      ·rw [if_neg c5] at H
       exact absurd H (by simp)
     ·rw [if_neg c4] at H
      exact absurd H (by simp)
    case rest =>
     clear HC3
     try clear c2
     try clear c2b0
     try clear c4
     try clear c5
     try clear c7
     obtain ⟨kq, x18_2, rfl, HA, HJ2, ⟨mc2, rfl⟩⟩ := hcut
     cases kq with
     | zero => exact absurd HA.out (by simp [fleet_named.j1])
     | succ kj2 =>
      have H := HA.out
      clear HA
      simp only [fleet_named.j1] at H
      by_cases c9 : x18_2 = true
      ·subst c9
       have H1 : (some false) = some r := by rw [if_pos rfl] at H; exact H
       clear H
       have H := H1
       clear H1
       obtain rfl := Option.some.inj H
       go_wp2
       go_ret
       exact ⟨tS_, by repeat (first | exact Drawn0.refl _ | apply Drawn0.step)⟩
      ·replace c9 := Bool.eq_false_iff.mpr c9
       subst c9
       have H1 : (fleet_named.l0 kj2 a0 (a0.size : Int) (wrap64 (x6_1 + 1))) = some r := by rw [if_neg (show ¬ (false = true) by decide)] at H; exact H
       clear H
       have H := H1
       clear H1
       have H' := Aside0.mk H
       clear H
       go_wp2
       go_roundg kj2
       case measure => have := HK1.out; have := HJ2.out; omega
       case rel => exact ⟨(wrap64 (x6_1 + 1)), tS_, H', ⟨by have := HK1.out; have := HJ2.out; omega⟩, by repeat (first | exact Drawn0.refl _ | apply Drawn0.step)⟩
   ·rw [if_neg c2] at H
    have c2b0 : decide (x6_1 < (a0.size : Int)) = false := decide_eq_false c2
    clear c2
    by_cases c10 : a0.toList = ([] : List UInt8)
    ·rw [if_pos c10] at H
     have c10b0 : (a0.toList == ([] : List UInt8)) = true := beq_iff_eq.mpr c10
     have c10b1 : (a0.toList != ([] : List UInt8)) = false := bne_eq_false_iff_eq.mpr c10
     clear c10
     obtain rfl := Option.some.inj H
     go_wp2
     go_ret
     exact ⟨tS_, by repeat (first | exact Drawn0.refl _ | apply Drawn0.step)⟩
    ·rw [if_neg c10] at H
     have c10b0 : (a0.toList == ([] : List UInt8)) = false := beq_eq_false_iff_ne.mpr c10
     have c10b1 : (a0.toList != ([] : List UInt8)) = true := bne_iff_ne.mpr c10
     obtain rfl := Option.some.inj H
     go_wp2
     go_ret
     exact ⟨tS_, by repeat (first | exact Drawn0.refl _ | apply Drawn0.step)⟩

end Go.Proofs.Ytgnahbjpockdmab.Q
namespace Go.Proofs.Ytgnahbjpockdmab.Q
open Go.RowKit Go.Proofs.YtgnahbjpockdmabOwn Go.Proofs.YtgnahbjpockdmabW.PrintWords Go.Proofs.YtgnahbjpockdmabW.PrintLast Go.Proofs.YtgnahbjpockdmabW.PrintMore
attribute [local go_sem] max2_int min2_int max_two min_two max_three min_three max_four min_four   -- for this text's walks alone
set_option linter.unusedVariables false
set_option linter.unusedSimpArgs false

/-! ### fleet_engine_add: function 72 -/
def fleet_engine_add.sp (a s : Int) : Int := if a > 0 then (if s = 0 then a else if a < s then a else s) else s
def fleet_engine_add.cnd (a s : Int) : Bool := decide (a > 0) && (decide (s = 0) || decide (a < s))
def fleet_engine_add.f (a0_0 : ByteArray) (a0_1 : Int) (a0_2 : Int) (a0_3 : Int) (a0_4 : Int) (a0_5 : Int) (a0_6 : Int) (a0_7 : Int) (a0_8 : Int) (a0_9 : Int) (a0_10 : Int) (a0_11 : Int) (a0_12 : Int) (a0_13 : Bool) (s0 : Int) (s1 : Int) (s2 : Int) (s3 : Int) (s4 : Int) (s5 : Int) (s6 : Int) (s7 : Bool) : Option (Int × Int × Int × Int × Int × Int × Int × Bool) :=
  some (fleet_engine_add.sp a0_2 s0, wrap64 (s1 + a0_3), wrap64 (s2 + a0_4), wrap64 (s3 + a0_5), wrap64 (s4 + a0_8), wrap64 (s5 + a0_9), wrap64 (s6 + a0_10), (s7 || a0_13))
/-- What a call leaves that writes one variable (block g) alone: its new cells, all else as it was. -/
structure Left72 (g : Nat) (new : Array Value) (w w' : World) : Prop where
  blk : w'.heap[g]? = some (.cells new 42 (0, 0))
  oth : ∀ i o, i ≠ g → w.heap[i]? = some o → w'.heap[i]? = some o
  bel : ∀ B w0, Below B w0 w → B ≤ g → Below B w0 w'
theorem Left72.refl {g : Nat} {cs : Array Value} {w : World} (h : w.heap[g]? = some (.cells cs 42 (0, 0))) : Left72 g cs w w := ⟨h, fun _ _ _ h => h, fun _ _ h _ => h⟩
theorem blk_any {w w1 : World} {g : Nat} {o : Obj} (h : w.heap[g]? = some o) (hb : Below w.heap.size w w1) : w1.heap[g]? = some o := (hb.block g (blk_lt h)).trans h
theorem Left72.below {g : Nat} {cs : Array Value} {w w1 w2 : World} (h : Left72 g cs w w1) (hb : Below w1.heap.size w1 w2) : Left72 g cs w w2 := ⟨blk_below h.blk hb, fun i o hi ho => blk_any (h.oth i o hi ho) hb, fun B w0 h0 hg => (h.bel B w0 h0 hg).trans (hb.mono (Nat.le_of_lt (Nat.lt_of_le_of_lt hg (blk_lt h.blk))))⟩
theorem Left72.drewN {g : Nat} {cs : Array Value} {w w1 : World} (h : Left72 g cs w w1) (n : Nat) : Left72 g cs w (w1.drewN n) := ⟨h.blk, h.oth, fun B w0 h0 hg => pw_below_drewN (h.bel B w0 h0 hg) n⟩
theorem Left72.set {g : Nat} {cs cs' : Array Value} {w w1 : World} (h : Left72 g cs w w1) (i : Nat) (u : Value) (e : cs.setIfInBounds i u = cs') : Left72 g cs' w (w1.setCell ⟨g, i, none⟩ u) := ⟨blk_put h.blk i u e, fun j o hj ho => (Below.heap_setCell w1 ⟨g, i, none⟩ u j hj).trans (h.oth j o hj ho), fun B w0 h0 hg => (h.bel B w0 h0 hg).setCell hg _⟩
theorem Left72.over {g b T : Nat} {cs cs2 new : Array Value} {w w1 w2 : World} (h : Left72 g cs w w1) (hn : ∀ o, w.heap[b]? ≠ some o) (hgb : b ≠ g) (ho : ∀ i, i ≠ b → w2.heap[i]? = w1.heap[i]?) (hB : ∀ {B : Nat} {w0 : World}, Below B w0 w1 → B ≤ b → Below B w0 w2) (hle : g ≤ b) : Left72 g cs w w2 := ⟨(ho g (Ne.symm hgb)).trans h.blk, fun i o hi hq => (ho i (fun e => hn o (e ▸ hq))).trans (h.oth i o hi hq), fun B w0 h0 hg => hB (h.bel B w0 h0 hg) (Nat.le_trans hg hle)⟩
theorem Left72.drew {g : Nat} {cs : Array Value} {w w1 : World} (h : Left72 g cs w w1) : Left72 g cs w w1.drew := ⟨h.blk, h.oth, fun B w0 h0 hg => below_drew1 (h.bel B w0 h0 hg)⟩
theorem fleet_engine_add.sp_yes {a s : Int} (h : fleet_engine_add.cnd a s = true) : fleet_engine_add.sp a s = a := by
  unfold fleet_engine_add.cnd at h; unfold fleet_engine_add.sp
  simp at h
  rw [if_pos h.1]; split
  · rfl
  · rw [if_pos (by omega)]
theorem fleet_engine_add.sp_no {a s : Int} (h : ¬ fleet_engine_add.cnd a s = true) : fleet_engine_add.sp a s = s := by
  unfold fleet_engine_add.cnd at h; unfold fleet_engine_add.sp
  simp at h
  split
  · rename_i h1; have := h h1; rw [if_neg this.1, if_neg (by omega)]
  · rfl
theorem wp_gen {P : Program} {c : Code} {a : Act} {W : World} {Q : Exit → Act → World → Prop} (h : ∀ w1, w1 = W → Code.wp P c Q a w1) : Code.wp P c Q a W := h W rfl
theorem Left72.other {g b i : Nat} {cs : Array Value} {w w1 : World} (hgb : b ≠ g) (hn : ∀ o, w.heap[b]? ≠ some o) (hle : g ≤ b) (u : Value) (h : Left72 g cs w w1) : Left72 g cs w (w1.setCell ⟨b, i, none⟩ u) := ⟨blk_far h.blk (Ne.symm hgb) u, fun j o hj ho => (Below.heap_setCell w1 ⟨b, i, none⟩ u j (fun (e : j = b) => hn o (e ▸ ho))).trans (h.oth j o hj ho), fun B w0 h0 hg => (h.bel B w0 h0 hg).setCell (Nat.le_trans hg hle) _⟩
set_option maxHeartbeats 8000000 in
set_option maxRecDepth 100000 in
theorem fleet_engine_add.calls0 (a0_0 : ByteArray) (a0_1 : Int) (a0_2 : Int) (a0_3 : Int) (a0_4 : Int) (a0_5 : Int) (a0_6 : Int) (a0_7 : Int) (a0_8 : Int) (a0_9 : Int) (a0_10 : Int) (a0_11 : Int) (a0_12 : Int) (a0_13 : Bool) (s0 : Int) (s1 : Int) (s2 : Int) (s3 : Int) (s4 : Int) (s5 : Int) (s6 : Int) (s7 : Bool) (g : Nat) (w : World) (hg0 : w.heap[g]? = some (.cells #[.int .i64 s0, .int .i64 s1, .int .i64 s2, .int .i64 s3, .int .i64 s4, .int .i64 s5, .int .i64 s6, .bool s7] 42 (0, 0))) :
    Calls Try.prog 72 #[.agg #[.string a0_0, .int .i64 a0_1, .int .i64 a0_2, .int .i64 a0_3, .int .i64 a0_4, .int .i64 a0_5, .int .i64 a0_6, .int .i64 a0_7, .int .i64 a0_8, .int .i64 a0_9, .int .i64 a0_10, .int .i64 a0_11, .int .i64 a0_12, .bool a0_13], .pointer (some ⟨g, 0, none⟩)] w fun e w' => e = .returned (.tuple #[]) ∧ Left72 g #[.int .i64 (fleet_engine_add.sp a0_2 s0), .int .i64 (wrap64 (s1 + a0_3)), .int .i64 (wrap64 (s2 + a0_4)), .int .i64 (wrap64 (s3 + a0_5)), .int .i64 (wrap64 (s4 + a0_8)), .int .i64 (wrap64 (s5 + a0_9)), .int .i64 (wrap64 (s6 + a0_10)), .bool (s7 || a0_13)] w w' := by
 have LF := Aside0.mk (Left72.refl hg0)
 have hgl := Aside0.mk (blk_lt hg0)
 clear hg0
 go_enter Try.func72, Try.ntmps72
 go_upto_region 2 with (first | ((with_reducible refine gate_dst (N := 2) rfl ?_); refine box_event ?hg (N := 2) ?hd (cs := #[.string a0_0, .int .i64 a0_1, .int .i64 a0_2, .int .i64 a0_3, .int .i64 a0_4, .int .i64 a0_5, .int .i64 a0_6, .int .i64 a0_7, .int .i64 a0_8, .int .i64 a0_9, .int .i64 a0_10, .int .i64 a0_11, .int .i64 a0_12, .bool a0_13]) (t := 71) ?hr ?_; (case hd => rfl); (case hg => rfl); (case hr => first | (go_simp; done) | (go_simp; rfl)); intro b1 hg1 w1 hbox1 hb1; have n0_ := Aside0.mk (LF.out.below hb1); have HN1 := Aside0.mk (show w.heap.size ≤ b1 by rw [hg1]; exact Nat.le_refl _); clear LF; have LF := n0_; clear n0_; have hc1_0 : w1.cell? ⟨b1, 0, none⟩ = some (.string a0_0) := (blk_cell hbox1 0).trans rfl; have hc1_1 : w1.cell? ⟨b1, 1, none⟩ = some (.int .i64 a0_1) := (blk_cell hbox1 1).trans rfl; have hc1_2 : w1.cell? ⟨b1, 2, none⟩ = some (.int .i64 a0_2) := (blk_cell hbox1 2).trans rfl; have hc1_3 : w1.cell? ⟨b1, 3, none⟩ = some (.int .i64 a0_3) := (blk_cell hbox1 3).trans rfl; have hc1_4 : w1.cell? ⟨b1, 4, none⟩ = some (.int .i64 a0_4) := (blk_cell hbox1 4).trans rfl; have hc1_5 : w1.cell? ⟨b1, 5, none⟩ = some (.int .i64 a0_5) := (blk_cell hbox1 5).trans rfl; have hc1_6 : w1.cell? ⟨b1, 6, none⟩ = some (.int .i64 a0_6) := (blk_cell hbox1 6).trans rfl; have hc1_7 : w1.cell? ⟨b1, 7, none⟩ = some (.int .i64 a0_7) := (blk_cell hbox1 7).trans rfl; have hc1_8 : w1.cell? ⟨b1, 8, none⟩ = some (.int .i64 a0_8) := (blk_cell hbox1 8).trans rfl; have hc1_9 : w1.cell? ⟨b1, 9, none⟩ = some (.int .i64 a0_9) := (blk_cell hbox1 9).trans rfl; have hc1_10 : w1.cell? ⟨b1, 10, none⟩ = some (.int .i64 a0_10) := (blk_cell hbox1 10).trans rfl; have hc1_11 : w1.cell? ⟨b1, 11, none⟩ = some (.int .i64 a0_11) := (blk_cell hbox1 11).trans rfl; have hc1_12 : w1.cell? ⟨b1, 12, none⟩ = some (.int .i64 a0_12) := (blk_cell hbox1 12).trans rfl; have hc1_13 : w1.cell? ⟨b1, 13, none⟩ = some (.bool a0_13) := (blk_cell hbox1 13).trans rfl; have hb1s := Aside0.mk hb1.size; clear hg1 hb1) | ((with_reducible refine gate_dst (N := 4) rfl ?_); refine box_event ?hg (N := 4) ?hd (cs := #[.string ⟨#[]⟩, .int .i64 0, .int .i64 0, .int .i64 0, .int .i64 0, .int .i64 0, .int .i64 0, .int .i64 0, .int .i64 0, .int .i64 0, .int .i64 0, .int .i64 0, .int .i64 0, .bool false]) (t := 52) ?hr ?_; (case hd => rfl); (case hg => rfl); (case hr => first | (go_simp; done) | (go_simp; rfl)); intro b2 hg2 w2 hbox2 hb2; have n0_ := Aside0.mk (LF.out.below hb2); have HN2 := Aside0.mk (show w.heap.size ≤ b2 by rw [hg2]; exact hb1s.out); clear LF; have LF := n0_; have HBX := Aside0.mk hbox2; have hc2_0 : w2.cell? ⟨b2, 0, none⟩ = some (.string ⟨#[]⟩) := (blk_cell hbox2 0).trans rfl; have hf2_0 := blk_frozen hbox2 0; have hc2_1 : w2.cell? ⟨b2, 1, none⟩ = some (.int .i64 0) := (blk_cell hbox2 1).trans rfl; have hf2_1 := blk_frozen hbox2 1; have hc2_2 : w2.cell? ⟨b2, 2, none⟩ = some (.int .i64 0) := (blk_cell hbox2 2).trans rfl; have hf2_2 := blk_frozen hbox2 2; have hc2_3 : w2.cell? ⟨b2, 3, none⟩ = some (.int .i64 0) := (blk_cell hbox2 3).trans rfl; have hf2_3 := blk_frozen hbox2 3; have hc2_4 : w2.cell? ⟨b2, 4, none⟩ = some (.int .i64 0) := (blk_cell hbox2 4).trans rfl; have hf2_4 := blk_frozen hbox2 4; have hc2_5 : w2.cell? ⟨b2, 5, none⟩ = some (.int .i64 0) := (blk_cell hbox2 5).trans rfl; have hf2_5 := blk_frozen hbox2 5; have hc2_6 : w2.cell? ⟨b2, 6, none⟩ = some (.int .i64 0) := (blk_cell hbox2 6).trans rfl; have hf2_6 := blk_frozen hbox2 6; have hc2_7 : w2.cell? ⟨b2, 7, none⟩ = some (.int .i64 0) := (blk_cell hbox2 7).trans rfl; have hf2_7 := blk_frozen hbox2 7; have hc2_8 : w2.cell? ⟨b2, 8, none⟩ = some (.int .i64 0) := (blk_cell hbox2 8).trans rfl; have hf2_8 := blk_frozen hbox2 8; have hc2_9 : w2.cell? ⟨b2, 9, none⟩ = some (.int .i64 0) := (blk_cell hbox2 9).trans rfl; have hf2_9 := blk_frozen hbox2 9; have hc2_10 : w2.cell? ⟨b2, 10, none⟩ = some (.int .i64 0) := (blk_cell hbox2 10).trans rfl; have hf2_10 := blk_frozen hbox2 10; have hc2_11 : w2.cell? ⟨b2, 11, none⟩ = some (.int .i64 0) := (blk_cell hbox2 11).trans rfl; have hf2_11 := blk_frozen hbox2 11; have hc2_12 : w2.cell? ⟨b2, 12, none⟩ = some (.int .i64 0) := (blk_cell hbox2 12).trans rfl; have hf2_12 := blk_frozen hbox2 12; have hc2_13 : w2.cell? ⟨b2, 13, none⟩ = some (.bool false) := (blk_cell hbox2 13).trans rfl; have hf2_13 := blk_frozen hbox2 13;  clear n0_ hg2 hb2 hbox2))
 refine wp_gen ?_
 intro w3 hw3
 have BB := Aside0.mk (show w3.heap[b2]? = some (.cells #[.string a0_0, .int .i64 a0_1, .int .i64 a0_2, .int .i64 a0_3, .int .i64 a0_4, .int .i64 a0_5, .int .i64 a0_6, .int .i64 a0_7, .int .i64 a0_8, .int .i64 a0_9, .int .i64 a0_10, .int .i64 a0_11, .int .i64 a0_12, .bool a0_13] 52 (0, 0)) by rw [hw3]; refine blk_put (cs := #[.string a0_0, .int .i64 a0_1, .int .i64 a0_2, .int .i64 a0_3, .int .i64 a0_4, .int .i64 a0_5, .int .i64 a0_6, .int .i64 a0_7, .int .i64 a0_8, .int .i64 a0_9, .int .i64 a0_10, .int .i64 a0_11, .int .i64 a0_12, .bool false]) ?_ 13 _ rfl; refine blk_put (cs := #[.string a0_0, .int .i64 a0_1, .int .i64 a0_2, .int .i64 a0_3, .int .i64 a0_4, .int .i64 a0_5, .int .i64 a0_6, .int .i64 a0_7, .int .i64 a0_8, .int .i64 a0_9, .int .i64 a0_10, .int .i64 a0_11, .int .i64 0, .bool false]) ?_ 12 _ rfl; refine blk_put (cs := #[.string a0_0, .int .i64 a0_1, .int .i64 a0_2, .int .i64 a0_3, .int .i64 a0_4, .int .i64 a0_5, .int .i64 a0_6, .int .i64 a0_7, .int .i64 a0_8, .int .i64 a0_9, .int .i64 a0_10, .int .i64 0, .int .i64 0, .bool false]) ?_ 11 _ rfl; refine blk_put (cs := #[.string a0_0, .int .i64 a0_1, .int .i64 a0_2, .int .i64 a0_3, .int .i64 a0_4, .int .i64 a0_5, .int .i64 a0_6, .int .i64 a0_7, .int .i64 a0_8, .int .i64 a0_9, .int .i64 0, .int .i64 0, .int .i64 0, .bool false]) ?_ 10 _ rfl; refine blk_put (cs := #[.string a0_0, .int .i64 a0_1, .int .i64 a0_2, .int .i64 a0_3, .int .i64 a0_4, .int .i64 a0_5, .int .i64 a0_6, .int .i64 a0_7, .int .i64 a0_8, .int .i64 0, .int .i64 0, .int .i64 0, .int .i64 0, .bool false]) ?_ 9 _ rfl; refine blk_put (cs := #[.string a0_0, .int .i64 a0_1, .int .i64 a0_2, .int .i64 a0_3, .int .i64 a0_4, .int .i64 a0_5, .int .i64 a0_6, .int .i64 a0_7, .int .i64 0, .int .i64 0, .int .i64 0, .int .i64 0, .int .i64 0, .bool false]) ?_ 8 _ rfl; refine blk_put (cs := #[.string a0_0, .int .i64 a0_1, .int .i64 a0_2, .int .i64 a0_3, .int .i64 a0_4, .int .i64 a0_5, .int .i64 a0_6, .int .i64 0, .int .i64 0, .int .i64 0, .int .i64 0, .int .i64 0, .int .i64 0, .bool false]) ?_ 7 _ rfl; refine blk_put (cs := #[.string a0_0, .int .i64 a0_1, .int .i64 a0_2, .int .i64 a0_3, .int .i64 a0_4, .int .i64 a0_5, .int .i64 0, .int .i64 0, .int .i64 0, .int .i64 0, .int .i64 0, .int .i64 0, .int .i64 0, .bool false]) ?_ 6 _ rfl; refine blk_put (cs := #[.string a0_0, .int .i64 a0_1, .int .i64 a0_2, .int .i64 a0_3, .int .i64 a0_4, .int .i64 0, .int .i64 0, .int .i64 0, .int .i64 0, .int .i64 0, .int .i64 0, .int .i64 0, .int .i64 0, .bool false]) ?_ 5 _ rfl; refine blk_put (cs := #[.string a0_0, .int .i64 a0_1, .int .i64 a0_2, .int .i64 a0_3, .int .i64 0, .int .i64 0, .int .i64 0, .int .i64 0, .int .i64 0, .int .i64 0, .int .i64 0, .int .i64 0, .int .i64 0, .bool false]) ?_ 4 _ rfl; refine blk_put (cs := #[.string a0_0, .int .i64 a0_1, .int .i64 a0_2, .int .i64 0, .int .i64 0, .int .i64 0, .int .i64 0, .int .i64 0, .int .i64 0, .int .i64 0, .int .i64 0, .int .i64 0, .int .i64 0, .bool false]) ?_ 3 _ rfl; refine blk_put (cs := #[.string a0_0, .int .i64 a0_1, .int .i64 0, .int .i64 0, .int .i64 0, .int .i64 0, .int .i64 0, .int .i64 0, .int .i64 0, .int .i64 0, .int .i64 0, .int .i64 0, .int .i64 0, .bool false]) ?_ 2 _ rfl; refine blk_put (cs := #[.string a0_0, .int .i64 0, .int .i64 0, .int .i64 0, .int .i64 0, .int .i64 0, .int .i64 0, .int .i64 0, .int .i64 0, .int .i64 0, .int .i64 0, .int .i64 0, .int .i64 0, .bool false]) ?_ 1 _ rfl; refine blk_put (cs := #[.string ⟨#[]⟩, .int .i64 0, .int .i64 0, .int .i64 0, .int .i64 0, .int .i64 0, .int .i64 0, .int .i64 0, .int .i64 0, .int .i64 0, .int .i64 0, .int .i64 0, .int .i64 0, .bool false]) ?_ 0 _ rfl; exact HBX.out)
 have hgb : b2 ≠ g := by have := HN2.out; have := hgl.out; omega
 have n0_ := Aside0.mk (show Left72 g #[.int .i64 s0, .int .i64 s1, .int .i64 s2, .int .i64 s3, .int .i64 s4, .int .i64 s5, .int .i64 s6, .bool s7] w w3 by rw [hw3]; exact Left72.other (fun h => hgb h) (fun o ho => by have := blk_lt ho; have := HN2.out; omega) (by have := HN2.out; have := hgl.out; omega) _ (Left72.other (fun h => hgb h) (fun o ho => by have := blk_lt ho; have := HN2.out; omega) (by have := HN2.out; have := hgl.out; omega) _ (Left72.other (fun h => hgb h) (fun o ho => by have := blk_lt ho; have := HN2.out; omega) (by have := HN2.out; have := hgl.out; omega) _ (Left72.other (fun h => hgb h) (fun o ho => by have := blk_lt ho; have := HN2.out; omega) (by have := HN2.out; have := hgl.out; omega) _ (Left72.other (fun h => hgb h) (fun o ho => by have := blk_lt ho; have := HN2.out; omega) (by have := HN2.out; have := hgl.out; omega) _ (Left72.other (fun h => hgb h) (fun o ho => by have := blk_lt ho; have := HN2.out; omega) (by have := HN2.out; have := hgl.out; omega) _ (Left72.other (fun h => hgb h) (fun o ho => by have := blk_lt ho; have := HN2.out; omega) (by have := HN2.out; have := hgl.out; omega) _ (Left72.other (fun h => hgb h) (fun o ho => by have := blk_lt ho; have := HN2.out; omega) (by have := HN2.out; have := hgl.out; omega) _ (Left72.other (fun h => hgb h) (fun o ho => by have := blk_lt ho; have := HN2.out; omega) (by have := HN2.out; have := hgl.out; omega) _ (Left72.other (fun h => hgb h) (fun o ho => by have := blk_lt ho; have := HN2.out; omega) (by have := HN2.out; have := hgl.out; omega) _ (Left72.other (fun h => hgb h) (fun o ho => by have := blk_lt ho; have := HN2.out; omega) (by have := HN2.out; have := hgl.out; omega) _ (Left72.other (fun h => hgb h) (fun o ho => by have := blk_lt ho; have := HN2.out; omega) (by have := HN2.out; have := hgl.out; omega) _ (Left72.other (fun h => hgb h) (fun o ho => by have := blk_lt ho; have := HN2.out; omega) (by have := HN2.out; have := hgl.out; omega) _ (Left72.other (fun h => hgb h) (fun o ho => by have := blk_lt ho; have := HN2.out; omega) (by have := HN2.out; have := hgl.out; omega) _ (LF.out)))))))))))))))
 clear LF; have LF := n0_; clear n0_ hw3 HBX; clear hc1_0 hc1_1 hc1_2 hc1_3 hc1_4 hc1_5 hc1_6 hc1_7 hc1_8 hc1_9 hc1_10 hc1_11 hc1_12 hc1_13 hc2_0 hc2_1 hc2_2 hc2_3 hc2_4 hc2_5 hc2_6 hc2_7 hc2_8 hc2_9 hc2_10 hc2_11 hc2_12 hc2_13 hf2_0 hf2_1 hf2_2 hf2_3 hf2_4 hf2_5 hf2_6 hf2_7 hf2_8 hf2_9 hf2_10 hf2_11 hf2_12 hf2_13
 go_cut [25] (fun v25 wc => v25 = .bool (fleet_engine_add.cnd a0_2 s0) ∧ Aside0 (Left72 g #[.int .i64 s0, .int .i64 s1, .int .i64 s2, .int .i64 s3, .int .i64 s4, .int .i64 s5, .int .i64 s6, .bool s7] w wc) ∧ Aside0 (wc.heap[b2]? = some (.cells #[.string a0_0, .int .i64 a0_1, .int .i64 a0_2, .int .i64 a0_3, .int .i64 a0_4, .int .i64 a0_5, .int .i64 a0_6, .int .i64 a0_7, .int .i64 a0_8, .int .i64 a0_9, .int .i64 a0_10, .int .i64 a0_11, .int .i64 a0_12, .bool a0_13] 52 (0, 0))))
 case first =>
  have hb_2 : w3.cell? ⟨b2, 2, none⟩ = some (.int .i64 a0_2) := (blk_cell BB.out 2).trans rfl
  have hb_3 : w3.cell? ⟨b2, 3, none⟩ = some (.int .i64 a0_3) := (blk_cell BB.out 3).trans rfl
  have hb_4 : w3.cell? ⟨b2, 4, none⟩ = some (.int .i64 a0_4) := (blk_cell BB.out 4).trans rfl
  have hb_5 : w3.cell? ⟨b2, 5, none⟩ = some (.int .i64 a0_5) := (blk_cell BB.out 5).trans rfl
  have hb_8 : w3.cell? ⟨b2, 8, none⟩ = some (.int .i64 a0_8) := (blk_cell BB.out 8).trans rfl
  have hb_9 : w3.cell? ⟨b2, 9, none⟩ = some (.int .i64 a0_9) := (blk_cell BB.out 9).trans rfl
  have hb_10 : w3.cell? ⟨b2, 10, none⟩ = some (.int .i64 a0_10) := (blk_cell BB.out 10).trans rfl
  have hb_13 : w3.cell? ⟨b2, 13, none⟩ = some (.bool a0_13) := (blk_cell BB.out 13).trans rfl
  have hs_0 : w3.cell? ⟨g, 0, none⟩ = some (.int .i64 s0) := (blk_cell LF.out.blk 0).trans rfl
  have hs_1 : w3.cell? ⟨g, 1, none⟩ = some (.int .i64 s1) := (blk_cell LF.out.blk 1).trans rfl
  have hs_2 : w3.cell? ⟨g, 2, none⟩ = some (.int .i64 s2) := (blk_cell LF.out.blk 2).trans rfl
  have hs_3 : w3.cell? ⟨g, 3, none⟩ = some (.int .i64 s3) := (blk_cell LF.out.blk 3).trans rfl
  have hs_4 : w3.cell? ⟨g, 4, none⟩ = some (.int .i64 s4) := (blk_cell LF.out.blk 4).trans rfl
  have hs_5 : w3.cell? ⟨g, 5, none⟩ = some (.int .i64 s5) := (blk_cell LF.out.blk 5).trans rfl
  have hs_6 : w3.cell? ⟨g, 6, none⟩ = some (.int .i64 s6) := (blk_cell LF.out.blk 6).trans rfl
  have hs_7 : w3.cell? ⟨g, 7, none⟩ = some (.bool s7) := (blk_cell LF.out.blk 7).trans rfl
  have hz_0 := blk_frozen LF.out.blk 0
  have hz_1 := blk_frozen LF.out.blk 1
  have hz_2 := blk_frozen LF.out.blk 2
  have hz_3 := blk_frozen LF.out.blk 3
  have hz_4 := blk_frozen LF.out.blk 4
  have hz_5 := blk_frozen LF.out.blk 5
  have hz_6 := blk_frozen LF.out.blk 6
  have hz_7 := blk_frozen LF.out.blk 7
  by_cases h1 : a0_2 > 0
  · have h1b : decide (0 < a0_2) = true := decide_eq_true h1
    by_cases h2 : s0 = 0
    · have hc := Aside0.mk (show fleet_engine_add.cnd a0_2 s0 = true by unfold fleet_engine_add.cnd; simp [h1, h2])
      have h2b : (s0 == 0) = true := by simp [h2]
      clear h2
      go_quiet (fail)
      try go_wp2
      go_meet
      case rel => exact ⟨by first | rfl | (rw [hc.out]) | (rw [hc.out]; rfl), ⟨LF.out.drewN _⟩, ⟨BB.out⟩⟩
    · have h2b : (s0 == 0) = false := by simp [h2]
      have hc := Aside0.mk (show fleet_engine_add.cnd a0_2 s0 = decide (a0_2 < s0) by unfold fleet_engine_add.cnd; simp [h1, h2])
      clear h2
      go_quiet (fail)
      try go_wp2
      go_meet
      case rel => exact ⟨by first | rfl | (rw [hc.out]) | (rw [hc.out]; rfl), ⟨LF.out.drewN _⟩, ⟨BB.out⟩⟩
  · have h1b : decide (0 < a0_2) = false := decide_eq_false h1
    have hc := Aside0.mk (show fleet_engine_add.cnd a0_2 s0 = false by unfold fleet_engine_add.cnd; simp [h1])
    go_quiet (fail)
    try go_wp2
    go_meet
    case rel => exact ⟨by first | rfl | (rw [hc.out]) | (rw [hc.out]; rfl), ⟨LF.out.drewN _⟩, ⟨BB.out⟩⟩
 case rest =>
  clear BB LF
  obtain ⟨rfl, LF, BB⟩ := hcut
  have hb_2 : wc.cell? ⟨b2, 2, none⟩ = some (.int .i64 a0_2) := (blk_cell BB.out 2).trans rfl
  have hb_3 : wc.cell? ⟨b2, 3, none⟩ = some (.int .i64 a0_3) := (blk_cell BB.out 3).trans rfl
  have hb_4 : wc.cell? ⟨b2, 4, none⟩ = some (.int .i64 a0_4) := (blk_cell BB.out 4).trans rfl
  have hb_5 : wc.cell? ⟨b2, 5, none⟩ = some (.int .i64 a0_5) := (blk_cell BB.out 5).trans rfl
  have hb_8 : wc.cell? ⟨b2, 8, none⟩ = some (.int .i64 a0_8) := (blk_cell BB.out 8).trans rfl
  have hb_9 : wc.cell? ⟨b2, 9, none⟩ = some (.int .i64 a0_9) := (blk_cell BB.out 9).trans rfl
  have hb_10 : wc.cell? ⟨b2, 10, none⟩ = some (.int .i64 a0_10) := (blk_cell BB.out 10).trans rfl
  have hb_13 : wc.cell? ⟨b2, 13, none⟩ = some (.bool a0_13) := (blk_cell BB.out 13).trans rfl
  have hs_0 : wc.cell? ⟨g, 0, none⟩ = some (.int .i64 s0) := (blk_cell LF.out.blk 0).trans rfl
  have hs_1 : wc.cell? ⟨g, 1, none⟩ = some (.int .i64 s1) := (blk_cell LF.out.blk 1).trans rfl
  have hs_2 : wc.cell? ⟨g, 2, none⟩ = some (.int .i64 s2) := (blk_cell LF.out.blk 2).trans rfl
  have hs_3 : wc.cell? ⟨g, 3, none⟩ = some (.int .i64 s3) := (blk_cell LF.out.blk 3).trans rfl
  have hs_4 : wc.cell? ⟨g, 4, none⟩ = some (.int .i64 s4) := (blk_cell LF.out.blk 4).trans rfl
  have hs_5 : wc.cell? ⟨g, 5, none⟩ = some (.int .i64 s5) := (blk_cell LF.out.blk 5).trans rfl
  have hs_6 : wc.cell? ⟨g, 6, none⟩ = some (.int .i64 s6) := (blk_cell LF.out.blk 6).trans rfl
  have hs_7 : wc.cell? ⟨g, 7, none⟩ = some (.bool s7) := (blk_cell LF.out.blk 7).trans rfl
  have hz_0 := blk_frozen LF.out.blk 0
  have hz_1 := blk_frozen LF.out.blk 1
  have hz_2 := blk_frozen LF.out.blk 2
  have hz_3 := blk_frozen LF.out.blk 3
  have hz_4 := blk_frozen LF.out.blk 4
  have hz_5 := blk_frozen LF.out.blk 5
  have hz_6 := blk_frozen LF.out.blk 6
  have hz_7 := blk_frozen LF.out.blk 7
  go_upto_if 25 with (fail)
  go_cut [] (fun wd => Aside0 (Left72 g #[.int .i64 (fleet_engine_add.sp a0_2 s0), .int .i64 s1, .int .i64 s2, .int .i64 s3, .int .i64 s4, .int .i64 s5, .int .i64 s6, .bool s7] w wd) ∧ Aside0 (wd.heap[b2]? = some (.cells #[.string a0_0, .int .i64 a0_1, .int .i64 a0_2, .int .i64 a0_3, .int .i64 a0_4, .int .i64 a0_5, .int .i64 a0_6, .int .i64 a0_7, .int .i64 a0_8, .int .i64 a0_9, .int .i64 a0_10, .int .i64 a0_11, .int .i64 a0_12, .bool a0_13] 52 (0, 0))))
  case first =>
   by_cases hcd : fleet_engine_add.cnd a0_2 s0 = true
   · have hsp := Aside0.mk (fleet_engine_add.sp_yes hcd)
     rw [hcd]
     clear hcd
     go_wp2
     go_meet
     case rel => rw [hsp.out]; exact ⟨⟨by repeat (first | exact LF.out | apply Left72.drewN | apply Left72.drew | refine Left72.set (cs := #[.int .i64 s0, .int .i64 s1, .int .i64 s2, .int .i64 s3, .int .i64 s4, .int .i64 s5, .int .i64 s6, .bool s7]) ?_ 0 _ rfl)⟩, ⟨by repeat (first | exact BB.out | apply blk_drewN | apply blk_drew | refine blk_far ?_ hgb _)⟩⟩
   · have hsp := Aside0.mk (fleet_engine_add.sp_no hcd)
     have hcd2 := Bool.eq_false_iff.mpr hcd
     rw [hcd2]
     clear hcd hcd2
     go_wp2
     go_meet
     case rel => rw [hsp.out]; exact ⟨⟨by repeat (first | exact LF.out | apply Left72.drewN | apply Left72.drew | refine Left72.set (cs := #[.int .i64 s0, .int .i64 s1, .int .i64 s2, .int .i64 s3, .int .i64 s4, .int .i64 s5, .int .i64 s6, .bool s7]) ?_ 0 _ rfl)⟩, ⟨by repeat (first | exact BB.out | apply blk_drewN | apply blk_drew | refine blk_far ?_ hgb _)⟩⟩
  case rest =>
   clear BB LF hb_2 hb_3 hb_4 hb_5 hb_8 hb_9 hb_10 hb_13 hs_0 hs_1 hs_2 hs_3 hs_4 hs_5 hs_6 hs_7 hz_0 hz_1 hz_2 hz_3 hz_4 hz_5 hz_6 hz_7
   obtain ⟨LF, BB⟩ := hcut
   generalize hsp : fleet_engine_add.sp a0_2 s0 = q0 at LF ⊢
   have HSP := Aside0.mk hsp; clear hsp
   have hb_2 : wc.cell? ⟨b2, 2, none⟩ = some (.int .i64 a0_2) := (blk_cell BB.out 2).trans rfl
   have hb_3 : wc.cell? ⟨b2, 3, none⟩ = some (.int .i64 a0_3) := (blk_cell BB.out 3).trans rfl
   have hb_4 : wc.cell? ⟨b2, 4, none⟩ = some (.int .i64 a0_4) := (blk_cell BB.out 4).trans rfl
   have hb_5 : wc.cell? ⟨b2, 5, none⟩ = some (.int .i64 a0_5) := (blk_cell BB.out 5).trans rfl
   have hb_8 : wc.cell? ⟨b2, 8, none⟩ = some (.int .i64 a0_8) := (blk_cell BB.out 8).trans rfl
   have hb_9 : wc.cell? ⟨b2, 9, none⟩ = some (.int .i64 a0_9) := (blk_cell BB.out 9).trans rfl
   have hb_10 : wc.cell? ⟨b2, 10, none⟩ = some (.int .i64 a0_10) := (blk_cell BB.out 10).trans rfl
   have hb_13 : wc.cell? ⟨b2, 13, none⟩ = some (.bool a0_13) := (blk_cell BB.out 13).trans rfl
   have hs_0 : wc.cell? ⟨g, 0, none⟩ = some (.int .i64 q0) := (blk_cell LF.out.blk 0).trans rfl
   have hs_1 : wc.cell? ⟨g, 1, none⟩ = some (.int .i64 s1) := (blk_cell LF.out.blk 1).trans rfl
   have hs_2 : wc.cell? ⟨g, 2, none⟩ = some (.int .i64 s2) := (blk_cell LF.out.blk 2).trans rfl
   have hs_3 : wc.cell? ⟨g, 3, none⟩ = some (.int .i64 s3) := (blk_cell LF.out.blk 3).trans rfl
   have hs_4 : wc.cell? ⟨g, 4, none⟩ = some (.int .i64 s4) := (blk_cell LF.out.blk 4).trans rfl
   have hs_5 : wc.cell? ⟨g, 5, none⟩ = some (.int .i64 s5) := (blk_cell LF.out.blk 5).trans rfl
   have hs_6 : wc.cell? ⟨g, 6, none⟩ = some (.int .i64 s6) := (blk_cell LF.out.blk 6).trans rfl
   have hs_7 : wc.cell? ⟨g, 7, none⟩ = some (.bool s7) := (blk_cell LF.out.blk 7).trans rfl
   have hz_0 := blk_frozen LF.out.blk 0
   have hz_1 := blk_frozen LF.out.blk 1
   have hz_2 := blk_frozen LF.out.blk 2
   have hz_3 := blk_frozen LF.out.blk 3
   have hz_4 := blk_frozen LF.out.blk 4
   have hz_5 := blk_frozen LF.out.blk 5
   have hz_6 := blk_frozen LF.out.blk 6
   have hz_7 := blk_frozen LF.out.blk 7
   have ew_ := i64_w (s1 + a0_3)
   go_upto_region 4 with (fail)
   go_cut [] (fun we4 => Aside0 (Left72 g #[.int .i64 q0, .int .i64 (wrap64 (s1 + a0_3)), .int .i64 s2, .int .i64 s3, .int .i64 s4, .int .i64 s5, .int .i64 s6, .bool s7] w we4) ∧ Aside0 (we4.heap[b2]? = some (.cells #[.string a0_0, .int .i64 a0_1, .int .i64 a0_2, .int .i64 a0_3, .int .i64 a0_4, .int .i64 a0_5, .int .i64 a0_6, .int .i64 a0_7, .int .i64 a0_8, .int .i64 a0_9, .int .i64 a0_10, .int .i64 a0_11, .int .i64 a0_12, .bool a0_13] 52 (0, 0))))
   case first =>
    go_region
    all_goals (try go_wp2)
    all_goals go_meet
    all_goals (exact ⟨⟨by repeat (first | exact LF.out | apply Left72.drewN | apply Left72.drew | refine Left72.set (cs := #[.int .i64 q0, .int .i64 s1, .int .i64 s2, .int .i64 s3, .int .i64 s4, .int .i64 s5, .int .i64 s6, .bool s7]) ?_ 1 _ rfl)⟩, ⟨by repeat (first | exact BB.out | apply blk_drewN | apply blk_drew | refine blk_far ?_ hgb _)⟩⟩)
   case rest =>
    clear BB LF ew_ hb_2 hb_3 hb_4 hb_5 hb_8 hb_9 hb_10 hb_13 hs_0 hs_1 hs_2 hs_3 hs_4 hs_5 hs_6 hs_7 hz_0 hz_1 hz_2 hz_3 hz_4 hz_5 hz_6 hz_7
    obtain ⟨LF, BB⟩ := hcut
    have hb_2 : wc.cell? ⟨b2, 2, none⟩ = some (.int .i64 a0_2) := (blk_cell BB.out 2).trans rfl
    have hb_3 : wc.cell? ⟨b2, 3, none⟩ = some (.int .i64 a0_3) := (blk_cell BB.out 3).trans rfl
    have hb_4 : wc.cell? ⟨b2, 4, none⟩ = some (.int .i64 a0_4) := (blk_cell BB.out 4).trans rfl
    have hb_5 : wc.cell? ⟨b2, 5, none⟩ = some (.int .i64 a0_5) := (blk_cell BB.out 5).trans rfl
    have hb_8 : wc.cell? ⟨b2, 8, none⟩ = some (.int .i64 a0_8) := (blk_cell BB.out 8).trans rfl
    have hb_9 : wc.cell? ⟨b2, 9, none⟩ = some (.int .i64 a0_9) := (blk_cell BB.out 9).trans rfl
    have hb_10 : wc.cell? ⟨b2, 10, none⟩ = some (.int .i64 a0_10) := (blk_cell BB.out 10).trans rfl
    have hb_13 : wc.cell? ⟨b2, 13, none⟩ = some (.bool a0_13) := (blk_cell BB.out 13).trans rfl
    have hs_0 : wc.cell? ⟨g, 0, none⟩ = some (.int .i64 q0) := (blk_cell LF.out.blk 0).trans rfl
    have hs_1 : wc.cell? ⟨g, 1, none⟩ = some (.int .i64 (wrap64 (s1 + a0_3))) := (blk_cell LF.out.blk 1).trans rfl
    have hs_2 : wc.cell? ⟨g, 2, none⟩ = some (.int .i64 s2) := (blk_cell LF.out.blk 2).trans rfl
    have hs_3 : wc.cell? ⟨g, 3, none⟩ = some (.int .i64 s3) := (blk_cell LF.out.blk 3).trans rfl
    have hs_4 : wc.cell? ⟨g, 4, none⟩ = some (.int .i64 s4) := (blk_cell LF.out.blk 4).trans rfl
    have hs_5 : wc.cell? ⟨g, 5, none⟩ = some (.int .i64 s5) := (blk_cell LF.out.blk 5).trans rfl
    have hs_6 : wc.cell? ⟨g, 6, none⟩ = some (.int .i64 s6) := (blk_cell LF.out.blk 6).trans rfl
    have hs_7 : wc.cell? ⟨g, 7, none⟩ = some (.bool s7) := (blk_cell LF.out.blk 7).trans rfl
    have hz_0 := blk_frozen LF.out.blk 0
    have hz_1 := blk_frozen LF.out.blk 1
    have hz_2 := blk_frozen LF.out.blk 2
    have hz_3 := blk_frozen LF.out.blk 3
    have hz_4 := blk_frozen LF.out.blk 4
    have hz_5 := blk_frozen LF.out.blk 5
    have hz_6 := blk_frozen LF.out.blk 6
    have hz_7 := blk_frozen LF.out.blk 7
    have ew_ := i64_w (s2 + a0_4)
    go_upto_region 5 with (fail)
    go_cut [] (fun we5 => Aside0 (Left72 g #[.int .i64 q0, .int .i64 (wrap64 (s1 + a0_3)), .int .i64 (wrap64 (s2 + a0_4)), .int .i64 s3, .int .i64 s4, .int .i64 s5, .int .i64 s6, .bool s7] w we5) ∧ Aside0 (we5.heap[b2]? = some (.cells #[.string a0_0, .int .i64 a0_1, .int .i64 a0_2, .int .i64 a0_3, .int .i64 a0_4, .int .i64 a0_5, .int .i64 a0_6, .int .i64 a0_7, .int .i64 a0_8, .int .i64 a0_9, .int .i64 a0_10, .int .i64 a0_11, .int .i64 a0_12, .bool a0_13] 52 (0, 0))))
    case first =>
     go_region
     all_goals (try go_wp2)
     all_goals go_meet
     all_goals (exact ⟨⟨by repeat (first | exact LF.out | apply Left72.drewN | apply Left72.drew | refine Left72.set (cs := #[.int .i64 q0, .int .i64 (wrap64 (s1 + a0_3)), .int .i64 s2, .int .i64 s3, .int .i64 s4, .int .i64 s5, .int .i64 s6, .bool s7]) ?_ 2 _ rfl)⟩, ⟨by repeat (first | exact BB.out | apply blk_drewN | apply blk_drew | refine blk_far ?_ hgb _)⟩⟩)
    case rest =>
     clear BB LF ew_ hb_2 hb_3 hb_4 hb_5 hb_8 hb_9 hb_10 hb_13 hs_0 hs_1 hs_2 hs_3 hs_4 hs_5 hs_6 hs_7 hz_0 hz_1 hz_2 hz_3 hz_4 hz_5 hz_6 hz_7
     obtain ⟨LF, BB⟩ := hcut
     have hb_2 : wc.cell? ⟨b2, 2, none⟩ = some (.int .i64 a0_2) := (blk_cell BB.out 2).trans rfl
     have hb_3 : wc.cell? ⟨b2, 3, none⟩ = some (.int .i64 a0_3) := (blk_cell BB.out 3).trans rfl
     have hb_4 : wc.cell? ⟨b2, 4, none⟩ = some (.int .i64 a0_4) := (blk_cell BB.out 4).trans rfl
     have hb_5 : wc.cell? ⟨b2, 5, none⟩ = some (.int .i64 a0_5) := (blk_cell BB.out 5).trans rfl
     have hb_8 : wc.cell? ⟨b2, 8, none⟩ = some (.int .i64 a0_8) := (blk_cell BB.out 8).trans rfl
     have hb_9 : wc.cell? ⟨b2, 9, none⟩ = some (.int .i64 a0_9) := (blk_cell BB.out 9).trans rfl
     have hb_10 : wc.cell? ⟨b2, 10, none⟩ = some (.int .i64 a0_10) := (blk_cell BB.out 10).trans rfl
     have hb_13 : wc.cell? ⟨b2, 13, none⟩ = some (.bool a0_13) := (blk_cell BB.out 13).trans rfl
     have hs_0 : wc.cell? ⟨g, 0, none⟩ = some (.int .i64 q0) := (blk_cell LF.out.blk 0).trans rfl
     have hs_1 : wc.cell? ⟨g, 1, none⟩ = some (.int .i64 (wrap64 (s1 + a0_3))) := (blk_cell LF.out.blk 1).trans rfl
     have hs_2 : wc.cell? ⟨g, 2, none⟩ = some (.int .i64 (wrap64 (s2 + a0_4))) := (blk_cell LF.out.blk 2).trans rfl
     have hs_3 : wc.cell? ⟨g, 3, none⟩ = some (.int .i64 s3) := (blk_cell LF.out.blk 3).trans rfl
     have hs_4 : wc.cell? ⟨g, 4, none⟩ = some (.int .i64 s4) := (blk_cell LF.out.blk 4).trans rfl
     have hs_5 : wc.cell? ⟨g, 5, none⟩ = some (.int .i64 s5) := (blk_cell LF.out.blk 5).trans rfl
     have hs_6 : wc.cell? ⟨g, 6, none⟩ = some (.int .i64 s6) := (blk_cell LF.out.blk 6).trans rfl
     have hs_7 : wc.cell? ⟨g, 7, none⟩ = some (.bool s7) := (blk_cell LF.out.blk 7).trans rfl
     have hz_0 := blk_frozen LF.out.blk 0
     have hz_1 := blk_frozen LF.out.blk 1
     have hz_2 := blk_frozen LF.out.blk 2
     have hz_3 := blk_frozen LF.out.blk 3
     have hz_4 := blk_frozen LF.out.blk 4
     have hz_5 := blk_frozen LF.out.blk 5
     have hz_6 := blk_frozen LF.out.blk 6
     have hz_7 := blk_frozen LF.out.blk 7
     have ew_ := i64_w (s3 + a0_5)
     go_upto_region 6 with (fail)
     go_cut [] (fun we6 => Aside0 (Left72 g #[.int .i64 q0, .int .i64 (wrap64 (s1 + a0_3)), .int .i64 (wrap64 (s2 + a0_4)), .int .i64 (wrap64 (s3 + a0_5)), .int .i64 s4, .int .i64 s5, .int .i64 s6, .bool s7] w we6) ∧ Aside0 (we6.heap[b2]? = some (.cells #[.string a0_0, .int .i64 a0_1, .int .i64 a0_2, .int .i64 a0_3, .int .i64 a0_4, .int .i64 a0_5, .int .i64 a0_6, .int .i64 a0_7, .int .i64 a0_8, .int .i64 a0_9, .int .i64 a0_10, .int .i64 a0_11, .int .i64 a0_12, .bool a0_13] 52 (0, 0))))
     case first =>
      go_region
      all_goals (try go_wp2)
      all_goals go_meet
      all_goals (exact ⟨⟨by repeat (first | exact LF.out | apply Left72.drewN | apply Left72.drew | refine Left72.set (cs := #[.int .i64 q0, .int .i64 (wrap64 (s1 + a0_3)), .int .i64 (wrap64 (s2 + a0_4)), .int .i64 s3, .int .i64 s4, .int .i64 s5, .int .i64 s6, .bool s7]) ?_ 3 _ rfl)⟩, ⟨by repeat (first | exact BB.out | apply blk_drewN | apply blk_drew | refine blk_far ?_ hgb _)⟩⟩)
     case rest =>
      clear BB LF ew_ hb_2 hb_3 hb_4 hb_5 hb_8 hb_9 hb_10 hb_13 hs_0 hs_1 hs_2 hs_3 hs_4 hs_5 hs_6 hs_7 hz_0 hz_1 hz_2 hz_3 hz_4 hz_5 hz_6 hz_7
      obtain ⟨LF, BB⟩ := hcut
      have hb_2 : wc.cell? ⟨b2, 2, none⟩ = some (.int .i64 a0_2) := (blk_cell BB.out 2).trans rfl
      have hb_3 : wc.cell? ⟨b2, 3, none⟩ = some (.int .i64 a0_3) := (blk_cell BB.out 3).trans rfl
      have hb_4 : wc.cell? ⟨b2, 4, none⟩ = some (.int .i64 a0_4) := (blk_cell BB.out 4).trans rfl
      have hb_5 : wc.cell? ⟨b2, 5, none⟩ = some (.int .i64 a0_5) := (blk_cell BB.out 5).trans rfl
      have hb_8 : wc.cell? ⟨b2, 8, none⟩ = some (.int .i64 a0_8) := (blk_cell BB.out 8).trans rfl
      have hb_9 : wc.cell? ⟨b2, 9, none⟩ = some (.int .i64 a0_9) := (blk_cell BB.out 9).trans rfl
      have hb_10 : wc.cell? ⟨b2, 10, none⟩ = some (.int .i64 a0_10) := (blk_cell BB.out 10).trans rfl
      have hb_13 : wc.cell? ⟨b2, 13, none⟩ = some (.bool a0_13) := (blk_cell BB.out 13).trans rfl
      have hs_0 : wc.cell? ⟨g, 0, none⟩ = some (.int .i64 q0) := (blk_cell LF.out.blk 0).trans rfl
      have hs_1 : wc.cell? ⟨g, 1, none⟩ = some (.int .i64 (wrap64 (s1 + a0_3))) := (blk_cell LF.out.blk 1).trans rfl
      have hs_2 : wc.cell? ⟨g, 2, none⟩ = some (.int .i64 (wrap64 (s2 + a0_4))) := (blk_cell LF.out.blk 2).trans rfl
      have hs_3 : wc.cell? ⟨g, 3, none⟩ = some (.int .i64 (wrap64 (s3 + a0_5))) := (blk_cell LF.out.blk 3).trans rfl
      have hs_4 : wc.cell? ⟨g, 4, none⟩ = some (.int .i64 s4) := (blk_cell LF.out.blk 4).trans rfl
      have hs_5 : wc.cell? ⟨g, 5, none⟩ = some (.int .i64 s5) := (blk_cell LF.out.blk 5).trans rfl
      have hs_6 : wc.cell? ⟨g, 6, none⟩ = some (.int .i64 s6) := (blk_cell LF.out.blk 6).trans rfl
      have hs_7 : wc.cell? ⟨g, 7, none⟩ = some (.bool s7) := (blk_cell LF.out.blk 7).trans rfl
      have hz_0 := blk_frozen LF.out.blk 0
      have hz_1 := blk_frozen LF.out.blk 1
      have hz_2 := blk_frozen LF.out.blk 2
      have hz_3 := blk_frozen LF.out.blk 3
      have hz_4 := blk_frozen LF.out.blk 4
      have hz_5 := blk_frozen LF.out.blk 5
      have hz_6 := blk_frozen LF.out.blk 6
      have hz_7 := blk_frozen LF.out.blk 7
      have ew_ := i64_w (s4 + a0_8)
      go_upto_region 7 with (fail)
      go_cut [] (fun we7 => Aside0 (Left72 g #[.int .i64 q0, .int .i64 (wrap64 (s1 + a0_3)), .int .i64 (wrap64 (s2 + a0_4)), .int .i64 (wrap64 (s3 + a0_5)), .int .i64 (wrap64 (s4 + a0_8)), .int .i64 s5, .int .i64 s6, .bool s7] w we7) ∧ Aside0 (we7.heap[b2]? = some (.cells #[.string a0_0, .int .i64 a0_1, .int .i64 a0_2, .int .i64 a0_3, .int .i64 a0_4, .int .i64 a0_5, .int .i64 a0_6, .int .i64 a0_7, .int .i64 a0_8, .int .i64 a0_9, .int .i64 a0_10, .int .i64 a0_11, .int .i64 a0_12, .bool a0_13] 52 (0, 0))))
      case first =>
       go_region
       all_goals (try go_wp2)
       all_goals go_meet
       all_goals (exact ⟨⟨by repeat (first | exact LF.out | apply Left72.drewN | apply Left72.drew | refine Left72.set (cs := #[.int .i64 q0, .int .i64 (wrap64 (s1 + a0_3)), .int .i64 (wrap64 (s2 + a0_4)), .int .i64 (wrap64 (s3 + a0_5)), .int .i64 s4, .int .i64 s5, .int .i64 s6, .bool s7]) ?_ 4 _ rfl)⟩, ⟨by repeat (first | exact BB.out | apply blk_drewN | apply blk_drew | refine blk_far ?_ hgb _)⟩⟩)
      case rest =>
       clear BB LF ew_ hb_2 hb_3 hb_4 hb_5 hb_8 hb_9 hb_10 hb_13 hs_0 hs_1 hs_2 hs_3 hs_4 hs_5 hs_6 hs_7 hz_0 hz_1 hz_2 hz_3 hz_4 hz_5 hz_6 hz_7
       obtain ⟨LF, BB⟩ := hcut
       have hb_2 : wc.cell? ⟨b2, 2, none⟩ = some (.int .i64 a0_2) := (blk_cell BB.out 2).trans rfl
       have hb_3 : wc.cell? ⟨b2, 3, none⟩ = some (.int .i64 a0_3) := (blk_cell BB.out 3).trans rfl
       have hb_4 : wc.cell? ⟨b2, 4, none⟩ = some (.int .i64 a0_4) := (blk_cell BB.out 4).trans rfl
       have hb_5 : wc.cell? ⟨b2, 5, none⟩ = some (.int .i64 a0_5) := (blk_cell BB.out 5).trans rfl
       have hb_8 : wc.cell? ⟨b2, 8, none⟩ = some (.int .i64 a0_8) := (blk_cell BB.out 8).trans rfl
       have hb_9 : wc.cell? ⟨b2, 9, none⟩ = some (.int .i64 a0_9) := (blk_cell BB.out 9).trans rfl
       have hb_10 : wc.cell? ⟨b2, 10, none⟩ = some (.int .i64 a0_10) := (blk_cell BB.out 10).trans rfl
       have hb_13 : wc.cell? ⟨b2, 13, none⟩ = some (.bool a0_13) := (blk_cell BB.out 13).trans rfl
       have hs_0 : wc.cell? ⟨g, 0, none⟩ = some (.int .i64 q0) := (blk_cell LF.out.blk 0).trans rfl
       have hs_1 : wc.cell? ⟨g, 1, none⟩ = some (.int .i64 (wrap64 (s1 + a0_3))) := (blk_cell LF.out.blk 1).trans rfl
       have hs_2 : wc.cell? ⟨g, 2, none⟩ = some (.int .i64 (wrap64 (s2 + a0_4))) := (blk_cell LF.out.blk 2).trans rfl
       have hs_3 : wc.cell? ⟨g, 3, none⟩ = some (.int .i64 (wrap64 (s3 + a0_5))) := (blk_cell LF.out.blk 3).trans rfl
       have hs_4 : wc.cell? ⟨g, 4, none⟩ = some (.int .i64 (wrap64 (s4 + a0_8))) := (blk_cell LF.out.blk 4).trans rfl
       have hs_5 : wc.cell? ⟨g, 5, none⟩ = some (.int .i64 s5) := (blk_cell LF.out.blk 5).trans rfl
       have hs_6 : wc.cell? ⟨g, 6, none⟩ = some (.int .i64 s6) := (blk_cell LF.out.blk 6).trans rfl
       have hs_7 : wc.cell? ⟨g, 7, none⟩ = some (.bool s7) := (blk_cell LF.out.blk 7).trans rfl
       have hz_0 := blk_frozen LF.out.blk 0
       have hz_1 := blk_frozen LF.out.blk 1
       have hz_2 := blk_frozen LF.out.blk 2
       have hz_3 := blk_frozen LF.out.blk 3
       have hz_4 := blk_frozen LF.out.blk 4
       have hz_5 := blk_frozen LF.out.blk 5
       have hz_6 := blk_frozen LF.out.blk 6
       have hz_7 := blk_frozen LF.out.blk 7
       have ew_ := i64_w (s5 + a0_9)
       go_upto_region 8 with (fail)
       go_cut [] (fun we8 => Aside0 (Left72 g #[.int .i64 q0, .int .i64 (wrap64 (s1 + a0_3)), .int .i64 (wrap64 (s2 + a0_4)), .int .i64 (wrap64 (s3 + a0_5)), .int .i64 (wrap64 (s4 + a0_8)), .int .i64 (wrap64 (s5 + a0_9)), .int .i64 s6, .bool s7] w we8) ∧ Aside0 (we8.heap[b2]? = some (.cells #[.string a0_0, .int .i64 a0_1, .int .i64 a0_2, .int .i64 a0_3, .int .i64 a0_4, .int .i64 a0_5, .int .i64 a0_6, .int .i64 a0_7, .int .i64 a0_8, .int .i64 a0_9, .int .i64 a0_10, .int .i64 a0_11, .int .i64 a0_12, .bool a0_13] 52 (0, 0))))
       case first =>
        go_region
        all_goals (try go_wp2)
        all_goals go_meet
        all_goals (exact ⟨⟨by repeat (first | exact LF.out | apply Left72.drewN | apply Left72.drew | refine Left72.set (cs := #[.int .i64 q0, .int .i64 (wrap64 (s1 + a0_3)), .int .i64 (wrap64 (s2 + a0_4)), .int .i64 (wrap64 (s3 + a0_5)), .int .i64 (wrap64 (s4 + a0_8)), .int .i64 s5, .int .i64 s6, .bool s7]) ?_ 5 _ rfl)⟩, ⟨by repeat (first | exact BB.out | apply blk_drewN | apply blk_drew | refine blk_far ?_ hgb _)⟩⟩)
       case rest =>
        clear BB LF ew_ hb_2 hb_3 hb_4 hb_5 hb_8 hb_9 hb_10 hb_13 hs_0 hs_1 hs_2 hs_3 hs_4 hs_5 hs_6 hs_7 hz_0 hz_1 hz_2 hz_3 hz_4 hz_5 hz_6 hz_7
        obtain ⟨LF, BB⟩ := hcut
        have hb_2 : wc.cell? ⟨b2, 2, none⟩ = some (.int .i64 a0_2) := (blk_cell BB.out 2).trans rfl
        have hb_3 : wc.cell? ⟨b2, 3, none⟩ = some (.int .i64 a0_3) := (blk_cell BB.out 3).trans rfl
        have hb_4 : wc.cell? ⟨b2, 4, none⟩ = some (.int .i64 a0_4) := (blk_cell BB.out 4).trans rfl
        have hb_5 : wc.cell? ⟨b2, 5, none⟩ = some (.int .i64 a0_5) := (blk_cell BB.out 5).trans rfl
        have hb_8 : wc.cell? ⟨b2, 8, none⟩ = some (.int .i64 a0_8) := (blk_cell BB.out 8).trans rfl
        have hb_9 : wc.cell? ⟨b2, 9, none⟩ = some (.int .i64 a0_9) := (blk_cell BB.out 9).trans rfl
        have hb_10 : wc.cell? ⟨b2, 10, none⟩ = some (.int .i64 a0_10) := (blk_cell BB.out 10).trans rfl
        have hb_13 : wc.cell? ⟨b2, 13, none⟩ = some (.bool a0_13) := (blk_cell BB.out 13).trans rfl
        have hs_0 : wc.cell? ⟨g, 0, none⟩ = some (.int .i64 q0) := (blk_cell LF.out.blk 0).trans rfl
        have hs_1 : wc.cell? ⟨g, 1, none⟩ = some (.int .i64 (wrap64 (s1 + a0_3))) := (blk_cell LF.out.blk 1).trans rfl
        have hs_2 : wc.cell? ⟨g, 2, none⟩ = some (.int .i64 (wrap64 (s2 + a0_4))) := (blk_cell LF.out.blk 2).trans rfl
        have hs_3 : wc.cell? ⟨g, 3, none⟩ = some (.int .i64 (wrap64 (s3 + a0_5))) := (blk_cell LF.out.blk 3).trans rfl
        have hs_4 : wc.cell? ⟨g, 4, none⟩ = some (.int .i64 (wrap64 (s4 + a0_8))) := (blk_cell LF.out.blk 4).trans rfl
        have hs_5 : wc.cell? ⟨g, 5, none⟩ = some (.int .i64 (wrap64 (s5 + a0_9))) := (blk_cell LF.out.blk 5).trans rfl
        have hs_6 : wc.cell? ⟨g, 6, none⟩ = some (.int .i64 s6) := (blk_cell LF.out.blk 6).trans rfl
        have hs_7 : wc.cell? ⟨g, 7, none⟩ = some (.bool s7) := (blk_cell LF.out.blk 7).trans rfl
        have hz_0 := blk_frozen LF.out.blk 0
        have hz_1 := blk_frozen LF.out.blk 1
        have hz_2 := blk_frozen LF.out.blk 2
        have hz_3 := blk_frozen LF.out.blk 3
        have hz_4 := blk_frozen LF.out.blk 4
        have hz_5 := blk_frozen LF.out.blk 5
        have hz_6 := blk_frozen LF.out.blk 6
        have hz_7 := blk_frozen LF.out.blk 7
        have ew_ := i64_w (s6 + a0_10)
        go_upto_region 9 with (fail)
        go_cut [] (fun we9 => Aside0 (Left72 g #[.int .i64 q0, .int .i64 (wrap64 (s1 + a0_3)), .int .i64 (wrap64 (s2 + a0_4)), .int .i64 (wrap64 (s3 + a0_5)), .int .i64 (wrap64 (s4 + a0_8)), .int .i64 (wrap64 (s5 + a0_9)), .int .i64 (wrap64 (s6 + a0_10)), .bool s7] w we9) ∧ Aside0 (we9.heap[b2]? = some (.cells #[.string a0_0, .int .i64 a0_1, .int .i64 a0_2, .int .i64 a0_3, .int .i64 a0_4, .int .i64 a0_5, .int .i64 a0_6, .int .i64 a0_7, .int .i64 a0_8, .int .i64 a0_9, .int .i64 a0_10, .int .i64 a0_11, .int .i64 a0_12, .bool a0_13] 52 (0, 0))))
        case first =>
         go_region
         all_goals (try go_wp2)
         all_goals go_meet
         all_goals (exact ⟨⟨by repeat (first | exact LF.out | apply Left72.drewN | apply Left72.drew | refine Left72.set (cs := #[.int .i64 q0, .int .i64 (wrap64 (s1 + a0_3)), .int .i64 (wrap64 (s2 + a0_4)), .int .i64 (wrap64 (s3 + a0_5)), .int .i64 (wrap64 (s4 + a0_8)), .int .i64 (wrap64 (s5 + a0_9)), .int .i64 s6, .bool s7]) ?_ 6 _ rfl)⟩, ⟨by repeat (first | exact BB.out | apply blk_drewN | apply blk_drew | refine blk_far ?_ hgb _)⟩⟩)
        case rest =>
         clear BB LF ew_ hb_2 hb_3 hb_4 hb_5 hb_8 hb_9 hb_10 hb_13 hs_0 hs_1 hs_2 hs_3 hs_4 hs_5 hs_6 hs_7 hz_0 hz_1 hz_2 hz_3 hz_4 hz_5 hz_6 hz_7
         obtain ⟨LF, BB⟩ := hcut
         have hb_2 : wc.cell? ⟨b2, 2, none⟩ = some (.int .i64 a0_2) := (blk_cell BB.out 2).trans rfl
         have hb_3 : wc.cell? ⟨b2, 3, none⟩ = some (.int .i64 a0_3) := (blk_cell BB.out 3).trans rfl
         have hb_4 : wc.cell? ⟨b2, 4, none⟩ = some (.int .i64 a0_4) := (blk_cell BB.out 4).trans rfl
         have hb_5 : wc.cell? ⟨b2, 5, none⟩ = some (.int .i64 a0_5) := (blk_cell BB.out 5).trans rfl
         have hb_8 : wc.cell? ⟨b2, 8, none⟩ = some (.int .i64 a0_8) := (blk_cell BB.out 8).trans rfl
         have hb_9 : wc.cell? ⟨b2, 9, none⟩ = some (.int .i64 a0_9) := (blk_cell BB.out 9).trans rfl
         have hb_10 : wc.cell? ⟨b2, 10, none⟩ = some (.int .i64 a0_10) := (blk_cell BB.out 10).trans rfl
         have hb_13 : wc.cell? ⟨b2, 13, none⟩ = some (.bool a0_13) := (blk_cell BB.out 13).trans rfl
         have hs_0 : wc.cell? ⟨g, 0, none⟩ = some (.int .i64 q0) := (blk_cell LF.out.blk 0).trans rfl
         have hs_1 : wc.cell? ⟨g, 1, none⟩ = some (.int .i64 (wrap64 (s1 + a0_3))) := (blk_cell LF.out.blk 1).trans rfl
         have hs_2 : wc.cell? ⟨g, 2, none⟩ = some (.int .i64 (wrap64 (s2 + a0_4))) := (blk_cell LF.out.blk 2).trans rfl
         have hs_3 : wc.cell? ⟨g, 3, none⟩ = some (.int .i64 (wrap64 (s3 + a0_5))) := (blk_cell LF.out.blk 3).trans rfl
         have hs_4 : wc.cell? ⟨g, 4, none⟩ = some (.int .i64 (wrap64 (s4 + a0_8))) := (blk_cell LF.out.blk 4).trans rfl
         have hs_5 : wc.cell? ⟨g, 5, none⟩ = some (.int .i64 (wrap64 (s5 + a0_9))) := (blk_cell LF.out.blk 5).trans rfl
         have hs_6 : wc.cell? ⟨g, 6, none⟩ = some (.int .i64 (wrap64 (s6 + a0_10))) := (blk_cell LF.out.blk 6).trans rfl
         have hs_7 : wc.cell? ⟨g, 7, none⟩ = some (.bool s7) := (blk_cell LF.out.blk 7).trans rfl
         have hz_0 := blk_frozen LF.out.blk 0
         have hz_1 := blk_frozen LF.out.blk 1
         have hz_2 := blk_frozen LF.out.blk 2
         have hz_3 := blk_frozen LF.out.blk 3
         have hz_4 := blk_frozen LF.out.blk 4
         have hz_5 := blk_frozen LF.out.blk 5
         have hz_6 := blk_frozen LF.out.blk 6
         have hz_7 := blk_frozen LF.out.blk 7
         cases s7 with
         | true =>
          go_wp2
          go_end0
          refine ⟨rfl, ?_⟩
          have e7 : (true || a0_13) = true := by simp
          rw [HSP.out, e7]
          repeat (first | exact LF.out | apply Left72.drewN | apply Left72.drew | refine Left72.set (cs := #[.int .i64 q0, .int .i64 (wrap64 (s1 + a0_3)), .int .i64 (wrap64 (s2 + a0_4)), .int .i64 (wrap64 (s3 + a0_5)), .int .i64 (wrap64 (s4 + a0_8)), .int .i64 (wrap64 (s5 + a0_9)), .int .i64 (wrap64 (s6 + a0_10)), .bool true]) ?_ 7 _ rfl)
         | false =>
          go_wp2
          go_end0
          refine ⟨rfl, ?_⟩
          have e7 : (false || a0_13) = a0_13 := by simp
          rw [HSP.out, e7]
          repeat (first | exact LF.out | apply Left72.drewN | apply Left72.drew | refine Left72.set (cs := #[.int .i64 q0, .int .i64 (wrap64 (s1 + a0_3)), .int .i64 (wrap64 (s2 + a0_4)), .int .i64 (wrap64 (s3 + a0_5)), .int .i64 (wrap64 (s4 + a0_8)), .int .i64 (wrap64 (s5 + a0_9)), .int .i64 (wrap64 (s6 + a0_10)), .bool false]) ?_ 7 _ rfl)
/-- A call of a method's expression over an interface value that is known, as one step. -/
theorem methcall_event {P : Program} {ops : Array Oper} {rest : List Oper} {o : Oper} {a : Act} {Q : Exit → Act → World → Prop} {W : World} (hgd : o.guard = none) {N : Tmp} (hN : o.dst = some N) {x y z : Operand} {ts : Array TypeId} (hop : o.op = .call { callee := .value x, args := #[y, z], argTypes := ts })
    {t : TypeId} {nm : String} (hx : a.eval x = .func (.methodOf t nm) #[] #[]) {T : TypeId} {rv pv : Value} (hy : a.eval y = .iface T rv) (hz : a.eval z = pv) {f : FuncId} {fn : Func} (hf : P.funcs[f]? = some fn) (hname : (fn.name == "runtime.NumGoroutine") = false) (hb : fn.body.isSome = true)
    (ht : (match P.underlying t with | some (.interface _) => true | _ => false) = true) (hm : ∀ w : World, (method (P.types.size + Made.depth) T rv nm).run P w = .ok (f, rv) w)
    (h : Calls P f #[rv, pv] W fun e w' => ∃ v, e = .returned v ∧ wpList P ops Q rest (a.put (some N) v) w') : wpList P ops Q (o :: rest) a W := by
  refine wpList_plain hgd fun K hK => ?_
  have he := enters_ hf hname hb #[rv, pv] W
  obtain ⟨ms, ht2⟩ : ∃ ms, P.underlying t = some (.interface ms) := by
    split at ht
    · exact ⟨_, by assumption⟩
    · cases ht
  have hrun : (execOp a.eval o).run P W = .ok (.enter f #[rv, pv]) W := by
    unfold execOp
    simp [hop, resolve, Deferred.ofValue, invoke, hx, hy, hz, callMethod, hm, he, run_underlying ht2, Sem.run_bind]
  unfold Oper.wp
  rw [hrun, Oper.upon_enter]
  refine h.mono fun e w'' hh => ?_
  obtain ⟨v, rfl, hk⟩ := hh
  rw [← hN] at hk
  exact hK _ _ hk
theorem meth72 (rv : Array Value) : ∀ w : World, (method (Try.prog.types.size + Made.depth) 71 (.agg rv) "hinterland/fleet.add").run Try.prog w = .ok (72, .agg rv) w := fun w => by kernel_rfl
theorem fleet_engine_add.calls (a0_0 : ByteArray) (a0_1 : Int) (a0_2 : Int) (a0_3 : Int) (a0_4 : Int) (a0_5 : Int) (a0_6 : Int) (a0_7 : Int) (a0_8 : Int) (a0_9 : Int) (a0_10 : Int) (a0_11 : Int) (a0_12 : Int) (a0_13 : Bool) (s0 : Int) (s1 : Int) (s2 : Int) (s3 : Int) (s4 : Int) (s5 : Int) (s6 : Int) (s7 : Bool) (r0 : Int) (r1 : Int) (r2 : Int) (r3 : Int) (r4 : Int) (r5 : Int) (r6 : Int) (r7 : Bool) (g : Nat) (w : World) (hg0 : w.heap[g]? = some (.cells #[.int .i64 s0, .int .i64 s1, .int .i64 s2, .int .i64 s3, .int .i64 s4, .int .i64 s5, .int .i64 s6, .bool s7] 42 (0, 0))) (h : fleet_engine_add.f a0_0 a0_1 a0_2 a0_3 a0_4 a0_5 a0_6 a0_7 a0_8 a0_9 a0_10 a0_11 a0_12 a0_13 s0 s1 s2 s3 s4 s5 s6 s7 = some (r0, r1, r2, r3, r4, r5, r6, r7)) :
    Calls Try.prog 72 #[.agg #[.string a0_0, .int .i64 a0_1, .int .i64 a0_2, .int .i64 a0_3, .int .i64 a0_4, .int .i64 a0_5, .int .i64 a0_6, .int .i64 a0_7, .int .i64 a0_8, .int .i64 a0_9, .int .i64 a0_10, .int .i64 a0_11, .int .i64 a0_12, .bool a0_13], .pointer (some ⟨g, 0, none⟩)] w fun e w' => e = .returned (.tuple #[]) ∧ Left72 g #[.int .i64 r0, .int .i64 r1, .int .i64 r2, .int .i64 r3, .int .i64 r4, .int .i64 r5, .int .i64 r6, .bool r7] w w' := by
  unfold fleet_engine_add.f at h
  obtain ⟨rfl, rfl, rfl, rfl, rfl, rfl, rfl, rfl⟩ : _ ∧ _ ∧ _ ∧ _ ∧ _ ∧ _ ∧ _ ∧ _ := by simpa only [Option.some.injEq, Prod.mk.injEq] using h
  exact fleet_engine_add.calls0 a0_0 a0_1 a0_2 a0_3 a0_4 a0_5 a0_6 a0_7 a0_8 a0_9 a0_10 a0_11 a0_12 a0_13 s0 s1 s2 s3 s4 s5 s6 s7 g w hg0

end Go.Proofs.Ytgnahbjpockdmab.Q

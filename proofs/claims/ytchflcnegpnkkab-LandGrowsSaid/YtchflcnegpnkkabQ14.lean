-- PRINTED by print.py (a twelfth state) out of the translation. Not trusted: Lean checks it.
import Derived.Test.YtchflcnegpnkkabPrs
import Derived.Test.YtchflcnegpnkkabQ0
namespace Go.Proofs.Ytchflcnegpnkkab.Q
open Go.RowKit Go.Proofs.YtchflcnegpnkkabPrs Go.Proofs.YtchflcnegpnkkabOwn Go.Proofs.YtchflcnegpnkkabW.PrintWords Go.Proofs.YtchflcnegpnkkabW.PrintLast Go.Proofs.YtchflcnegpnkkabW.PrintMore
attribute [local go_sem] max2_int min2_int max_two min_two max_three min_three max_four min_four   -- for this text's walks alone
set_option linter.unusedVariables false
set_option linter.unusedSimpArgs false

/-! ### hinterlandlaw02_flat: function 21 -/
def hinterlandlaw02_flat.l0 : Nat → Int → Int → Int → Int → Int → List Int → Option (Int × Int × List Int)
  | 0, _, _, _, _, _, _ => none
  | k + 1, x2, x15, x16, x176000, x176001, x176002 => if x16 < x15 then (if x176002.length < 17592186044416 then (hinterlandlaw02_flat.l0 k x2 x15 (wrap64 (x16 + 1)) x176000 x176001 (x176002 ++ [x2])) else (none)) else (some (x176000, x176001, x176002))
def hinterlandlaw02_flat.f (k : Nat) (a0 : Int) (a1 : Int) (a2 : Int) : Option (Int × Int × List Int) := hinterlandlaw02_flat.l0 k a2 (wrap64 ((wrap64 (a0 + 1)) * (wrap64 (a1 + 1)))) 0 a0 a1 ([] : List Int)
theorem hinterlandlaw02_flat.mono_l : ∀ k, (∀ y0 y1 y2 y3 y4 y5, LeO (hinterlandlaw02_flat.l0 k y0 y1 y2 y3 y4 y5) (hinterlandlaw02_flat.l0 (k + 1) y0 y1 y2 y3 y4 y5))
  | 0 => fun _ _ _ _ _ _ r h => by simp [hinterlandlaw02_flat.l0] at h
  | k + 1 => by
    have ih0 := hinterlandlaw02_flat.mono_l k
    · intro y0 y1 y2 y3 y4 y5
      unfold hinterlandlaw02_flat.l0
      repeat' first
      | (with_reducible first | exact ih0 _ _ _ _ _ _ | exact LeO.refl _ | exact LeO.none _ | refine LeO.ite ?_ ?_ | refine LeO.bind ?_ (fun _ => ?_))
      | exact ih0 _ _ _ _ _ _
      | exact LeO.none _
      | refine LeO.ite ?_ ?_
      | refine LeO.bind ?_ (fun _ => ?_)
theorem hinterlandlaw02_flat.mono : ∀ a0 a1 a2 k, LeO (hinterlandlaw02_flat.f k a0 a1 a2) (hinterlandlaw02_flat.f (k + 1) a0 a1 a2) := by
  intro a0 a1 a2 k
  have ih0 := hinterlandlaw02_flat.mono_l k
  unfold hinterlandlaw02_flat.f
  repeat' first
      | (with_reducible first | exact ih0 _ _ _ _ _ _ | exact LeO.refl _ | exact LeO.none _ | refine LeO.ite ?_ ?_ | refine LeO.bind ?_ (fun _ => ?_))
      | exact ih0 _ _ _ _ _ _
      | exact LeO.none _
      | refine LeO.ite ?_ ?_
      | refine LeO.bind ?_ (fun _ => ?_)
set_option maxHeartbeats 8000000 in
set_option maxRecDepth 100000 in
theorem hinterlandlaw02_flat.calls (k : Nat) (a0 : Int) (a1 : Int) (a2 : Int) (r1 : Int) (r2 : Int) (r3 : List Int) (w : World) (h : hinterlandlaw02_flat.f k a0 a1 a2 = some (r1, r2, r3)) :
    Calls Try.prog 21 #[.int .i64 a0, .int .i64 a1, .int .i64 a2] w fun e w' => ∃ v2_ : Value, e = .returned (.agg #[.int .i64 r1, .int .i64 r2, v2_]) ∧ Kd.R (Kd.int .i64) 3 w' w.heap.size (fun _ => True) v2_ r3 ∧ Below w.heap.size w w' := by
 have hu24 := Try.underlying24
 have HB := Aside0.mk (Below.refl w.heap.size w)
 have H : (hinterlandlaw02_flat.l0 k a2 (wrap64 ((wrap64 (a0 + 1)) * (wrap64 (a1 + 1)))) 0 a0 a1 ([] : List Int)) = some (r1, r2, r3) := h
 clear h
 have H' := Aside0.mk H
 clear H
 go_enter Try.func21, Try.ntmps21
 go_wp2_with (first | ((with_reducible refine gate_dst (N := 6) rfl ?_); refine box_event ?hg (N := 6) ?hd (cs := #[.int .i64 0, .int .i64 0, .slice none 0 0]) (t := 24) ?hr ?_; (case hd => rfl); (case hg => rfl); (case hr => first | (go_simp; done) | (go_simp; rfl)); intro gb174 hg w4 hbox hb; have BK174 := Aside0.mk (hbox); have GW174 := Aside0.mk ((dS_ hg (dL_ HB) : w.heap.size ≤ gb174)); have GE174 := Aside0.mk ((dS_ hg (dL_ HB) : w.heap.size ≤ gb174)); replace HB := Aside0.mk (below_step (dL_ HB) hb); clear hb hbox hg) | ((with_reducible refine gate_dst (N := 7) rfl ?_); refine box_event ?hg (N := 7) ?hd (cs := #[.int .i64 0, .int .i64 0, .slice none 0 0]) (t := 24) ?hr ?_; (case hd => rfl); (case hg => rfl); (case hr => first | (go_simp; done) | (go_simp; rfl)); intro gb175 hg w5 hbox hb; have BK175 := Aside0.mk (hbox); have GW175 := Aside0.mk ((dS_ hg (dL1_ HB GE174) : w.heap.size ≤ gb175)); have GE175 := Aside0.mk ((dS_ hg (dL1_ HB GE174) : w.heap.size ≤ gb175)); replace HB := Aside0.mk (below_step (dL1_ HB GE174) hb); have NB174_175 := Aside0.mk ((by rw [hg]; exact Nat.ne_of_lt (blk_lt (dB_ BK174)) : gb174 ≠ gb175)); have NB175_174 := Aside0.mk ((by rw [hg]; exact Nat.ne_of_gt (blk_lt (dB_ BK174)) : gb175 ≠ gb174)); replace BK174 := Aside0.mk (blk_below (g := gb174) (o := .cells #[.int .i64 0, .int .i64 0, .slice none 0 0] 24 (0, 0)) (dB_ BK174) hb); clear hb hbox hg; have hnb6 := NB175_174.out; have hnc6 := NB174_175.out; obtain ⟨hcz7_0, hcz7_1, hcz7_2, hfz7_0, hfz7_1, hfz7_2⟩ := cs3_ BK175.out))
 go_loopg [16] k (fun kq v16 w' => ∃ (x16_1 : Int) (x176002_1 : List Int) (u176002 : Value), v16 = .int .i64 x16_1 ∧ Aside0 (hinterlandlaw02_flat.l0 kq a2 (wrap64 ((wrap64 (a0 + 1)) * (wrap64 (a1 + 1)))) x16_1 a0 a1 x176002_1 = some (r1, r2, r3)) ∧ Aside0 (kq ≤ k) ∧ Aside0 (Kd.R (Kd.int .i64) 3 w' w.heap.size (fun _ => True) u176002 x176002_1) ∧ Aside0 (w'.heap[gb174]? = some (.cells #[.int .i64 0, .int .i64 0, (.slice none 0 0)] 24 (0, 0))) ∧ Aside0 (w'.heap[gb175]? = some (.cells #[.int .i64 a0, .int .i64 a1, u176002] 24 (0, 0))) ∧ Aside0 (Below w.heap.size w w'))
 case atStart => exact ⟨(0), (([] : List Int)), (.slice none 0 0), tS_, H', ⟨Nat.le_refl _⟩, ⟨by first | exact Kd.R_nil _ _ _ _ _ | exact Kd.N_nil _ _ _ _ _ | exact Kd.V_nil _ _ _ _ _ | exact Kd.Q_nil _ _ _ _ _ | exact Kd.S_nil _ _ _ _ _⟩, ⟨by (with_reducible repeat (first | refine blk_drewN ?_ _ | refine blk_drew ?_ | refine blk_alloc ?_ _)); refine blk_far ?_ NB174_175.out _; (with_reducible repeat (first | refine blk_drewN ?_ _ | refine blk_drew ?_ | refine blk_alloc ?_ _)); refine blk_far ?_ NB174_175.out _; (with_reducible repeat (first | refine blk_drewN ?_ _ | refine blk_drew ?_ | refine blk_alloc ?_ _)); refine blk_far ?_ NB174_175.out _; (with_reducible repeat (first | refine blk_drewN ?_ _ | refine blk_drew ?_ | refine blk_alloc ?_ _)); exact BK174.out⟩, ⟨by (with_reducible repeat (first | refine blk_drewN ?_ _ | refine blk_drew ?_ | refine blk_alloc ?_ _)); refine blk_put (cs := #[.int .i64 a0, .int .i64 a1, .slice none 0 0]) ?_ 2 _ rfl; (with_reducible repeat (first | refine blk_drewN ?_ _ | refine blk_drew ?_ | refine blk_alloc ?_ _)); refine blk_put (cs := #[.int .i64 a0, .int .i64 0, .slice none 0 0]) ?_ 1 _ rfl; (with_reducible repeat (first | refine blk_drewN ?_ _ | refine blk_drew ?_ | refine blk_alloc ?_ _)); refine blk_put (cs := #[.int .i64 0, .int .i64 0, .slice none 0 0]) ?_ 0 _ rfl; (with_reducible repeat (first | refine blk_drewN ?_ _ | refine blk_drew ?_ | refine blk_alloc ?_ _)); exact BK175.out⟩, ⟨dL2_ HB GE174 GE175⟩⟩
 case round =>
  clear H'
  try clear hcz7_0
  try clear hcz7_1
  try clear hcz7_2
  try clear hfz7_0
  try clear hfz7_1
  try clear hfz7_2
  obtain ⟨x16_1, x176002_1, u176002, rfl, HA, HK1, HO_176002, BK174, BK175, HB⟩ := hrel
  cases gk with
  | zero => exact absurd HA.out (by simp [hinterlandlaw02_flat.l0])
  | succ k1 =>
   have H := HA.out
   clear HA
   simp only [hinterlandlaw02_flat.l0] at H
   by_cases c8 : x16_1 < (wrap64 ((wrap64 (a0 + 1)) * (wrap64 (a1 + 1))))
   ·rw [if_pos c8] at H
    have c8b0 : decide (x16_1 < (wrap64 ((wrap64 (a0 + 1)) * (wrap64 (a1 + 1))))) = true := decide_eq_true c8
    clear c8
    by_cases c9 : x176002_1.length < 17592186044416
    ·rw [if_pos c9] at H
     have LMc9 := Aside0.mk c9
     clear c9
     obtain ⟨y176, hy176⟩ : ∃ y_ : List Int, y_ = (x176002_1 ++ [a2]) := ⟨_, rfl⟩
     replace H : (hinterlandlaw02_flat.l0 k1 a2 (wrap64 ((wrap64 (a0 + 1)) * (wrap64 (a1 + 1)))) (wrap64 (x16_1 + 1)) a0 a1 y176) = some (r1, r2, r3) := by first | (rw [hy176]; with_reducible exact H) | (have H2_ := (Option.bind_some _ _).symm.trans H; rw [hy176]; with_reducible exact H2_) | (have H2_ := (Option.bind_some _ _).symm.trans H; with_reducible exact H2_) | with_reducible exact H | (rw [hy176]; exact H) | exact H
     have Ny176 := Aside0.mk hy176
     clear hy176
     have H' := Aside0.mk H
     clear H
     have hnb10 := NB175_174.out
     have hnc10 := NB174_175.out
     obtain ⟨hcz11_0, hcz11_1, hcz11_2, hfz11_0, hfz11_1, hfz11_2⟩ := cs3_ BK175.out
     go_wp2_with (first | ((with_reducible refine gate_builtin (b := .append) (xs := #[.tmp 19, .tmp 21]) rfl ?_); at_builtin; refine Kd.R_append (Kd.int .i64) (w0 := w) w.heap.size rfl (.tmp 19) (.tmp 21) 22 3 (.int .i64 0) 8 rfl Try.underlying22 info3 rfl (by decide) (by omega) u176002 x176002_1 a2 [.int .i64 a2] (fun _ => True) (fun _ => False) rfl rfl ?aP (fun _ hk => hk.elim) ?aF ?aO ?aB ?aS ?aL ?_; (case aP => exact rfl); (case aB => exact (dL2_ HB GE174 GE175)); (case aF => exact (fun _ _ => trivial)); (case aO => exact (dR_ HO_176002)); (case aS => exact (below_size (dL2_ HB GE174 GE175))); (case aL => have := LMc9.out; omega); intro v177 w12 ho hb hg hat; rw [← Ny176.out] at ho; replace BK174 := Aside0.mk (blk_grown (g := gb174) (o := .cells #[.int .i64 0, .int .i64 0, .slice none 0 0] 24 (0, 0)) (dB_ BK174) hg (Kd.R_ne HO_176002.out BK174.out (by decide))); replace BK175 := Aside0.mk (blk_grown (g := gb175) (o := .cells #[.int .i64 a0, .int .i64 a1, u176002] 24 (0, 0)) (dB_ BK175) hg (Kd.R_ne HO_176002.out BK175.out (by decide))); replace HB := Aside0.mk (hb); have HO178 := Aside0.mk (ho); clear HO_176002; clear ho hb hg hat; obtain ⟨Ao13, co13, eo13⟩ := Kd.R_slice HO178.out; subst eo13; obtain ⟨hcz14_0, hcz14_1, hcz14_2, hfz14_0, hfz14_1, hfz14_2⟩ := cs3_ BK175.out))
     go_roundg k1
     case measure => have := HK1.out; omega
     case rel => exact ⟨(wrap64 (x16_1 + 1)), (y176), (.slice Ao13 y176.length co13), tS_, H', ⟨by have := HK1.out; omega⟩, ⟨by (with_reducible repeat (first | apply Kd.R_alloc | apply Kd.R_drewN | apply Kd.R_drew)); exact Kd.R_mono (Kd.R_far (p := ⟨gb175, 2, none⟩) (Kd.R_types HO178.out BK175.out (by decide)) (fun _ hk => hk.2) (.slice Ao13 y176.length co13)) (fun _ hk => trivial)⟩, ⟨by (with_reducible repeat (first | refine blk_drewN ?_ _ | refine blk_drew ?_ | refine blk_alloc ?_ _)); refine blk_far ?_ NB174_175.out _; (with_reducible repeat (first | refine blk_drewN ?_ _ | refine blk_drew ?_ | refine blk_alloc ?_ _)); exact BK174.out⟩, ⟨by (with_reducible repeat (first | refine blk_drewN ?_ _ | refine blk_drew ?_ | refine blk_alloc ?_ _)); refine blk_put (cs := #[.int .i64 a0, .int .i64 a1, u176002]) ?_ 2 _ rfl; (with_reducible repeat (first | refine blk_drewN ?_ _ | refine blk_drew ?_ | refine blk_alloc ?_ _)); exact BK175.out⟩, ⟨dL2_ HB GE174 GE175⟩⟩
    ·rw [if_neg c9] at H
     exact absurd H (by simp)
   ·rw [if_neg c8] at H
    have c8b0 : decide (x16_1 < (wrap64 ((wrap64 (a0 + 1)) * (wrap64 (a1 + 1))))) = false := decide_eq_false c8
    clear c8
    simp only [Option.some.injEq, Prod.mk.injEq] at H
    obtain ⟨rfl, rfl, rfl⟩ := H
    have hnb15 := NB175_174.out
    have hnc15 := NB174_175.out
    obtain ⟨hcz16_0, hcz16_1, hcz16_2, hfz16_0, hfz16_1, hfz16_2⟩ := cs3_ BK175.out
    obtain ⟨hcz17_0, hcz17_1, hcz17_2, hfz17_0, hfz17_1, hfz17_2⟩ := cs3_ BK174.out
    obtain ⟨Ao18, co18, eo18⟩ := Kd.R_slice HO_176002.out
    subst eo18
    go_wp2
    refine bodyPost_ret (results_cell_row rfl _ _ gb174 24 #[.int .i64 a0, .int .i64 a1, .slice Ao18 x176002_1.length co18] (0, 0) _ rfl (by (with_reducible repeat (first | refine blk_drewN ?_ _ | refine blk_drew ?_ | refine blk_alloc ?_ _)); refine blk_put (cs := #[.int .i64 a0, .int .i64 a1, .slice none 0 0]) ?_ 2 _ rfl; (with_reducible repeat (first | refine blk_drewN ?_ _ | refine blk_drew ?_ | refine blk_alloc ?_ _)); refine blk_put (cs := #[.int .i64 a0, .int .i64 0, .slice none 0 0]) ?_ 1 _ rfl; (with_reducible repeat (first | refine blk_drewN ?_ _ | refine blk_drew ?_ | refine blk_alloc ?_ _)); refine blk_put (cs := #[.int .i64 0, .int .i64 0, .slice none 0 0]) ?_ 0 _ rfl; (with_reducible repeat (first | refine blk_drewN ?_ _ | refine blk_drew ?_ | refine blk_alloc ?_ _)); exact BK174.out) Try.underlying24 rfl (by kernel_rfl)) rfl ?_
    exact ⟨_, tE_, by (with_reducible repeat (first | apply Kd.R_alloc | apply Kd.R_drewN | apply Kd.R_drew)); exact Kd.R_mono (Kd.R_far (p := ⟨gb174, 2, none⟩) (Kd.R_far (p := ⟨gb174, 1, none⟩) (Kd.R_far (p := ⟨gb174, 0, none⟩) (Kd.R_types HO_176002.out BK174.out (by decide)) (fun _ hk => hk.2) (.int .i64 a0)) (fun _ hk => hk.2) (.int .i64 a1)) (fun _ hk => hk.2) (.slice Ao18 x176002_1.length co18)) (fun _ hk => trivial), dL2_ HB GE174 GE175⟩

end Go.Proofs.Ytchflcnegpnkkab.Q

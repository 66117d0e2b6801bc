-- PRINTED by print.py (a twelfth state) out of the translation. Not trusted: Lean checks it.
import Derived.Test.YtchflcnegpnkkaaPrs
import Derived.Test.YtchflcnegpnkkaaQ0
import Derived.Test.YtchflcnegpnkkaaQ5
import Derived.Test.YtchflcnegpnkkaaQ10
import Derived.Test.YtchflcnegpnkkaaQ39
namespace Go.Proofs.Ytchflcnegpnkkaa.Q
open Go.RowKit Go.Proofs.YtchflcnegpnkkaaPrs Go.Proofs.YtchflcnegpnkkaaOwn Go.Proofs.YtchflcnegpnkkaaW.PrintWords Go.Proofs.YtchflcnegpnkkaaW.PrintLast Go.Proofs.YtchflcnegpnkkaaW.PrintMore
attribute [local go_sem] max2_int min2_int max_two min_two max_three min_three max_four min_four   -- for this text's walks alone
set_option linter.unusedVariables false
set_option linter.unusedSimpArgs false

/-! ### hinterlandlaw02_LandSettlesMost: function 10 -/
mutual
def hinterlandlaw02_LandSettlesMost.j0 : Nat → Int → Int → List Int → List Int → Bool → Int → Int → List Int → Option (Bool)
  | 0, _, _, _, _, _, _, _, _ => none
  | k + 1, x0, x1, x2, x3, x29, x530000, x530001, x530002 => if x29 = true then (if (x530002.length : Int) = 0 then ((hinterlandlaw02_known.f k).bind fun t530 => (if t530 = true then (some true) else (some (decide ((x2.length : Int) > 4000))))) else (some (decide ((x2.length : Int) > 4000)))) else ((land_Validate.f k x530000 x530001 x530002).bind fun t531 => (if t531 = 0 then (hinterlandlaw02_LandSettlesMost.j1 k x0 x1 x2 x3 ((x530002.length : Int) != (x2.length : Int)) x530000 x530001 x530002) else (hinterlandlaw02_LandSettlesMost.j1 k x0 x1 x2 x3 true x530000 x530001 x530002)))
def hinterlandlaw02_LandSettlesMost.j1 : Nat → Int → Int → List Int → List Int → Bool → Int → Int → List Int → Option (Bool)
  | 0, _, _, _, _, _, _, _, _ => none
  | k + 1, x0, x1, x2, x3, x52, x530000, x530001, x530002 => if x52 = true then (some false) else ((land_Validate.f k x0 x1 x3).bind fun t532 => (hinterlandlaw02_LandSettlesMost.l0 k x2 x3 (t532 == 0) x2 (x2.length : Int) 0 x530000 x530001 x530002))
def hinterlandlaw02_LandSettlesMost.l0 : Nat → List Int → List Int → Bool → List Int → Int → Int → Int → Int → List Int → Option (Bool)
  | 0, _, _, _, _, _, _, _, _, _ => none
  | k + 1, x2, x3, x11, x59, x60, x61, x530000, x530001, x530002 => if x61 < x60 then (if 0 ≤ x61 then (if x61 < (x59.length : Int) then (if x61 < (x530002.length : Int) then (if (rd x530002 x61) > (mn (mx (rd x59 x61) 0) 15) then (some false) else (if x11 = true then (if x61 < (x3.length : Int) then (hinterlandlaw02_LandSettlesMost.l0 k x2 x3 (decide ((rd x3 x61) ≤ (mn (mx (rd x59 x61) 0) 15))) x59 x60 (wrap64 (x61 + 1)) x530000 x530001 x530002) else (none)) else (hinterlandlaw02_LandSettlesMost.l0 k x2 x3 false x59 x60 (wrap64 (x61 + 1)) x530000 x530001 x530002))) else (none)) else (none)) else (none)) else (hinterlandlaw02_LandSettlesMost.l1 k x3 x11 (x2.length : Int) 0 x530000 x530001 x530002)
def hinterlandlaw02_LandSettlesMost.l1 : Nat → List Int → Bool → Int → Int → Int → Int → List Int → Option (Bool)
  | 0, _, _, _, _, _, _, _ => none
  | k + 1, x3, x11, x87, x88, x530000, x530001, x530002 => if x88 < x87 then (if x11 = true then (if 0 ≤ x88 then (if x88 < (x3.length : Int) then (if x88 < (x530002.length : Int) then (hinterlandlaw02_LandSettlesMost.j4 k x3 x11 x87 x88 (decide ((rd x3 x88) > (rd x530002 x88))) x530000 x530001 x530002) else (none)) else (none)) else (none)) else (hinterlandlaw02_LandSettlesMost.j4 k x3 x11 x87 x88 false x530000 x530001 x530002)) else ((hinterlandlaw02_known.f k).bind fun t536 => (some t536))
def hinterlandlaw02_LandSettlesMost.j4 : Nat → List Int → Bool → Int → Int → Bool → Int → Int → List Int → Option (Bool)
  | 0, _, _, _, _, _, _, _, _ => none
  | k + 1, x3, x11, x87, x88, x103, x530000, x530001, x530002 => if x103 = true then (some false) else (hinterlandlaw02_LandSettlesMost.l1 k x3 x11 x87 (wrap64 (x88 + 1)) x530000 x530001 x530002)
end
def hinterlandlaw02_LandSettlesMost.f (k : Nat) (a0 : Int) (a1 : Int) (l2 : List Int) (l3 : List Int) : Option (Bool) := (land_Settle.f k a0 a1 l2).bind fun bt523 => (if bt523.2.2.2 = 0 then (hinterlandlaw02_LandSettlesMost.j0 k a0 a1 l2 l3 (decide ((l2.length : Int) > 4000)) bt523.1 bt523.2.1 bt523.2.2.1) else (hinterlandlaw02_LandSettlesMost.j0 k a0 a1 l2 l3 true bt523.1 bt523.2.1 bt523.2.2.1))
theorem hinterlandlaw02_LandSettlesMost.mono_l : ∀ k, (∀ y0 y1 y2 y3 y4 y5 y6 y7, LeO (hinterlandlaw02_LandSettlesMost.j0 k y0 y1 y2 y3 y4 y5 y6 y7) (hinterlandlaw02_LandSettlesMost.j0 (k + 1) y0 y1 y2 y3 y4 y5 y6 y7)) ∧ (∀ y0 y1 y2 y3 y4 y5 y6 y7, LeO (hinterlandlaw02_LandSettlesMost.j1 k y0 y1 y2 y3 y4 y5 y6 y7) (hinterlandlaw02_LandSettlesMost.j1 (k + 1) y0 y1 y2 y3 y4 y5 y6 y7)) ∧ (∀ y0 y1 y2 y3 y4 y5 y6 y7 y8, LeO (hinterlandlaw02_LandSettlesMost.l0 k y0 y1 y2 y3 y4 y5 y6 y7 y8) (hinterlandlaw02_LandSettlesMost.l0 (k + 1) y0 y1 y2 y3 y4 y5 y6 y7 y8)) ∧ (∀ y0 y1 y2 y3 y4 y5 y6, LeO (hinterlandlaw02_LandSettlesMost.l1 k y0 y1 y2 y3 y4 y5 y6) (hinterlandlaw02_LandSettlesMost.l1 (k + 1) y0 y1 y2 y3 y4 y5 y6)) ∧ (∀ y0 y1 y2 y3 y4 y5 y6 y7, LeO (hinterlandlaw02_LandSettlesMost.j4 k y0 y1 y2 y3 y4 y5 y6 y7) (hinterlandlaw02_LandSettlesMost.j4 (k + 1) y0 y1 y2 y3 y4 y5 y6 y7))
  | 0 => ⟨fun _ _ _ _ _ _ _ _ r h => by simp [hinterlandlaw02_LandSettlesMost.j0] at h, fun _ _ _ _ _ _ _ _ r h => by simp [hinterlandlaw02_LandSettlesMost.j1] at h, fun _ _ _ _ _ _ _ _ _ r h => by simp [hinterlandlaw02_LandSettlesMost.l0] at h, fun _ _ _ _ _ _ _ r h => by simp [hinterlandlaw02_LandSettlesMost.l1] at h, fun _ _ _ _ _ _ _ _ r h => by simp [hinterlandlaw02_LandSettlesMost.j4] at h⟩
  | k + 1 => by
    obtain ⟨ih0, ih1, ih2, ih3, ih4⟩ := hinterlandlaw02_LandSettlesMost.mono_l k
    refine ⟨?_, ?_, ?_, ?_, ?_⟩
    · intro y0 y1 y2 y3 y4 y5 y6 y7
      unfold hinterlandlaw02_LandSettlesMost.j0
      repeat' first
      | (with_reducible first | exact ih0 _ _ _ _ _ _ _ _ | exact ih1 _ _ _ _ _ _ _ _ | exact ih2 _ _ _ _ _ _ _ _ _ | exact ih3 _ _ _ _ _ _ _ | exact ih4 _ _ _ _ _ _ _ _ | exact hinterlandlaw02_known.mono _ | exact land_Settle.mono _ _ _ _ | exact land_Validate.mono _ _ _ _ | exact LeO.refl _ | exact LeO.none _ | refine LeO.ite ?_ ?_ | refine LeO.bind ?_ (fun _ => ?_))
      | exact ih0 _ _ _ _ _ _ _ _
      | exact ih1 _ _ _ _ _ _ _ _
      | exact ih2 _ _ _ _ _ _ _ _ _
      | exact ih3 _ _ _ _ _ _ _
      | exact ih4 _ _ _ _ _ _ _ _
      | exact hinterlandlaw02_known.mono _
      | exact land_Settle.mono _ _ _ _
      | exact land_Validate.mono _ _ _ _
      | exact LeO.none _
      | refine LeO.ite ?_ ?_
      | refine LeO.bind ?_ (fun _ => ?_)
    · intro y0 y1 y2 y3 y4 y5 y6 y7
      unfold hinterlandlaw02_LandSettlesMost.j1
      repeat' first
      | (with_reducible first | exact ih0 _ _ _ _ _ _ _ _ | exact ih1 _ _ _ _ _ _ _ _ | exact ih2 _ _ _ _ _ _ _ _ _ | exact ih3 _ _ _ _ _ _ _ | exact ih4 _ _ _ _ _ _ _ _ | exact hinterlandlaw02_known.mono _ | exact land_Settle.mono _ _ _ _ | exact land_Validate.mono _ _ _ _ | exact LeO.refl _ | exact LeO.none _ | refine LeO.ite ?_ ?_ | refine LeO.bind ?_ (fun _ => ?_))
      | exact ih0 _ _ _ _ _ _ _ _
      | exact ih1 _ _ _ _ _ _ _ _
      | exact ih2 _ _ _ _ _ _ _ _ _
      | exact ih3 _ _ _ _ _ _ _
      | exact ih4 _ _ _ _ _ _ _ _
      | exact hinterlandlaw02_known.mono _
      | exact land_Settle.mono _ _ _ _
      | exact land_Validate.mono _ _ _ _
      | exact LeO.none _
      | refine LeO.ite ?_ ?_
      | refine LeO.bind ?_ (fun _ => ?_)
    · intro y0 y1 y2 y3 y4 y5 y6 y7 y8
      unfold hinterlandlaw02_LandSettlesMost.l0
      repeat' first
      | (with_reducible first | exact ih0 _ _ _ _ _ _ _ _ | exact ih1 _ _ _ _ _ _ _ _ | exact ih2 _ _ _ _ _ _ _ _ _ | exact ih3 _ _ _ _ _ _ _ | exact ih4 _ _ _ _ _ _ _ _ | exact hinterlandlaw02_known.mono _ | exact land_Settle.mono _ _ _ _ | exact land_Validate.mono _ _ _ _ | exact LeO.refl _ | exact LeO.none _ | refine LeO.ite ?_ ?_ | refine LeO.bind ?_ (fun _ => ?_))
      | exact ih0 _ _ _ _ _ _ _ _
      | exact ih1 _ _ _ _ _ _ _ _
      | exact ih2 _ _ _ _ _ _ _ _ _
      | exact ih3 _ _ _ _ _ _ _
      | exact ih4 _ _ _ _ _ _ _ _
      | exact hinterlandlaw02_known.mono _
      | exact land_Settle.mono _ _ _ _
      | exact land_Validate.mono _ _ _ _
      | exact LeO.none _
      | refine LeO.ite ?_ ?_
      | refine LeO.bind ?_ (fun _ => ?_)
    · intro y0 y1 y2 y3 y4 y5 y6
      unfold hinterlandlaw02_LandSettlesMost.l1
      repeat' first
      | (with_reducible first | exact ih0 _ _ _ _ _ _ _ _ | exact ih1 _ _ _ _ _ _ _ _ | exact ih2 _ _ _ _ _ _ _ _ _ | exact ih3 _ _ _ _ _ _ _ | exact ih4 _ _ _ _ _ _ _ _ | exact hinterlandlaw02_known.mono _ | exact land_Settle.mono _ _ _ _ | exact land_Validate.mono _ _ _ _ | exact LeO.refl _ | exact LeO.none _ | refine LeO.ite ?_ ?_ | refine LeO.bind ?_ (fun _ => ?_))
      | exact ih0 _ _ _ _ _ _ _ _
      | exact ih1 _ _ _ _ _ _ _ _
      | exact ih2 _ _ _ _ _ _ _ _ _
      | exact ih3 _ _ _ _ _ _ _
      | exact ih4 _ _ _ _ _ _ _ _
      | exact hinterlandlaw02_known.mono _
      | exact land_Settle.mono _ _ _ _
      | exact land_Validate.mono _ _ _ _
      | exact LeO.none _
      | refine LeO.ite ?_ ?_
      | refine LeO.bind ?_ (fun _ => ?_)
    · intro y0 y1 y2 y3 y4 y5 y6 y7
      unfold hinterlandlaw02_LandSettlesMost.j4
      repeat' first
      | (with_reducible first | exact ih0 _ _ _ _ _ _ _ _ | exact ih1 _ _ _ _ _ _ _ _ | exact ih2 _ _ _ _ _ _ _ _ _ | exact ih3 _ _ _ _ _ _ _ | exact ih4 _ _ _ _ _ _ _ _ | exact hinterlandlaw02_known.mono _ | exact land_Settle.mono _ _ _ _ | exact land_Validate.mono _ _ _ _ | exact LeO.refl _ | exact LeO.none _ | refine LeO.ite ?_ ?_ | refine LeO.bind ?_ (fun _ => ?_))
      | exact ih0 _ _ _ _ _ _ _ _
      | exact ih1 _ _ _ _ _ _ _ _
      | exact ih2 _ _ _ _ _ _ _ _ _
      | exact ih3 _ _ _ _ _ _ _
      | exact ih4 _ _ _ _ _ _ _ _
      | exact hinterlandlaw02_known.mono _
      | exact land_Settle.mono _ _ _ _
      | exact land_Validate.mono _ _ _ _
      | exact LeO.none _
      | refine LeO.ite ?_ ?_
      | refine LeO.bind ?_ (fun _ => ?_)
theorem hinterlandlaw02_LandSettlesMost.mono : ∀ a0 a1 a2 a3 k, LeO (hinterlandlaw02_LandSettlesMost.f k a0 a1 a2 a3) (hinterlandlaw02_LandSettlesMost.f (k + 1) a0 a1 a2 a3) := by
  intro a0 a1 a2 a3 k
  obtain ⟨ih0, ih1, ih2, ih3, ih4⟩ := hinterlandlaw02_LandSettlesMost.mono_l k
  unfold hinterlandlaw02_LandSettlesMost.f
  repeat' first
      | (with_reducible first | exact ih0 _ _ _ _ _ _ _ _ | exact ih1 _ _ _ _ _ _ _ _ | exact ih2 _ _ _ _ _ _ _ _ _ | exact ih3 _ _ _ _ _ _ _ | exact ih4 _ _ _ _ _ _ _ _ | exact hinterlandlaw02_known.mono _ | exact land_Settle.mono _ _ _ _ | exact land_Validate.mono _ _ _ _ | exact LeO.refl _ | exact LeO.none _ | refine LeO.ite ?_ ?_ | refine LeO.bind ?_ (fun _ => ?_))
      | exact ih0 _ _ _ _ _ _ _ _
      | exact ih1 _ _ _ _ _ _ _ _
      | exact ih2 _ _ _ _ _ _ _ _ _
      | exact ih3 _ _ _ _ _ _ _
      | exact ih4 _ _ _ _ _ _ _ _
      | exact hinterlandlaw02_known.mono _
      | exact land_Settle.mono _ _ _ _
      | exact land_Validate.mono _ _ _ _
      | exact LeO.none _
      | refine LeO.ite ?_ ?_
      | refine LeO.bind ?_ (fun _ => ?_)
set_option maxHeartbeats 8000000 in
set_option maxRecDepth 100000 in
theorem hinterlandlaw02_LandSettlesMost.calls (k : Nat) (a0 : Int) (a1 : Int) (A2 : Option Addr) (c2 : Nat) (l2 : List Int) (A3 : Option Addr) (c3 : Nat) (l3 : List Int) (r : Bool) (w : World) (hr2 : Kd.C (Kd.int .i64) w A2 l2.length l2) (hc2 : l2.length ≤ c2) (hr3 : Kd.C (Kd.int .i64) w A3 l3.length l3) (hc3 : l3.length ≤ c3) (h : hinterlandlaw02_LandSettlesMost.f k a0 a1 l2 l3 = some r) :
    Calls Try.prog 10 #[.int .i64 a0, .int .i64 a1, .slice A2 l2.length c2, .slice A3 l3.length c3] w fun e w' => e = .returned (.bool r) ∧ Below w.heap.size w w' := by
 have hu24 := Try.underlying24
 have HR2 := Aside0.mk hr2
 have HC2 := Aside0.mk hc2
 clear hr2 hc2
 have HR3 := Aside0.mk hr3
 have HC3 := Aside0.mk hc3
 clear hr3 hc3
 have HB := Aside0.mk (Below.refl w.heap.size w)
 have H : ((land_Settle.f k a0 a1 l2).bind fun bt523 => (if bt523.2.2.2 = 0 then (hinterlandlaw02_LandSettlesMost.j0 k a0 a1 l2 l3 (decide ((l2.length : Int) > 4000)) bt523.1 bt523.2.1 bt523.2.2.1) else (hinterlandlaw02_LandSettlesMost.j0 k a0 a1 l2 l3 true bt523.1 bt523.2.1 bt523.2.2.1))) = some r := h
 clear h
 replace H := Option.bind_eq_some_iff.mp H
 obtain ⟨⟨t523, t524, t525, t528⟩, A50, H⟩ := H
 replace H : (if t528 = 0 then (hinterlandlaw02_LandSettlesMost.j0 k a0 a1 l2 l3 (decide ((l2.length : Int) > 4000)) t523 t524 t525) else (hinterlandlaw02_LandSettlesMost.j0 k a0 a1 l2 l3 true t523 t524 t525)) = some r := H
 have A5 := Aside0.mk A50
 clear A50
 have HC6 := Aside0.mk H
 clear H
 go_enter Try.func10, Try.ntmps10
 go_upto_region 2 with (first | (go_at_call 31; (with_reducible refine (land_Settle.calls k a0 a1 _ _ l2 t523 t524 t525 t528 _ ?side1 ?side2 A5.out).mono ?_); (case side1 => repeat (first | exact HR2.out | (with_reducible refine Kd.C_alloc ?_ _) | (with_reducible refine Kd.C_drewN ?_ _) | (with_reducible refine Kd.C_drew ?_))); (case side2 => exact HC2.out); rintro e w7 ⟨v526, rfl, ho0, hb⟩; have HO527 := Aside0.mk (Kd.R_lower ho0 (below_size (dL_ HB))); replace HB := Aside0.mk (below_step (dL_ HB) hb)) | ((with_reducible refine gate_dst (N := 9) rfl ?_); (try (refine gate_guard (by rfl) ?_; dsimp only)); refine box_event ?hg (N := 9) ?hd (cs := #[.int .i64 0, .int .i64 0, .slice none 0 0]) (t := 24) ?hr ?_; (case hd => rfl); (case hg => rfl); (case hr => first | (go_simp; done) | (go_simp; rfl)); intro gb529 hg w8 hbox hb; replace HO527 := Aside0.mk (Kd.R_below (dR_ HO527) hb); have BK529 := Aside0.mk (hbox); have GW529 := Aside0.mk ((dS_ hg (dL_ HB) : w.heap.size ≤ gb529)); have GE529 := Aside0.mk ((dS_ hg (dL_ HB) : w.heap.size ≤ gb529)); replace HB := Aside0.mk (below_step (dL_ HB) hb); clear hb hbox hg; obtain ⟨hcz9_0, hcz9_1, hcz9_2, hfz9_0, hfz9_1, hfz9_2⟩ := cs3_ BK529.out; obtain ⟨Ao10, co10, eo10⟩ := Kd.R_slice HO527.out; subst eo10))
 repeat (go_quiet (first | (go_at_call 31; (with_reducible refine (land_Settle.calls k a0 a1 _ _ l2 t523 t524 t525 t528 _ ?side1 ?side2 A5.out).mono ?_); (case side1 => repeat (first | exact HR2.out | (with_reducible refine Kd.C_alloc ?_ _) | (with_reducible refine Kd.C_drewN ?_ _) | (with_reducible refine Kd.C_drew ?_))); (case side2 => exact HC2.out); rintro e w7 ⟨v526, rfl, ho0, hb⟩; have HO527 := Aside0.mk (Kd.R_lower ho0 (below_size (dL_ HB))); replace HB := Aside0.mk (below_step (dL_ HB) hb)) | ((with_reducible refine gate_dst (N := 9) rfl ?_); (try (refine gate_guard (by rfl) ?_; dsimp only)); refine box_event ?hg (N := 9) ?hd (cs := #[.int .i64 0, .int .i64 0, .slice none 0 0]) (t := 24) ?hr ?_; (case hd => rfl); (case hg => rfl); (case hr => first | (go_simp; done) | (go_simp; rfl)); intro gb529 hg w8 hbox hb; replace HO527 := Aside0.mk (Kd.R_below (dR_ HO527) hb); have BK529 := Aside0.mk (hbox); have GW529 := Aside0.mk ((dS_ hg (dL_ HB) : w.heap.size ≤ gb529)); have GE529 := Aside0.mk ((dS_ hg (dL_ HB) : w.heap.size ≤ gb529)); replace HB := Aside0.mk (below_step (dL_ HB) hb); clear hb hbox hg; obtain ⟨hcz9_0, hcz9_1, hcz9_2, hfz9_0, hfz9_1, hfz9_2⟩ := cs3_ BK529.out; obtain ⟨Ao10, co10, eo10⟩ := Kd.R_slice HO527.out; subst eo10)); go_upto_region 2 with (first | (go_at_call 31; (with_reducible refine (land_Settle.calls k a0 a1 _ _ l2 t523 t524 t525 t528 _ ?side1 ?side2 A5.out).mono ?_); (case side1 => repeat (first | exact HR2.out | (with_reducible refine Kd.C_alloc ?_ _) | (with_reducible refine Kd.C_drewN ?_ _) | (with_reducible refine Kd.C_drew ?_))); (case side2 => exact HC2.out); rintro e w7 ⟨v526, rfl, ho0, hb⟩; have HO527 := Aside0.mk (Kd.R_lower ho0 (below_size (dL_ HB))); replace HB := Aside0.mk (below_step (dL_ HB) hb)) | ((with_reducible refine gate_dst (N := 9) rfl ?_); (try (refine gate_guard (by rfl) ?_; dsimp only)); refine box_event ?hg (N := 9) ?hd (cs := #[.int .i64 0, .int .i64 0, .slice none 0 0]) (t := 24) ?hr ?_; (case hd => rfl); (case hg => rfl); (case hr => first | (go_simp; done) | (go_simp; rfl)); intro gb529 hg w8 hbox hb; replace HO527 := Aside0.mk (Kd.R_below (dR_ HO527) hb); have BK529 := Aside0.mk (hbox); have GW529 := Aside0.mk ((dS_ hg (dL_ HB) : w.heap.size ≤ gb529)); have GE529 := Aside0.mk ((dS_ hg (dL_ HB) : w.heap.size ≤ gb529)); replace HB := Aside0.mk (below_step (dL_ HB) hb); clear hb hbox hg; obtain ⟨hcz9_0, hcz9_1, hcz9_2, hfz9_0, hfz9_1, hfz9_2⟩ := cs3_ BK529.out; obtain ⟨Ao10, co10, eo10⟩ := Kd.R_slice HO527.out; subst eo10)))
 (try simp only [Act.put, List.setIfInBounds_toArray, List.set_cons_zero, List.set_cons_succ])
 go_cut [29] (fun v29 wc => ∃ (kq : Nat) (x29_5 : Bool), v29 = .bool x29_5 ∧ Aside0 (hinterlandlaw02_LandSettlesMost.j0 kq a0 a1 l2 l3 x29_5 t523 t524 t525 = some r) ∧ Aside0 (kq ≤ k) ∧ Aside0 (Kd.R (Kd.int .i64) 3 wc w.heap.size (fun _ => True) (.slice Ao10 t525.length co10) t525) ∧ Aside0 (wc.heap[gb529]? = some (.cells #[.int .i64 t523, .int .i64 t524, (.slice Ao10 t525.length co10)] 24 (0, 0))) ∧ Aside0 (Below w.heap.size w wc))
 case first =>
  have H := HC6.out
  clear HC6
  by_cases c11 : t528 = 0
  ·rw [if_pos c11] at H
   have c11b0 : (t528 == 0) = true := beq_iff_eq.mpr c11
   have c11b1 : (t528 != 0) = false := bne_eq_false_iff_eq.mpr c11
   clear c11
   (first | rw [c11b0] | (simp only [i64_w, i32_w]; rw [c11b0]) | skip)
   have H' := Aside0.mk H
   clear H
   go_wp2
   repeat (go_quiet (fail); try go_wp2)
   go_meet
   case rel => exact ⟨_, (decide ((l2.length : Int) > 4000)), tS_, H', ⟨by first | omega | exact Nat.le_refl _⟩, ⟨by (with_reducible repeat (first | apply Kd.R_alloc | apply Kd.R_drewN | apply Kd.R_drew)); exact Kd.R_mono (Kd.R_far (p := ⟨gb529, 2, none⟩) (Kd.R_far (p := ⟨gb529, 1, none⟩) (Kd.R_far (p := ⟨gb529, 0, none⟩) (Kd.R_types HO527.out BK529.out (by decide)) (fun _ hk => hk.2) (.int .i64 t523)) (fun _ hk => hk.2) (.int .i64 t524)) (fun _ hk => hk.2) (.slice Ao10 t525.length co10)) (fun _ hk => trivial)⟩, ⟨by (with_reducible repeat (first | refine blk_drewN ?_ _ | refine blk_drew ?_ | refine blk_alloc ?_ _)); refine blk_put (cs := #[.int .i64 t523, .int .i64 t524, .slice none 0 0]) ?_ 2 _ rfl; (with_reducible repeat (first | refine blk_drewN ?_ _ | refine blk_drew ?_ | refine blk_alloc ?_ _)); refine blk_put (cs := #[.int .i64 t523, .int .i64 0, .slice none 0 0]) ?_ 1 _ rfl; (with_reducible repeat (first | refine blk_drewN ?_ _ | refine blk_drew ?_ | refine blk_alloc ?_ _)); refine blk_put (cs := #[.int .i64 0, .int .i64 0, .slice none 0 0]) ?_ 0 _ rfl; (with_reducible repeat (first | refine blk_drewN ?_ _ | refine blk_drew ?_ | refine blk_alloc ?_ _)); exact BK529.out⟩, ⟨dL1_ HB GE529⟩⟩
  ·rw [if_neg c11] at H
   have c11b0 : (t528 == 0) = false := beq_eq_false_iff_ne.mpr c11
   have c11b1 : (t528 != 0) = true := bne_iff_ne.mpr c11
   (first | rw [c11b0] | (simp only [i64_w, i32_w]; rw [c11b0]) | skip)
   have H' := Aside0.mk H
   clear H
   go_wp2
   repeat (go_quiet (fail); try go_wp2)
   go_meet
   case rel => exact ⟨_, (true), tS_, H', ⟨by first | omega | exact Nat.le_refl _⟩, ⟨by (with_reducible repeat (first | apply Kd.R_alloc | apply Kd.R_drewN | apply Kd.R_drew)); exact Kd.R_mono (Kd.R_far (p := ⟨gb529, 2, none⟩) (Kd.R_far (p := ⟨gb529, 1, none⟩) (Kd.R_far (p := ⟨gb529, 0, none⟩) (Kd.R_types HO527.out BK529.out (by decide)) (fun _ hk => hk.2) (.int .i64 t523)) (fun _ hk => hk.2) (.int .i64 t524)) (fun _ hk => hk.2) (.slice Ao10 t525.length co10)) (fun _ hk => trivial)⟩, ⟨by (with_reducible repeat (first | refine blk_drewN ?_ _ | refine blk_drew ?_ | refine blk_alloc ?_ _)); refine blk_put (cs := #[.int .i64 t523, .int .i64 t524, .slice none 0 0]) ?_ 2 _ rfl; (with_reducible repeat (first | refine blk_drewN ?_ _ | refine blk_drew ?_ | refine blk_alloc ?_ _)); refine blk_put (cs := #[.int .i64 t523, .int .i64 0, .slice none 0 0]) ?_ 1 _ rfl; (with_reducible repeat (first | refine blk_drewN ?_ _ | refine blk_drew ?_ | refine blk_alloc ?_ _)); refine blk_put (cs := #[.int .i64 0, .int .i64 0, .slice none 0 0]) ?_ 0 _ rfl; (with_reducible repeat (first | refine blk_drewN ?_ _ | refine blk_drew ?_ | refine blk_alloc ?_ _)); exact BK529.out⟩, ⟨dL1_ HB GE529⟩⟩
 case rest =>
  clear HC6
  try clear c2
  try clear c3
  try clear c11
  try clear hcz9_0
  try clear hcz9_1
  try clear hcz9_2
  try clear hfz9_0
  try clear hfz9_1
  try clear hfz9_2
  obtain ⟨kq, x29_5, rfl, HA, HJ5, HO_530002, BK529, HB⟩ := hcut
  cases kq with
  | zero => exact absurd HA.out (by simp [hinterlandlaw02_LandSettlesMost.j0])
  | succ kj5 =>
   have H := HA.out
   clear HA
   simp only [hinterlandlaw02_LandSettlesMost.j0] at H
   by_cases c12 : x29_5 = true
   ·subst c12
    have H1 : (if (t525.length : Int) = 0 then ((hinterlandlaw02_known.f kj5).bind fun t530 => (if t530 = true then (some true) else (some (decide ((l2.length : Int) > 4000))))) else (some (decide ((l2.length : Int) > 4000)))) = some r := by rw [if_pos rfl] at H; exact H
    clear H
    have H := H1
    clear H1
    by_cases c13 : (t525.length : Int) = 0
    ·rw [if_pos c13] at H
     have c13b0 : ((t525.length : Int) == 0) = true := beq_iff_eq.mpr c13
     have c13b1 : ((t525.length : Int) != 0) = false := bne_eq_false_iff_eq.mpr c13
     clear c13
     replace H := Option.bind_eq_some_iff.mp H
     obtain ⟨t530, A140, H⟩ := H
     replace H : (if t530 = true then (some true) else (some (decide ((l2.length : Int) > 4000)))) = some r := H
     have A14 := Aside0.mk A140
     clear A140
     by_cases c15 : t530 = true
     ·subst c15
      have H1 : (some true) = some r := by rw [if_pos rfl] at H; exact H
      clear H
      have H := H1
      clear H1
      obtain rfl := Option.some.inj H
      obtain ⟨hcz16_0, hcz16_1, hcz16_2, hfz16_0, hfz16_1, hfz16_2⟩ := cs3_ BK529.out
      go_wp2_with (first | (go_at_call 16; (with_reducible refine (hinterlandlaw02_known.calls kj5  true _ A14.out).mono ?_); rintro e w17 ⟨rfl, hb⟩; replace HO_530002 := Aside0.mk (Kd.R_below (dR_ HO_530002) hb); replace BK529 := Aside0.mk (blk_below (g := gb529) (o := .cells #[.int .i64 t523, .int .i64 t524, .slice Ao10 t525.length co10] 24 (0, 0)) (dB_ BK529) hb); replace HB := Aside0.mk (below_step (dL1_ HB GE529) hb)))
      repeat (go_quiet (first | (go_at_call 16; (with_reducible refine (hinterlandlaw02_known.calls kj5  true _ A14.out).mono ?_); rintro e w17 ⟨rfl, hb⟩; replace HO_530002 := Aside0.mk (Kd.R_below (dR_ HO_530002) hb); replace BK529 := Aside0.mk (blk_below (g := gb529) (o := .cells #[.int .i64 t523, .int .i64 t524, .slice Ao10 t525.length co10] 24 (0, 0)) (dB_ BK529) hb); replace HB := Aside0.mk (below_step (dL1_ HB GE529) hb))); try go_wp2_with (first | (go_at_call 16; (with_reducible refine (hinterlandlaw02_known.calls kj5  true _ A14.out).mono ?_); rintro e w17 ⟨rfl, hb⟩; replace HO_530002 := Aside0.mk (Kd.R_below (dR_ HO_530002) hb); replace BK529 := Aside0.mk (blk_below (g := gb529) (o := .cells #[.int .i64 t523, .int .i64 t524, .slice Ao10 t525.length co10] 24 (0, 0)) (dB_ BK529) hb); replace HB := Aside0.mk (below_step (dL1_ HB GE529) hb))))
      go_ret
      exact ⟨tE_, dL1_ HB GE529⟩
     ·replace c15 := Bool.eq_false_iff.mpr c15
      subst c15
      have H1 : (some (decide ((l2.length : Int) > 4000))) = some r := by rw [if_neg (show ¬ (false = true) by decide)] at H; exact H
      clear H
      have H := H1
      clear H1
      obtain rfl := Option.some.inj H
      obtain ⟨hcz18_0, hcz18_1, hcz18_2, hfz18_0, hfz18_1, hfz18_2⟩ := cs3_ BK529.out
      go_wp2_with (first | (go_at_call 16; (with_reducible refine (hinterlandlaw02_known.calls kj5  false _ A14.out).mono ?_); rintro e w19 ⟨rfl, hb⟩; replace HO_530002 := Aside0.mk (Kd.R_below (dR_ HO_530002) hb); replace BK529 := Aside0.mk (blk_below (g := gb529) (o := .cells #[.int .i64 t523, .int .i64 t524, .slice Ao10 t525.length co10] 24 (0, 0)) (dB_ BK529) hb); replace HB := Aside0.mk (below_step (dL1_ HB GE529) hb)))
      repeat (go_quiet (first | (go_at_call 16; (with_reducible refine (hinterlandlaw02_known.calls kj5  false _ A14.out).mono ?_); rintro e w19 ⟨rfl, hb⟩; replace HO_530002 := Aside0.mk (Kd.R_below (dR_ HO_530002) hb); replace BK529 := Aside0.mk (blk_below (g := gb529) (o := .cells #[.int .i64 t523, .int .i64 t524, .slice Ao10 t525.length co10] 24 (0, 0)) (dB_ BK529) hb); replace HB := Aside0.mk (below_step (dL1_ HB GE529) hb))); try go_wp2_with (first | (go_at_call 16; (with_reducible refine (hinterlandlaw02_known.calls kj5  false _ A14.out).mono ?_); rintro e w19 ⟨rfl, hb⟩; replace HO_530002 := Aside0.mk (Kd.R_below (dR_ HO_530002) hb); replace BK529 := Aside0.mk (blk_below (g := gb529) (o := .cells #[.int .i64 t523, .int .i64 t524, .slice Ao10 t525.length co10] 24 (0, 0)) (dB_ BK529) hb); replace HB := Aside0.mk (below_step (dL1_ HB GE529) hb))))
      go_ret
      exact ⟨tE_, dL1_ HB GE529⟩
    ·rw [if_neg c13] at H
     have c13b0 : ((t525.length : Int) == 0) = false := beq_eq_false_iff_ne.mpr c13
     have c13b1 : ((t525.length : Int) != 0) = true := bne_iff_ne.mpr c13
     have c13b2 : ¬ (t525 = []) := fun h_ => c13 (by rw [h_]; rfl)
     obtain rfl := Option.some.inj H
     obtain ⟨hcz20_0, hcz20_1, hcz20_2, hfz20_0, hfz20_1, hfz20_2⟩ := cs3_ BK529.out
     go_wp2
     repeat (go_quiet (fail); try go_wp2)
     go_ret
     exact ⟨tE_, dL1_ HB GE529⟩
   ·replace c12 := Bool.eq_false_iff.mpr c12
    subst c12
    have H1 : ((land_Validate.f kj5 t523 t524 t525).bind fun t531 => (if t531 = 0 then (hinterlandlaw02_LandSettlesMost.j1 kj5 a0 a1 l2 l3 ((t525.length : Int) != (l2.length : Int)) t523 t524 t525) else (hinterlandlaw02_LandSettlesMost.j1 kj5 a0 a1 l2 l3 true t523 t524 t525))) = some r := by rw [if_neg (show ¬ (false = true) by decide)] at H; exact H
    clear H
    have H := H1
    clear H1
    have HC21 := Aside0.mk H
    clear H
    go_upto_region 4 with (fail)
    repeat (go_quiet (fail); go_upto_region 4 with (fail))
    go_cut [52] (fun v52 wc => ∃ (kq : Nat) (x52_20 : Bool), v52 = .bool x52_20 ∧ Aside0 (hinterlandlaw02_LandSettlesMost.j1 kq a0 a1 l2 l3 x52_20 t523 t524 t525 = some r) ∧ Aside0 (kq ≤ kj5) ∧ Aside0 (Kd.R (Kd.int .i64) 3 wc w.heap.size (fun _ => True) (.slice Ao10 t525.length co10) t525) ∧ Aside0 (wc.heap[gb529]? = some (.cells #[.int .i64 t523, .int .i64 t524, (.slice Ao10 t525.length co10)] 24 (0, 0))) ∧ Aside0 (Below w.heap.size w wc))
    case first =>
     have H := HC21.out
     clear HC21
     replace H := Option.bind_eq_some_iff.mp H
     obtain ⟨t531, A220, H⟩ := H
     replace H : (if t531 = 0 then (hinterlandlaw02_LandSettlesMost.j1 kj5 a0 a1 l2 l3 ((t525.length : Int) != (l2.length : Int)) t523 t524 t525) else (hinterlandlaw02_LandSettlesMost.j1 kj5 a0 a1 l2 l3 true t523 t524 t525)) = some r := H
     have A22 := Aside0.mk A220
     clear A220
     by_cases c23 : t531 = 0
     ·rw [if_pos c23] at H
      have c23b0 : (t531 == 0) = true := beq_iff_eq.mpr c23
      have c23b1 : (t531 != 0) = false := bne_eq_false_iff_eq.mpr c23
      clear c23
      (first | rw [c23b0] | (simp only [i64_w, i32_w]; rw [c23b0]) | skip)
      have H' := Aside0.mk H
      clear H
      obtain ⟨hcz24_0, hcz24_1, hcz24_2, hfz24_0, hfz24_1, hfz24_2⟩ := cs3_ BK529.out
      go_wp2_with (first | (go_at_call 17; (with_reducible refine (land_Validate.calls kj5 t523 t524 _ _ t525 t531 _ ?side1 ?side2 A22.out).mono ?_); (case side1 => repeat (first | exact (Kd.R_reads' HO_530002.out).2.2 | (with_reducible refine Kd.C_alloc ?_ _) | (with_reducible refine Kd.C_drewN ?_ _) | (with_reducible refine Kd.C_drew ?_))); (case side2 => exact (Kd.R_reads' HO_530002.out).2.1); rintro e w25 ⟨rfl, hb⟩; replace HO_530002 := Aside0.mk (Kd.R_below (dR_ HO_530002) hb); replace BK529 := Aside0.mk (blk_below (g := gb529) (o := .cells #[.int .i64 t523, .int .i64 t524, .slice Ao10 t525.length co10] 24 (0, 0)) (dB_ BK529) hb); replace HB := Aside0.mk (below_step (dL1_ HB GE529) hb); obtain ⟨hcz26_0, hcz26_1, hcz26_2, hfz26_0, hfz26_1, hfz26_2⟩ := cs3_ BK529.out))
      repeat (go_quiet (first | (go_at_call 17; (with_reducible refine (land_Validate.calls kj5 t523 t524 _ _ t525 t531 _ ?side1 ?side2 A22.out).mono ?_); (case side1 => repeat (first | exact (Kd.R_reads' HO_530002.out).2.2 | (with_reducible refine Kd.C_alloc ?_ _) | (with_reducible refine Kd.C_drewN ?_ _) | (with_reducible refine Kd.C_drew ?_))); (case side2 => exact (Kd.R_reads' HO_530002.out).2.1); rintro e w25 ⟨rfl, hb⟩; replace HO_530002 := Aside0.mk (Kd.R_below (dR_ HO_530002) hb); replace BK529 := Aside0.mk (blk_below (g := gb529) (o := .cells #[.int .i64 t523, .int .i64 t524, .slice Ao10 t525.length co10] 24 (0, 0)) (dB_ BK529) hb); replace HB := Aside0.mk (below_step (dL1_ HB GE529) hb); obtain ⟨hcz26_0, hcz26_1, hcz26_2, hfz26_0, hfz26_1, hfz26_2⟩ := cs3_ BK529.out)); try go_wp2_with (first | (go_at_call 17; (with_reducible refine (land_Validate.calls kj5 t523 t524 _ _ t525 t531 _ ?side1 ?side2 A22.out).mono ?_); (case side1 => repeat (first | exact (Kd.R_reads' HO_530002.out).2.2 | (with_reducible refine Kd.C_alloc ?_ _) | (with_reducible refine Kd.C_drewN ?_ _) | (with_reducible refine Kd.C_drew ?_))); (case side2 => exact (Kd.R_reads' HO_530002.out).2.1); rintro e w25 ⟨rfl, hb⟩; replace HO_530002 := Aside0.mk (Kd.R_below (dR_ HO_530002) hb); replace BK529 := Aside0.mk (blk_below (g := gb529) (o := .cells #[.int .i64 t523, .int .i64 t524, .slice Ao10 t525.length co10] 24 (0, 0)) (dB_ BK529) hb); replace HB := Aside0.mk (below_step (dL1_ HB GE529) hb); obtain ⟨hcz26_0, hcz26_1, hcz26_2, hfz26_0, hfz26_1, hfz26_2⟩ := cs3_ BK529.out)))
      go_meet
      case rel => exact ⟨_, (((t525.length : Int) != (l2.length : Int))), tS_, H', ⟨by have := HJ5.out; first | omega | exact Nat.le_refl _⟩, ⟨dR_ HO_530002⟩, ⟨dB_ BK529⟩, ⟨dL1_ HB GE529⟩⟩
     ·rw [if_neg c23] at H
      have c23b0 : (t531 == 0) = false := beq_eq_false_iff_ne.mpr c23
      have c23b1 : (t531 != 0) = true := bne_iff_ne.mpr c23
      (first | rw [c23b0] | (simp only [i64_w, i32_w]; rw [c23b0]) | skip)
      have H' := Aside0.mk H
      clear H
      obtain ⟨hcz27_0, hcz27_1, hcz27_2, hfz27_0, hfz27_1, hfz27_2⟩ := cs3_ BK529.out
      go_wp2_with (first | (go_at_call 17; (with_reducible refine (land_Validate.calls kj5 t523 t524 _ _ t525 t531 _ ?side1 ?side2 A22.out).mono ?_); (case side1 => repeat (first | exact (Kd.R_reads' HO_530002.out).2.2 | (with_reducible refine Kd.C_alloc ?_ _) | (with_reducible refine Kd.C_drewN ?_ _) | (with_reducible refine Kd.C_drew ?_))); (case side2 => exact (Kd.R_reads' HO_530002.out).2.1); rintro e w28 ⟨rfl, hb⟩; replace HO_530002 := Aside0.mk (Kd.R_below (dR_ HO_530002) hb); replace BK529 := Aside0.mk (blk_below (g := gb529) (o := .cells #[.int .i64 t523, .int .i64 t524, .slice Ao10 t525.length co10] 24 (0, 0)) (dB_ BK529) hb); replace HB := Aside0.mk (below_step (dL1_ HB GE529) hb)))
      repeat (go_quiet (first | (go_at_call 17; (with_reducible refine (land_Validate.calls kj5 t523 t524 _ _ t525 t531 _ ?side1 ?side2 A22.out).mono ?_); (case side1 => repeat (first | exact (Kd.R_reads' HO_530002.out).2.2 | (with_reducible refine Kd.C_alloc ?_ _) | (with_reducible refine Kd.C_drewN ?_ _) | (with_reducible refine Kd.C_drew ?_))); (case side2 => exact (Kd.R_reads' HO_530002.out).2.1); rintro e w28 ⟨rfl, hb⟩; replace HO_530002 := Aside0.mk (Kd.R_below (dR_ HO_530002) hb); replace BK529 := Aside0.mk (blk_below (g := gb529) (o := .cells #[.int .i64 t523, .int .i64 t524, .slice Ao10 t525.length co10] 24 (0, 0)) (dB_ BK529) hb); replace HB := Aside0.mk (below_step (dL1_ HB GE529) hb))); try go_wp2_with (first | (go_at_call 17; (with_reducible refine (land_Validate.calls kj5 t523 t524 _ _ t525 t531 _ ?side1 ?side2 A22.out).mono ?_); (case side1 => repeat (first | exact (Kd.R_reads' HO_530002.out).2.2 | (with_reducible refine Kd.C_alloc ?_ _) | (with_reducible refine Kd.C_drewN ?_ _) | (with_reducible refine Kd.C_drew ?_))); (case side2 => exact (Kd.R_reads' HO_530002.out).2.1); rintro e w28 ⟨rfl, hb⟩; replace HO_530002 := Aside0.mk (Kd.R_below (dR_ HO_530002) hb); replace BK529 := Aside0.mk (blk_below (g := gb529) (o := .cells #[.int .i64 t523, .int .i64 t524, .slice Ao10 t525.length co10] 24 (0, 0)) (dB_ BK529) hb); replace HB := Aside0.mk (below_step (dL1_ HB GE529) hb))))
      go_meet
      case rel => exact ⟨_, (true), tS_, H', ⟨by have := HJ5.out; first | omega | exact Nat.le_refl _⟩, ⟨dR_ HO_530002⟩, ⟨dB_ BK529⟩, ⟨dL1_ HB GE529⟩⟩
    case rest =>
     clear HC21
     try clear c2
     try clear c3
     try clear c11
     try clear c12
     try clear c13
     try clear c23
     try clear hcz9_0
     try clear hcz9_1
     try clear hcz9_2
     try clear hfz9_0
     try clear hfz9_1
     try clear hfz9_2
     obtain ⟨kq, x52_20, rfl, HA, HJ20, HO_530002, BK529, HB⟩ := hcut
     cases kq with
     | zero => exact absurd HA.out (by simp [hinterlandlaw02_LandSettlesMost.j1])
     | succ kj20 =>
      have H := HA.out
      clear HA
      simp only [hinterlandlaw02_LandSettlesMost.j1] at H
      by_cases c29 : x52_20 = true
      ·subst c29
       have H1 : (some false) = some r := by rw [if_pos rfl] at H; exact H
       clear H
       have H := H1
       clear H1
       obtain rfl := Option.some.inj H
       go_wp2
       repeat (go_quiet (fail); try go_wp2)
       go_ret
       exact ⟨tE_, dL1_ HB GE529⟩
      ·replace c29 := Bool.eq_false_iff.mpr c29
       subst c29
       have H1 : ((land_Validate.f kj20 a0 a1 l3).bind fun t532 => (hinterlandlaw02_LandSettlesMost.l0 kj20 l2 l3 (t532 == 0) l2 (l2.length : Int) 0 t523 t524 t525)) = some r := by rw [if_neg (show ¬ (false = true) by decide)] at H; exact H
       clear H
       have H := H1
       clear H1
       replace H := Option.bind_eq_some_iff.mp H
       obtain ⟨t532, A300, H⟩ := H
       replace H : (hinterlandlaw02_LandSettlesMost.l0 kj20 l2 l3 (t532 == 0) l2 (l2.length : Int) 0 t523 t524 t525) = some r := H
       have A30 := Aside0.mk A300
       clear A300
       have H' := Aside0.mk H
       clear H
       go_wp2_with (first | (go_at_call 17; (with_reducible refine (land_Validate.calls kj20 a0 a1 _ _ l3 t532 _ ?side1 ?side2 A30.out).mono ?_); (case side1 => exact dC_ HR3 HB); (case side2 => exact HC3.out); rintro e w31 ⟨rfl, hb⟩; replace HO_530002 := Aside0.mk (Kd.R_below (dR_ HO_530002) hb); replace BK529 := Aside0.mk (blk_below (g := gb529) (o := .cells #[.int .i64 t523, .int .i64 t524, .slice Ao10 t525.length co10] 24 (0, 0)) (dB_ BK529) hb); replace HB := Aside0.mk (below_step (dL1_ HB GE529) hb)))
       repeat (go_quiet (first | (go_at_call 17; (with_reducible refine (land_Validate.calls kj20 a0 a1 _ _ l3 t532 _ ?side1 ?side2 A30.out).mono ?_); (case side1 => exact dC_ HR3 HB); (case side2 => exact HC3.out); rintro e w31 ⟨rfl, hb⟩; replace HO_530002 := Aside0.mk (Kd.R_below (dR_ HO_530002) hb); replace BK529 := Aside0.mk (blk_below (g := gb529) (o := .cells #[.int .i64 t523, .int .i64 t524, .slice Ao10 t525.length co10] 24 (0, 0)) (dB_ BK529) hb); replace HB := Aside0.mk (below_step (dL1_ HB GE529) hb))); try go_wp2_with (first | (go_at_call 17; (with_reducible refine (land_Validate.calls kj20 a0 a1 _ _ l3 t532 _ ?side1 ?side2 A30.out).mono ?_); (case side1 => exact dC_ HR3 HB); (case side2 => exact HC3.out); rintro e w31 ⟨rfl, hb⟩; replace HO_530002 := Aside0.mk (Kd.R_below (dR_ HO_530002) hb); replace BK529 := Aside0.mk (blk_below (g := gb529) (o := .cells #[.int .i64 t523, .int .i64 t524, .slice Ao10 t525.length co10] 24 (0, 0)) (dB_ BK529) hb); replace HB := Aside0.mk (below_step (dL1_ HB GE529) hb))))
       go_loopg [11, 61] kj20 (fun kq v11 v61 w' => ∃ (x11_3 : Bool) (x61_3 : Int), v11 = .bool x11_3 ∧ v61 = .int .i64 x61_3 ∧ Aside0 (hinterlandlaw02_LandSettlesMost.l0 kq l2 l3 x11_3 l2 (l2.length : Int) x61_3 t523 t524 t525 = some r) ∧ Aside0 (kq ≤ kj20) ∧ Aside0 (Kd.R (Kd.int .i64) 3 w' w.heap.size (fun _ => True) (.slice Ao10 t525.length co10) t525) ∧ Aside0 (w'.heap[gb529]? = some (.cells #[.int .i64 t523, .int .i64 t524, (.slice Ao10 t525.length co10)] 24 (0, 0))) ∧ Aside0 (Below w.heap.size w w'))
       case atStart => exact ⟨((t532 == 0)), (0), tS_, tS_, H', ⟨Nat.le_refl _⟩, ⟨dR_ HO_530002⟩, ⟨dB_ BK529⟩, ⟨dL1_ HB GE529⟩⟩
       case round =>
        clear H'
        try clear c2
        try clear c3
        try clear c11
        try clear c12
        try clear c13
        try clear c23
        try clear c29
        try clear hcz9_0
        try clear hcz9_1
        try clear hcz9_2
        try clear hfz9_0
        try clear hfz9_1
        try clear hfz9_2
        obtain ⟨x11_3, x61_3, rfl, rfl, HA, HK3, HO_530002, BK529, HB⟩ := hrel
        cases gk with
        | zero => exact absurd HA.out (by simp [hinterlandlaw02_LandSettlesMost.l0])
        | succ k3 =>
         have H := HA.out
         clear HA
         simp only [hinterlandlaw02_LandSettlesMost.l0] at H
         by_cases c32 : x61_3 < (l2.length : Int)
         ·rw [if_pos c32] at H
          have c32b0 : decide (x61_3 < (l2.length : Int)) = true := decide_eq_true c32
          clear c32
          by_cases c33 : 0 ≤ x61_3
          ·rw [if_pos c33] at H
           have c33b0 : decide (0 ≤ x61_3) = true := decide_eq_true c33
           clear c33
           by_cases c34 : x61_3 < (l2.length : Int)
           ·rw [if_pos c34] at H
            have c34b0 : decide (x61_3 < (l2.length : Int)) = true := decide_eq_true c34
            clear c34
            obtain ⟨ji35, hji35⟩ : ∃ j_ : Int, (mx (rd l2 x61_3) 0) = j_ := ⟨_, rfl⟩
            replace H : (if x61_3 < (t525.length : Int) then (if (rd t525 x61_3) > (mn (ji35) 15) then (some false) else (if x11_3 = true then (if x61_3 < (l3.length : Int) then (hinterlandlaw02_LandSettlesMost.l0 k3 l2 l3 (decide ((rd l3 x61_3) ≤ (mn (ji35) 15))) l2 (l2.length : Int) (wrap64 (x61_3 + 1)) t523 t524 t525) else (none)) else (hinterlandlaw02_LandSettlesMost.l0 k3 l2 l3 false l2 (l2.length : Int) (wrap64 (x61_3 + 1)) t523 t524 t525))) else (none)) = some r := by first | (rw [hji35] at H; exact H) | (simp only [hji35] at H ⊢; exact H)
            have hji35_ : (if (rd l2 x61_3) < 0 then 0 else (rd l2 x61_3)) = ji35 := hji35
            obtain ⟨ji36, hji36⟩ : ∃ j_ : Int, (mn (ji35) 15) = j_ := ⟨_, rfl⟩
            replace H : (if x61_3 < (t525.length : Int) then (if (rd t525 x61_3) > (ji36) then (some false) else (if x11_3 = true then (if x61_3 < (l3.length : Int) then (hinterlandlaw02_LandSettlesMost.l0 k3 l2 l3 (decide ((rd l3 x61_3) ≤ (ji36))) l2 (l2.length : Int) (wrap64 (x61_3 + 1)) t523 t524 t525) else (none)) else (hinterlandlaw02_LandSettlesMost.l0 k3 l2 l3 false l2 (l2.length : Int) (wrap64 (x61_3 + 1)) t523 t524 t525))) else (none)) = some r := by first | (rw [hji36] at H; exact H) | (simp only [hji36] at H ⊢; exact H)
            have hji36_ : (if 15 < (ji35) then 15 else (ji35)) = ji36 := hji36
            by_cases c37 : x61_3 < (t525.length : Int)
            ·rw [if_pos c37] at H
             have c37b0 : decide (x61_3 < (t525.length : Int)) = true := decide_eq_true c37
             clear c37
             by_cases c38 : (rd t525 x61_3) > (ji36)
             ·rw [if_pos c38] at H
              have c38b0 : decide ((ji36) < (rd t525 x61_3)) = true := decide_eq_true c38
              clear c38
              obtain rfl := Option.some.inj H
              have p533 : 0 ≤ (x61_3 : Int) := of_decide_eq_true tW_
              have q533 : x61_3 < (l2.length : Int) := of_decide_eq_true tW_
              obtain ⟨ad533, e533, hx533_0⟩ := Kd.at_int HR2.out x61_3 p533 q533
              cases e533
              replace hx533_0 := bc_ HB hx533_0
              replace p533 := eq_true p533
              replace q533 := eq_true q533
              obtain ⟨hcz39_0, hcz39_1, hcz39_2, hfz39_0, hfz39_1, hfz39_2⟩ := cs3_ BK529.out
              have p534 : 0 ≤ (x61_3 : Int) := of_decide_eq_true tW_
              have q534 : x61_3 < (t525.length : Int) := of_decide_eq_true tW_
              obtain ⟨ad534, e534, hx534_0⟩ := Kd.at_int (Kd.R_reads' HO_530002.out).2.2 x61_3 p534 q534
              cases e534
              replace p534 := eq_true p534
              replace q534 := eq_true q534
              go_wp2
              repeat (go_quiet (fail); try go_wp2)
              go_ret
              exact ⟨by first | rfl | (simp [errW_none, errW_some] <;> rfl) | (simp only [← hji35, ← hji36]; first | rfl | (simp [errW_none, errW_some] <;> rfl)) | (simp [*, errW_none, errW_some] <;> rfl), dL1_ HB GE529⟩
             ·rw [if_neg c38] at H
              have c38b0 : decide ((ji36) < (rd t525 x61_3)) = false := decide_eq_false c38
              clear c38
              by_cases c40 : x11_3 = true
              ·subst c40
               have H1 : (if x61_3 < (l3.length : Int) then (hinterlandlaw02_LandSettlesMost.l0 k3 l2 l3 (decide ((rd l3 x61_3) ≤ (ji36))) l2 (l2.length : Int) (wrap64 (x61_3 + 1)) t523 t524 t525) else (none)) = some r := by rw [if_pos rfl] at H; exact H
               clear H
               have H := H1
               clear H1
               by_cases c41 : x61_3 < (l3.length : Int)
               ·rw [if_pos c41] at H
                have c41b0 : decide (x61_3 < (l3.length : Int)) = true := decide_eq_true c41
                clear c41
                have H' := Aside0.mk H
                clear H
                have p533 : 0 ≤ (x61_3 : Int) := of_decide_eq_true tW_
                have q533 : x61_3 < (l2.length : Int) := of_decide_eq_true tW_
                obtain ⟨ad533, e533, hx533_0⟩ := Kd.at_int HR2.out x61_3 p533 q533
                cases e533
                replace hx533_0 := bc_ HB hx533_0
                replace p533 := eq_true p533
                replace q533 := eq_true q533
                obtain ⟨hcz42_0, hcz42_1, hcz42_2, hfz42_0, hfz42_1, hfz42_2⟩ := cs3_ BK529.out
                have p534 : 0 ≤ (x61_3 : Int) := of_decide_eq_true tW_
                have q534 : x61_3 < (t525.length : Int) := of_decide_eq_true tW_
                obtain ⟨ad534, e534, hx534_0⟩ := Kd.at_int (Kd.R_reads' HO_530002.out).2.2 x61_3 p534 q534
                cases e534
                replace p534 := eq_true p534
                replace q534 := eq_true q534
                have p535 : 0 ≤ (x61_3 : Int) := of_decide_eq_true tW_
                have q535 : x61_3 < (l3.length : Int) := of_decide_eq_true tW_
                obtain ⟨ad535, e535, hx535_0⟩ := Kd.at_int HR3.out x61_3 p535 q535
                cases e535
                replace hx535_0 := bc_ HB hx535_0
                replace p535 := eq_true p535
                replace q535 := eq_true q535
                go_wp2
                repeat (go_quiet (fail); try go_wp2)
                go_roundg k3
                case measure => have := HJ5.out; have := HJ20.out; have := HK3.out; omega
                case rel => exact ⟨(decide ((rd l3 x61_3) ≤ (ji36))), (wrap64 (x61_3 + 1)), (by first | rfl | (simp; done) | (simp only [← hji36]; rw [shl_one_small _ (by assumption) (by omega)]; done) | (simp only [← hji36] <;> (first | rfl | simp)) | (simp [*]; done) | (refine congrArg (Value.int .i64) ?_; unfold wrap64; omega) | (simp only [shl_one_small _ (by assumption) (by omega)]; done) | (simp [*]; rw [shl_one_small _ (by assumption) (by omega)]; done)), tS_, H', ⟨by have := HJ5.out; have := HJ20.out; have := HK3.out; omega⟩, ⟨dR_ HO_530002⟩, ⟨dB_ BK529⟩, ⟨dL1_ HB GE529⟩⟩
               ·rw [if_neg c41] at H
                exact absurd H (by simp)
              ·replace c40 := Bool.eq_false_iff.mpr c40
               subst c40
               have H1 : (hinterlandlaw02_LandSettlesMost.l0 k3 l2 l3 false l2 (l2.length : Int) (wrap64 (x61_3 + 1)) t523 t524 t525) = some r := by rw [if_neg (show ¬ (false = true) by decide)] at H; exact H
               clear H
               have H := H1
               clear H1
               have H' := Aside0.mk H
               clear H
               have p533 : 0 ≤ (x61_3 : Int) := of_decide_eq_true tW_
               have q533 : x61_3 < (l2.length : Int) := of_decide_eq_true tW_
               obtain ⟨ad533, e533, hx533_0⟩ := Kd.at_int HR2.out x61_3 p533 q533
               cases e533
               replace hx533_0 := bc_ HB hx533_0
               replace p533 := eq_true p533
               replace q533 := eq_true q533
               obtain ⟨hcz43_0, hcz43_1, hcz43_2, hfz43_0, hfz43_1, hfz43_2⟩ := cs3_ BK529.out
               have p534 : 0 ≤ (x61_3 : Int) := of_decide_eq_true tW_
               have q534 : x61_3 < (t525.length : Int) := of_decide_eq_true tW_
               obtain ⟨ad534, e534, hx534_0⟩ := Kd.at_int (Kd.R_reads' HO_530002.out).2.2 x61_3 p534 q534
               cases e534
               replace p534 := eq_true p534
               replace q534 := eq_true q534
               go_wp2
               repeat (go_quiet (fail); try go_wp2)
               go_roundg k3
               case measure => have := HJ5.out; have := HJ20.out; have := HK3.out; omega
               case rel => exact ⟨(false), (wrap64 (x61_3 + 1)), tS_, tS_, H', ⟨by have := HJ5.out; have := HJ20.out; have := HK3.out; omega⟩, ⟨dR_ HO_530002⟩, ⟨dB_ BK529⟩, ⟨dL1_ HB GE529⟩⟩
            ·rw [if_neg c37] at H
             exact absurd H (by simp)
           ·rw [if_neg c34] at H
            exact absurd H (by simp)
          ·rw [if_neg c33] at H
           exact absurd H (by simp)
         ·rw [if_neg c32] at H
          have c32b0 : decide (x61_3 < (l2.length : Int)) = false := decide_eq_false c32
          clear c32
          have H' := Aside0.mk H
          clear H
          go_wp2
          repeat (go_quiet (fail); try go_wp2)
          go_loopg [88] k3 (fun kq v88 w' => ∃ (x88_4 : Int), v88 = .int .i64 x88_4 ∧ Aside0 (hinterlandlaw02_LandSettlesMost.l1 kq l3 x11_3 (l2.length : Int) x88_4 t523 t524 t525 = some r) ∧ Aside0 (kq ≤ k3) ∧ Aside0 (Kd.R (Kd.int .i64) 3 w' w.heap.size (fun _ => True) (.slice Ao10 t525.length co10) t525) ∧ Aside0 (w'.heap[gb529]? = some (.cells #[.int .i64 t523, .int .i64 t524, (.slice Ao10 t525.length co10)] 24 (0, 0))) ∧ Aside0 (Below w.heap.size w w'))
          case atStart => exact ⟨(0), tS_, H', ⟨Nat.le_refl _⟩, ⟨dR_ HO_530002⟩, ⟨dB_ BK529⟩, ⟨dL1_ HB GE529⟩⟩
          case round =>
           clear H'
           try clear c2
           try clear c3
           try clear c11
           try clear c12
           try clear c13
           try clear c23
           try clear c29
           try clear c32
           try clear c32b0
           try clear c33
           try clear c34
           try clear c37
           try clear c38
           try clear c41
           try clear hcz9_0
           try clear hcz9_1
           try clear hcz9_2
           try clear hfz9_0
           try clear hfz9_1
           try clear hfz9_2
           obtain ⟨x88_4, rfl, HA, HK4, HO_530002, BK529, HB⟩ := hrel
           cases gk with
           | zero => exact absurd HA.out (by simp [hinterlandlaw02_LandSettlesMost.l1])
           | succ k4 =>
            have H := HA.out
            clear HA
            simp only [hinterlandlaw02_LandSettlesMost.l1] at H
            by_cases c44 : x88_4 < (l2.length : Int)
            ·rw [if_pos c44] at H
             have c44b0 : decide (x88_4 < (l2.length : Int)) = true := decide_eq_true c44
             clear c44
             have HC45 := Aside0.mk H
             clear H
             go_upto_region 18 with (fail)
             repeat (go_quiet (fail); go_upto_region 18 with (fail))
             go_cut [103] (fun v103 wc => ∃ (kq : Nat) (x103_44 : Bool), v103 = .bool x103_44 ∧ Aside0 (hinterlandlaw02_LandSettlesMost.j4 kq l3 x11_3 (l2.length : Int) x88_4 x103_44 t523 t524 t525 = some r) ∧ Aside0 (kq ≤ k4) ∧ Aside0 (Kd.R (Kd.int .i64) 3 wc w.heap.size (fun _ => True) (.slice Ao10 t525.length co10) t525) ∧ Aside0 (wc.heap[gb529]? = some (.cells #[.int .i64 t523, .int .i64 t524, (.slice Ao10 t525.length co10)] 24 (0, 0))) ∧ Aside0 (Below w.heap.size w wc))
             case first =>
              have H := HC45.out
              clear HC45
              by_cases c46 : x11_3 = true
              ·subst c46
               have H1 : (if 0 ≤ x88_4 then (if x88_4 < (l3.length : Int) then (if x88_4 < (t525.length : Int) then (hinterlandlaw02_LandSettlesMost.j4 k4 l3 true (l2.length : Int) x88_4 (decide ((rd l3 x88_4) > (rd t525 x88_4))) t523 t524 t525) else (none)) else (none)) else (none)) = some r := by rw [if_pos rfl] at H; exact H
               clear H
               have H := H1
               clear H1
               by_cases c47 : 0 ≤ x88_4
               ·rw [if_pos c47] at H
                have c47b0 : decide (0 ≤ x88_4) = true := decide_eq_true c47
                clear c47
                (first | rw [c47b0] | (simp only [i64_w, i32_w]; rw [c47b0]) | skip)
                by_cases c48 : x88_4 < (l3.length : Int)
                ·rw [if_pos c48] at H
                 have c48b0 : decide (x88_4 < (l3.length : Int)) = true := decide_eq_true c48
                 clear c48
                 by_cases c49 : x88_4 < (t525.length : Int)
                 ·rw [if_pos c49] at H
                  have c49b0 : decide (x88_4 < (t525.length : Int)) = true := decide_eq_true c49
                  clear c49
                  have H' := Aside0.mk H
                  clear H
                  have p537 : 0 ≤ (x88_4 : Int) := of_decide_eq_true tW_
                  have q537 : x88_4 < (l3.length : Int) := of_decide_eq_true tW_
                  obtain ⟨ad537, e537, hx537_0⟩ := Kd.at_int HR3.out x88_4 p537 q537
                  cases e537
                  replace hx537_0 := bc_ HB hx537_0
                  replace p537 := eq_true p537
                  replace q537 := eq_true q537
                  obtain ⟨hcz50_0, hcz50_1, hcz50_2, hfz50_0, hfz50_1, hfz50_2⟩ := cs3_ BK529.out
                  have p538 : 0 ≤ (x88_4 : Int) := of_decide_eq_true tW_
                  have q538 : x88_4 < (t525.length : Int) := of_decide_eq_true tW_
                  obtain ⟨ad538, e538, hx538_0⟩ := Kd.at_int (Kd.R_reads' HO_530002.out).2.2 x88_4 p538 q538
                  cases e538
                  replace p538 := eq_true p538
                  replace q538 := eq_true q538
                  go_wp2
                  repeat (go_quiet (fail); try go_wp2)
                  go_meet
                  case rel => exact ⟨_, (decide ((rd l3 x88_4) > (rd t525 x88_4))), tS_, H', ⟨by have := HJ5.out; have := HJ20.out; have := HK3.out; have := HK4.out; first | omega | exact Nat.le_refl _⟩, ⟨dR_ HO_530002⟩, ⟨dB_ BK529⟩, ⟨dL1_ HB GE529⟩⟩
                 ·rw [if_neg c49] at H
                  exact absurd H (by simp)
                ·rw [if_neg c48] at H
                 exact absurd H (by simp)
               ·rw [if_neg c47] at H
                exact absurd H (by simp)
              ·replace c46 := Bool.eq_false_iff.mpr c46
               subst c46
               have H1 : (hinterlandlaw02_LandSettlesMost.j4 k4 l3 false (l2.length : Int) x88_4 false t523 t524 t525) = some r := by rw [if_neg (show ¬ (false = true) by decide)] at H; exact H
               clear H
               have H := H1
               clear H1
               have H' := Aside0.mk H
               clear H
               go_wp2
               repeat (go_quiet (fail); try go_wp2)
               go_meet
               case rel => exact ⟨_, (false), tS_, H', ⟨by have := HJ5.out; have := HJ20.out; have := HK3.out; have := HK4.out; first | omega | exact Nat.le_refl _⟩, ⟨dR_ HO_530002⟩, ⟨dB_ BK529⟩, ⟨dL1_ HB GE529⟩⟩
             case rest =>
              clear HC45
              try clear c2
              try clear c3
              try clear c11
              try clear c12
              try clear c13
              try clear c23
              try clear c29
              try clear c32
              try clear c32b0
              try clear c33
              try clear c34
              try clear c37
              try clear c38
              try clear c41
              try clear c44
              try clear c44b0
              try clear c47
              try clear c48
              try clear c49
              try clear hcz9_0
              try clear hcz9_1
              try clear hcz9_2
              try clear hfz9_0
              try clear hfz9_1
              try clear hfz9_2
              obtain ⟨kq, x103_44, rfl, HA, HJ44, HO_530002, BK529, HB⟩ := hcut
              cases kq with
              | zero => exact absurd HA.out (by simp [hinterlandlaw02_LandSettlesMost.j4])
              | succ kj44 =>
               have H := HA.out
               clear HA
               simp only [hinterlandlaw02_LandSettlesMost.j4] at H
               by_cases c51 : x103_44 = true
               ·subst c51
                have H1 : (some false) = some r := by rw [if_pos rfl] at H; exact H
                clear H
                have H := H1
                clear H1
                obtain rfl := Option.some.inj H
                go_wp2
                repeat (go_quiet (fail); try go_wp2)
                go_ret
                exact ⟨tE_, dL1_ HB GE529⟩
               ·replace c51 := Bool.eq_false_iff.mpr c51
                subst c51
                have H1 : (hinterlandlaw02_LandSettlesMost.l1 kj44 l3 x11_3 (l2.length : Int) (wrap64 (x88_4 + 1)) t523 t524 t525) = some r := by rw [if_neg (show ¬ (false = true) by decide)] at H; exact H
                clear H
                have H := H1
                clear H1
                have H' := Aside0.mk H
                clear H
                go_wp2
                repeat (go_quiet (fail); try go_wp2)
                go_roundg kj44
                case measure => have := HJ5.out; have := HJ20.out; have := HK3.out; have := HK4.out; have := HJ44.out; omega
                case rel => exact ⟨(wrap64 (x88_4 + 1)), tS_, H', ⟨by have := HJ5.out; have := HJ20.out; have := HK3.out; have := HK4.out; have := HJ44.out; omega⟩, ⟨dR_ HO_530002⟩, ⟨dB_ BK529⟩, ⟨dL1_ HB GE529⟩⟩
            ·rw [if_neg c44] at H
             have c44b0 : decide (x88_4 < (l2.length : Int)) = false := decide_eq_false c44
             clear c44
             replace H := Option.bind_eq_some_iff.mp H
             obtain ⟨t536, A520, H⟩ := H
             replace H : (some t536) = some r := H
             have A52 := Aside0.mk A520
             clear A520
             obtain rfl := Option.some.inj H
             go_wp2_with (first | (go_at_call 16; (with_reducible refine (hinterlandlaw02_known.calls k4  t536 _ A52.out).mono ?_); rintro e w53 ⟨rfl, hb⟩; replace HO_530002 := Aside0.mk (Kd.R_below (dR_ HO_530002) hb); replace BK529 := Aside0.mk (blk_below (g := gb529) (o := .cells #[.int .i64 t523, .int .i64 t524, .slice Ao10 t525.length co10] 24 (0, 0)) (dB_ BK529) hb); replace HB := Aside0.mk (below_step (dL1_ HB GE529) hb)))
             repeat (go_quiet (first | (go_at_call 16; (with_reducible refine (hinterlandlaw02_known.calls k4  t536 _ A52.out).mono ?_); rintro e w53 ⟨rfl, hb⟩; replace HO_530002 := Aside0.mk (Kd.R_below (dR_ HO_530002) hb); replace BK529 := Aside0.mk (blk_below (g := gb529) (o := .cells #[.int .i64 t523, .int .i64 t524, .slice Ao10 t525.length co10] 24 (0, 0)) (dB_ BK529) hb); replace HB := Aside0.mk (below_step (dL1_ HB GE529) hb))); try go_wp2_with (first | (go_at_call 16; (with_reducible refine (hinterlandlaw02_known.calls k4  t536 _ A52.out).mono ?_); rintro e w53 ⟨rfl, hb⟩; replace HO_530002 := Aside0.mk (Kd.R_below (dR_ HO_530002) hb); replace BK529 := Aside0.mk (blk_below (g := gb529) (o := .cells #[.int .i64 t523, .int .i64 t524, .slice Ao10 t525.length co10] 24 (0, 0)) (dB_ BK529) hb); replace HB := Aside0.mk (below_step (dL1_ HB GE529) hb))))
             go_ret
             exact ⟨tE_, dL1_ HB GE529⟩

/-- THE ONE PURE STATEMENT of hinterlandlaw02_LandSettlesMost. -/
def hinterlandlaw02_LandSettlesMost.Pure : Prop := ∀ (a0 : Int) (a1 : Int) (l2 : List Int) (l3 : List Int), (wInt .i64) a0 → (wInt .i64) a1 → (wRow (wInt .i64)) l2 → (wRow (wInt .i64)) l3 → ∃ k, hinterlandlaw02_LandSettlesMost.f k a0 a1 l2 l3 = some true

end Go.Proofs.Ytchflcnegpnkkaa.Q

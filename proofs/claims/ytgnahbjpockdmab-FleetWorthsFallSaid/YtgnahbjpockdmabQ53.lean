-- PRINTED by print.py out of the translation. Not trusted: Lean checks it.
import Derived.Test.YtgnahbjpockdmabPrs
import Derived.Test.YtgnahbjpockdmabQ0
import Derived.Test.YtgnahbjpockdmabQ2
import Derived.Test.YtgnahbjpockdmabQ9
import Derived.Test.YtgnahbjpockdmabQ13
import Derived.Test.YtgnahbjpockdmabQ21
import Derived.Test.YtgnahbjpockdmabQ22
import Derived.Test.YtgnahbjpockdmabQ45
import Derived.Test.YtgnahbjpockdmabQ48
namespace Go.Proofs.Ytgnahbjpockdmab.Q
open Go.RowKit Go.Proofs.YtgnahbjpockdmabPrs Go.Proofs.YtgnahbjpockdmabOwn Go.Proofs.YtgnahbjpockdmabW.PrintWords Go.Proofs.YtgnahbjpockdmabW.PrintLast Go.Proofs.YtgnahbjpockdmabW.PrintMore
open List renaming setIfInBounds_toArray → sI_, set_cons_zero → s0_, set_cons_succ → sS_
attribute [local go_sem] max2_int min2_int max_two min_two max_three min_three max_four min_four   -- for this text's walks alone
set_option linter.unusedVariables false
set_option linter.unusedSimpArgs false

/-! ### hinterlandlaw14_FleetWorthsFall: function 5 -/
mutual
def hinterlandlaw14_FleetWorthsFall.j0 : Nat → List (S52) → Int → Bool → List Int → List Int → Int → Int → Int → Int → List (S49) → Int → Option (Bool)
  | 0, _, _, _, _, _, _, _, _, _, _, _ => none
  | k + 1, x0, x3, x27, x550000, x550001, x550002, x550003, x550004, x550005, x550006, x551000 => if x27 = true then ((hinterlandlaw14_known.f k).bind fun t553 => (some t553)) else ((fleet_Facts.f k x0 x550000).bind fun bt554 => ((fleet_Worth.f k x0 x550000 x550001 x550002 x550003 x550004 x550005 x550006).bind fun bt564 => (if bt554.2.2.2.2.2.2.2.2 = 0 then (if bt564.2 = 0 then (if bt564.1 > bt554.2.2.2.2.2.1 then (hinterlandlaw14_FleetWorthsFall.j1 k x0 x3 bt564.1 true x550000 x550001 x550002 x550003 x550004 x550005 x550006 x551000) else (hinterlandlaw14_FleetWorthsFall.j1 k x0 x3 bt564.1 (decide (bt564.1 < 0)) x550000 x550001 x550002 x550003 x550004 x550005 x550006 x551000)) else (hinterlandlaw14_FleetWorthsFall.j1 k x0 x3 bt564.1 true x550000 x550001 x550002 x550003 x550004 x550005 x550006 x551000)) else (hinterlandlaw14_FleetWorthsFall.j1 k x0 x3 bt564.1 true x550000 x550001 x550002 x550003 x550004 x550005 x550006 x551000))))
def hinterlandlaw14_FleetWorthsFall.j1 : Nat → List (S52) → Int → Int → Bool → List Int → List Int → Int → Int → Int → Int → List (S49) → Int → Option (Bool)
  | 0, _, _, _, _, _, _, _, _, _, _, _, _ => none
  | k + 1, x0, x3, x11, x57, x550000, x550001, x550002, x550003, x550004, x550005, x550006, x551000 => if x57 = true then (some false) else (hinterlandlaw14_FleetWorthsFall.l0 k x0 x11 (mn x3 50) 0 x550000 x550001 x550002 x550003 x550004 x550005 x550006 x551000)
def hinterlandlaw14_FleetWorthsFall.l0 : Nat → List (S52) → Int → Int → Int → List Int → List Int → Int → Int → Int → Int → List (S49) → Int → Option (Bool)
  | 0, _, _, _, _, _, _, _, _, _, _, _, _ => none
  | k + 1, x0, x11, x59, x60, x550000, x550001, x550002, x550003, x550004, x550005, x550006, x551000 => if x60 < x59 then ((fleet_Day.f k x0 x550000 x550001 x550002 x550003 x550004 x550005 x550006 x551000).bind fun bt567 => ((fleet_Worth.f k x0 bt567.1 bt567.2.1 bt567.2.2.1 bt567.2.2.2.1 bt567.2.2.2.2.1 bt567.2.2.2.2.2.1 bt567.2.2.2.2.2.2.1).bind fun bt585 => (if bt567.2.2.2.2.2.2.2.2.2 = 0 then (if bt585.2 = 0 then (if bt585.1 > x11 then (hinterlandlaw14_FleetWorthsFall.j3 k x0 bt585.1 x59 x60 true bt567.1 bt567.2.1 bt567.2.2.1 bt567.2.2.2.1 bt567.2.2.2.2.1 bt567.2.2.2.2.2.1 bt567.2.2.2.2.2.2.1 bt567.2.2.2.2.2.2.2.2.1) else (if bt585.1 < 0 then (hinterlandlaw14_FleetWorthsFall.j3 k x0 bt585.1 x59 x60 true bt567.1 bt567.2.1 bt567.2.2.1 bt567.2.2.2.1 bt567.2.2.2.2.1 bt567.2.2.2.2.2.1 bt567.2.2.2.2.2.2.1 bt567.2.2.2.2.2.2.2.2.1) else (if bt567.2.2.2.2.1 > x550004 then (hinterlandlaw14_FleetWorthsFall.j3 k x0 bt585.1 x59 x60 true bt567.1 bt567.2.1 bt567.2.2.1 bt567.2.2.2.1 bt567.2.2.2.2.1 bt567.2.2.2.2.2.1 bt567.2.2.2.2.2.2.1 bt567.2.2.2.2.2.2.2.2.1) else (if bt567.2.2.1 < x550002 then (hinterlandlaw14_FleetWorthsFall.j3 k x0 bt585.1 x59 x60 true bt567.1 bt567.2.1 bt567.2.2.1 bt567.2.2.2.1 bt567.2.2.2.2.1 bt567.2.2.2.2.2.1 bt567.2.2.2.2.2.2.1 bt567.2.2.2.2.2.2.2.2.1) else ((api_Parcel.f k bt567.2.2.2.2.2.2.1 x550006).bind fun t587 => (hinterlandlaw14_FleetWorthsFall.j3 k x0 bt585.1 x59 x60 (!t587) bt567.1 bt567.2.1 bt567.2.2.1 bt567.2.2.2.1 bt567.2.2.2.2.1 bt567.2.2.2.2.2.1 bt567.2.2.2.2.2.2.1 bt567.2.2.2.2.2.2.2.2.1)))))) else (hinterlandlaw14_FleetWorthsFall.j3 k x0 bt585.1 x59 x60 true bt567.1 bt567.2.1 bt567.2.2.1 bt567.2.2.2.1 bt567.2.2.2.2.1 bt567.2.2.2.2.2.1 bt567.2.2.2.2.2.2.1 bt567.2.2.2.2.2.2.2.2.1)) else (hinterlandlaw14_FleetWorthsFall.j3 k x0 bt585.1 x59 x60 true bt567.1 bt567.2.1 bt567.2.2.1 bt567.2.2.2.1 bt567.2.2.2.2.1 bt567.2.2.2.2.2.1 bt567.2.2.2.2.2.2.1 bt567.2.2.2.2.2.2.2.2.1)))) else ((hinterlandlaw14_known.f k).bind fun t566 => (some t566))
def hinterlandlaw14_FleetWorthsFall.j3 : Nat → List (S52) → Int → Int → Int → Bool → List Int → List Int → Int → Int → Int → Int → List (S49) → Int → Option (Bool)
  | 0, _, _, _, _, _, _, _, _, _, _, _, _, _ => none
  | k + 1, x0, x17, x59, x60, x113, x584000, x584001, x584002, x584003, x584004, x584005, x584006, x585000 => if x113 = true then (some false) else (hinterlandlaw14_FleetWorthsFall.l0 k x0 x17 x59 (wrap64 (x60 + 1)) x584000 x584001 x584002 x584003 x584004 x584005 x584006 x585000)
end
def hinterlandlaw14_FleetWorthsFall.f (k : Nat) (l0 : List (S52)) (l1_0 : List Int) (l1_1 : List Int) (a1_2 : Int) (a1_3 : Int) (a1_4 : Int) (a1_5 : Int) (l1_6 : List (S49)) (a2_0 : Int) (a3 : Int) : Option (Bool) := (hinterlandlaw14_large.f k l0 l1_0 l1_1 a1_2 a1_3 a1_4 a1_5 l1_6).bind fun t551 => (if t551 = true then (hinterlandlaw14_FleetWorthsFall.j0 k l0 a3 true l1_0 l1_1 a1_2 a1_3 a1_4 a1_5 l1_6 a2_0) else ((fleet_Validate.f k l0 l1_0 l1_1 a1_2 a1_3 a1_4 a1_5 l1_6).bind fun t552 => (hinterlandlaw14_FleetWorthsFall.j0 k l0 a3 (t552 != 0) l1_0 l1_1 a1_2 a1_3 a1_4 a1_5 l1_6 a2_0)))
theorem hinterlandlaw14_FleetWorthsFall.mono_l : ∀ k, (∀ y0 y1 y2 y3 y4 y5 y6 y7 y8 y9 y10, LeO (hinterlandlaw14_FleetWorthsFall.j0 k y0 y1 y2 y3 y4 y5 y6 y7 y8 y9 y10) (hinterlandlaw14_FleetWorthsFall.j0 (k + 1) y0 y1 y2 y3 y4 y5 y6 y7 y8 y9 y10)) ∧ (∀ y0 y1 y2 y3 y4 y5 y6 y7 y8 y9 y10 y11, LeO (hinterlandlaw14_FleetWorthsFall.j1 k y0 y1 y2 y3 y4 y5 y6 y7 y8 y9 y10 y11) (hinterlandlaw14_FleetWorthsFall.j1 (k + 1) y0 y1 y2 y3 y4 y5 y6 y7 y8 y9 y10 y11)) ∧ (∀ y0 y1 y2 y3 y4 y5 y6 y7 y8 y9 y10 y11, LeO (hinterlandlaw14_FleetWorthsFall.l0 k y0 y1 y2 y3 y4 y5 y6 y7 y8 y9 y10 y11) (hinterlandlaw14_FleetWorthsFall.l0 (k + 1) y0 y1 y2 y3 y4 y5 y6 y7 y8 y9 y10 y11)) ∧ (∀ y0 y1 y2 y3 y4 y5 y6 y7 y8 y9 y10 y11 y12, LeO (hinterlandlaw14_FleetWorthsFall.j3 k y0 y1 y2 y3 y4 y5 y6 y7 y8 y9 y10 y11 y12) (hinterlandlaw14_FleetWorthsFall.j3 (k + 1) y0 y1 y2 y3 y4 y5 y6 y7 y8 y9 y10 y11 y12))
  | 0 => ⟨fun _ _ _ _ _ _ _ _ _ _ _ r h => by simp [hinterlandlaw14_FleetWorthsFall.j0] at h, fun _ _ _ _ _ _ _ _ _ _ _ _ r h => by simp [hinterlandlaw14_FleetWorthsFall.j1] at h, fun _ _ _ _ _ _ _ _ _ _ _ _ r h => by simp [hinterlandlaw14_FleetWorthsFall.l0] at h, fun _ _ _ _ _ _ _ _ _ _ _ _ _ r h => by simp [hinterlandlaw14_FleetWorthsFall.j3] at h⟩
  | k + 1 => by
    obtain ⟨ih0, ih1, ih2, ih3⟩ := hinterlandlaw14_FleetWorthsFall.mono_l k
    refine ⟨?_, ?_, ?_, ?_⟩
    · intro y0 y1 y2 y3 y4 y5 y6 y7 y8 y9 y10
      unfold hinterlandlaw14_FleetWorthsFall.j0
      repeat' first
      | (with_reducible first | exact ih0 _ _ _ _ _ _ _ _ _ _ _ | exact ih1 _ _ _ _ _ _ _ _ _ _ _ _ | exact ih2 _ _ _ _ _ _ _ _ _ _ _ _ | exact ih3 _ _ _ _ _ _ _ _ _ _ _ _ _ | exact api_Parcel.mono _ _ _ | exact fleet_Day.mono _ _ _ _ _ _ _ _ _ _ | exact fleet_Facts.mono _ _ _ | exact fleet_Validate.mono _ _ _ _ _ _ _ _ _ | exact fleet_Worth.mono _ _ _ _ _ _ _ _ _ | exact hinterlandlaw14_known.mono _ | exact hinterlandlaw14_large.mono _ _ _ _ _ _ _ _ _ | exact LeO.refl _ | exact LeO.none _ | refine LeO.ite ?_ ?_ | refine LeO.bind ?_ (fun _ => ?_))
      | exact ih0 _ _ _ _ _ _ _ _ _ _ _
      | exact ih1 _ _ _ _ _ _ _ _ _ _ _ _
      | exact ih2 _ _ _ _ _ _ _ _ _ _ _ _
      | exact ih3 _ _ _ _ _ _ _ _ _ _ _ _ _
      | exact api_Parcel.mono _ _ _
      | exact fleet_Day.mono _ _ _ _ _ _ _ _ _ _
      | exact fleet_Facts.mono _ _ _
      | exact fleet_Validate.mono _ _ _ _ _ _ _ _ _
      | exact fleet_Worth.mono _ _ _ _ _ _ _ _ _
      | exact hinterlandlaw14_known.mono _
      | exact hinterlandlaw14_large.mono _ _ _ _ _ _ _ _ _
      | exact LeO.none _
      | refine LeO.ite ?_ ?_
      | refine LeO.bind ?_ (fun _ => ?_)
    · intro y0 y1 y2 y3 y4 y5 y6 y7 y8 y9 y10 y11
      unfold hinterlandlaw14_FleetWorthsFall.j1
      repeat' first
      | (with_reducible first | exact ih0 _ _ _ _ _ _ _ _ _ _ _ | exact ih1 _ _ _ _ _ _ _ _ _ _ _ _ | exact ih2 _ _ _ _ _ _ _ _ _ _ _ _ | exact ih3 _ _ _ _ _ _ _ _ _ _ _ _ _ | exact api_Parcel.mono _ _ _ | exact fleet_Day.mono _ _ _ _ _ _ _ _ _ _ | exact fleet_Facts.mono _ _ _ | exact fleet_Validate.mono _ _ _ _ _ _ _ _ _ | exact fleet_Worth.mono _ _ _ _ _ _ _ _ _ | exact hinterlandlaw14_known.mono _ | exact hinterlandlaw14_large.mono _ _ _ _ _ _ _ _ _ | exact LeO.refl _ | exact LeO.none _ | refine LeO.ite ?_ ?_ | refine LeO.bind ?_ (fun _ => ?_))
      | exact ih0 _ _ _ _ _ _ _ _ _ _ _
      | exact ih1 _ _ _ _ _ _ _ _ _ _ _ _
      | exact ih2 _ _ _ _ _ _ _ _ _ _ _ _
      | exact ih3 _ _ _ _ _ _ _ _ _ _ _ _ _
      | exact api_Parcel.mono _ _ _
      | exact fleet_Day.mono _ _ _ _ _ _ _ _ _ _
      | exact fleet_Facts.mono _ _ _
      | exact fleet_Validate.mono _ _ _ _ _ _ _ _ _
      | exact fleet_Worth.mono _ _ _ _ _ _ _ _ _
      | exact hinterlandlaw14_known.mono _
      | exact hinterlandlaw14_large.mono _ _ _ _ _ _ _ _ _
      | exact LeO.none _
      | refine LeO.ite ?_ ?_
      | refine LeO.bind ?_ (fun _ => ?_)
    · intro y0 y1 y2 y3 y4 y5 y6 y7 y8 y9 y10 y11
      unfold hinterlandlaw14_FleetWorthsFall.l0
      repeat' first
      | (with_reducible first | exact ih0 _ _ _ _ _ _ _ _ _ _ _ | exact ih1 _ _ _ _ _ _ _ _ _ _ _ _ | exact ih2 _ _ _ _ _ _ _ _ _ _ _ _ | exact ih3 _ _ _ _ _ _ _ _ _ _ _ _ _ | exact api_Parcel.mono _ _ _ | exact fleet_Day.mono _ _ _ _ _ _ _ _ _ _ | exact fleet_Facts.mono _ _ _ | exact fleet_Validate.mono _ _ _ _ _ _ _ _ _ | exact fleet_Worth.mono _ _ _ _ _ _ _ _ _ | exact hinterlandlaw14_known.mono _ | exact hinterlandlaw14_large.mono _ _ _ _ _ _ _ _ _ | exact LeO.refl _ | exact LeO.none _ | refine LeO.ite ?_ ?_ | refine LeO.bind ?_ (fun _ => ?_))
      | exact ih0 _ _ _ _ _ _ _ _ _ _ _
      | exact ih1 _ _ _ _ _ _ _ _ _ _ _ _
      | exact ih2 _ _ _ _ _ _ _ _ _ _ _ _
      | exact ih3 _ _ _ _ _ _ _ _ _ _ _ _ _
      | exact api_Parcel.mono _ _ _
      | exact fleet_Day.mono _ _ _ _ _ _ _ _ _ _
      | exact fleet_Facts.mono _ _ _
      | exact fleet_Validate.mono _ _ _ _ _ _ _ _ _
      | exact fleet_Worth.mono _ _ _ _ _ _ _ _ _
      | exact hinterlandlaw14_known.mono _
      | exact hinterlandlaw14_large.mono _ _ _ _ _ _ _ _ _
      | exact LeO.none _
      | refine LeO.ite ?_ ?_
      | refine LeO.bind ?_ (fun _ => ?_)
    · intro y0 y1 y2 y3 y4 y5 y6 y7 y8 y9 y10 y11 y12
      unfold hinterlandlaw14_FleetWorthsFall.j3
      repeat' first
      | (with_reducible first | exact ih0 _ _ _ _ _ _ _ _ _ _ _ | exact ih1 _ _ _ _ _ _ _ _ _ _ _ _ | exact ih2 _ _ _ _ _ _ _ _ _ _ _ _ | exact ih3 _ _ _ _ _ _ _ _ _ _ _ _ _ | exact api_Parcel.mono _ _ _ | exact fleet_Day.mono _ _ _ _ _ _ _ _ _ _ | exact fleet_Facts.mono _ _ _ | exact fleet_Validate.mono _ _ _ _ _ _ _ _ _ | exact fleet_Worth.mono _ _ _ _ _ _ _ _ _ | exact hinterlandlaw14_known.mono _ | exact hinterlandlaw14_large.mono _ _ _ _ _ _ _ _ _ | exact LeO.refl _ | exact LeO.none _ | refine LeO.ite ?_ ?_ | refine LeO.bind ?_ (fun _ => ?_))
      | exact ih0 _ _ _ _ _ _ _ _ _ _ _
      | exact ih1 _ _ _ _ _ _ _ _ _ _ _ _
      | exact ih2 _ _ _ _ _ _ _ _ _ _ _ _
      | exact ih3 _ _ _ _ _ _ _ _ _ _ _ _ _
      | exact api_Parcel.mono _ _ _
      | exact fleet_Day.mono _ _ _ _ _ _ _ _ _ _
      | exact fleet_Facts.mono _ _ _
      | exact fleet_Validate.mono _ _ _ _ _ _ _ _ _
      | exact fleet_Worth.mono _ _ _ _ _ _ _ _ _
      | exact hinterlandlaw14_known.mono _
      | exact hinterlandlaw14_large.mono _ _ _ _ _ _ _ _ _
      | exact LeO.none _
      | refine LeO.ite ?_ ?_
      | refine LeO.bind ?_ (fun _ => ?_)
theorem hinterlandlaw14_FleetWorthsFall.mono : ∀ a0 a1 a2 a3 a4 a5 a6 a7 a8 a9 k, LeO (hinterlandlaw14_FleetWorthsFall.f k a0 a1 a2 a3 a4 a5 a6 a7 a8 a9) (hinterlandlaw14_FleetWorthsFall.f (k + 1) a0 a1 a2 a3 a4 a5 a6 a7 a8 a9) := by
  intro a0 a1 a2 a3 a4 a5 a6 a7 a8 a9 k
  obtain ⟨ih0, ih1, ih2, ih3⟩ := hinterlandlaw14_FleetWorthsFall.mono_l k
  unfold hinterlandlaw14_FleetWorthsFall.f
  repeat' first
      | (with_reducible first | exact ih0 _ _ _ _ _ _ _ _ _ _ _ | exact ih1 _ _ _ _ _ _ _ _ _ _ _ _ | exact ih2 _ _ _ _ _ _ _ _ _ _ _ _ | exact ih3 _ _ _ _ _ _ _ _ _ _ _ _ _ | exact api_Parcel.mono _ _ _ | exact fleet_Day.mono _ _ _ _ _ _ _ _ _ _ | exact fleet_Facts.mono _ _ _ | exact fleet_Validate.mono _ _ _ _ _ _ _ _ _ | exact fleet_Worth.mono _ _ _ _ _ _ _ _ _ | exact hinterlandlaw14_known.mono _ | exact hinterlandlaw14_large.mono _ _ _ _ _ _ _ _ _ | exact LeO.refl _ | exact LeO.none _ | refine LeO.ite ?_ ?_ | refine LeO.bind ?_ (fun _ => ?_))
      | exact ih0 _ _ _ _ _ _ _ _ _ _ _
      | exact ih1 _ _ _ _ _ _ _ _ _ _ _ _
      | exact ih2 _ _ _ _ _ _ _ _ _ _ _ _
      | exact ih3 _ _ _ _ _ _ _ _ _ _ _ _ _
      | exact api_Parcel.mono _ _ _
      | exact fleet_Day.mono _ _ _ _ _ _ _ _ _ _
      | exact fleet_Facts.mono _ _ _
      | exact fleet_Validate.mono _ _ _ _ _ _ _ _ _
      | exact fleet_Worth.mono _ _ _ _ _ _ _ _ _
      | exact hinterlandlaw14_known.mono _
      | exact hinterlandlaw14_large.mono _ _ _ _ _ _ _ _ _
      | exact LeO.none _
      | refine LeO.ite ?_ ?_
      | refine LeO.bind ?_ (fun _ => ?_)
set_option maxHeartbeats 80000000 in
set_option maxRecDepth 100000 in
theorem hinterlandlaw14_FleetWorthsFall.calls (k : Nat) (A0 : Option Addr) (c0 : Nat) (l0 : List (S52)) (P1_0_ : Nat → Prop) (A1_0 : Option Addr) (c1_0 : Nat) (l1_0 : List Int) (P1_1_ : Nat → Prop) (A1_1 : Option Addr) (c1_1 : Nat) (l1_1 : List Int) (a1_2 : Int) (a1_3 : Int) (a1_4 : Int) (a1_5 : Int) (P1_6_ : Nat → Prop) (A1_6 : Option Addr) (c1_6 : Nat) (l1_6 : List (S49)) (a2_0 : Int) (a3 : Int) (r : Bool) (w : World) (hr0 : Kd.C k52 w A0 l0.length l0) (hc0 : l0.length ≤ c0) (hs1_0 : Kd.V (Kd.int .i64) 3 w w.heap.size (fun k_ => P1_0_ k_) (.slice A1_0 l1_0.length c1_0) l1_0) (hs1_1 : Kd.V (Kd.int .i64) 3 w w.heap.size (fun k_ => P1_1_ k_) (.slice A1_1 l1_1.length c1_1) l1_1) (hs1_6 : Kd.V k49 49 w w.heap.size (fun k_ => P1_6_ k_) (.slice A1_6 l1_6.length c1_6) l1_6) (h : hinterlandlaw14_FleetWorthsFall.f k l0 l1_0 l1_1 a1_2 a1_3 a1_4 a1_5 l1_6 a2_0 a3 = some r) :
    Calls Try.prog 5 #[.slice A0 l0.length c0, .agg #[.slice A1_0 l1_0.length c1_0, .slice A1_1 l1_1.length c1_1, .int .i64 a1_2, .int .i64 a1_3, .int .i64 a1_4, .int .i64 a1_5, .slice A1_6 l1_6.length c1_6], .agg #[.int .u64 a2_0], .int .i64 a3] w fun e w' => e = .returned (.bool r) ∧ Below w.heap.size w w' := by
 have hu26 := Try.underlying26
 have hu37 := Try.underlying37
 have hu42 := Try.underlying42
 have HR0 := Aside0.mk hr0
 have HC0 := Aside0.mk hc0
 clear hr0 hc0
 have HO1_0 := Aside0.mk (show Kd.V (Kd.int .i64) 3 w w.heap.size (fun k_ => ((P1_0_ k_ ∨ P1_1_ k_ ∨ P1_6_ k_) ∨ w.heap.size ≤ k_)) (.slice A1_0 l1_0.length c1_0) l1_0 from Kd.V_mono hs1_0 (fun k_ hk => .inl (.inl hk)))
 have HO1_1 := Aside0.mk (show Kd.V (Kd.int .i64) 3 w w.heap.size (fun k_ => ((P1_0_ k_ ∨ P1_1_ k_ ∨ P1_6_ k_) ∨ w.heap.size ≤ k_)) (.slice A1_1 l1_1.length c1_1) l1_1 from Kd.V_mono hs1_1 (fun k_ hk => .inl (.inr (.inl hk))))
 have HO1_6 := Aside0.mk (show Kd.V k49 49 w w.heap.size (fun k_ => ((P1_0_ k_ ∨ P1_1_ k_ ∨ P1_6_ k_) ∨ w.heap.size ≤ k_)) (.slice A1_6 l1_6.length c1_6) l1_6 from Kd.V_mono hs1_6 (fun k_ hk => .inl (.inr (.inr hk))))
 have HB := Aside0.mk (Below.refl w.heap.size w)
 have H : ((hinterlandlaw14_large.f k l0 l1_0 l1_1 a1_2 a1_3 a1_4 a1_5 l1_6).bind fun t551 => (if t551 = true then (hinterlandlaw14_FleetWorthsFall.j0 k l0 a3 true l1_0 l1_1 a1_2 a1_3 a1_4 a1_5 l1_6 a2_0) else ((fleet_Validate.f k l0 l1_0 l1_1 a1_2 a1_3 a1_4 a1_5 l1_6).bind fun t552 => (hinterlandlaw14_FleetWorthsFall.j0 k l0 a3 (t552 != 0) l1_0 l1_1 a1_2 a1_3 a1_4 a1_5 l1_6 a2_0)))) = some r := h
 clear h
 have HC5 := Aside0.mk H
 clear H
 go_enter Try.func5, Try.ntmps5
 go_upto_region 1 with (first | ((with_reducible refine gate_dst (N := 5) rfl ?_); refine box_event ?hg (N := 5) ?hd (cs := #[.slice A1_0 l1_0.length c1_0, .slice A1_1 l1_1.length c1_1, .int .i64 a1_2, .int .i64 a1_3, .int .i64 a1_4, .int .i64 a1_5, .slice A1_6 l1_6.length c1_6]) (t := 26) ?hr ?_; (case hd => rfl); (case hg => rfl); (case hr => first | (go_simp; done) | (go_simp; rfl)); intro gb549 hg w6 hbox hb; replace HO1_0 := Aside0.mk (Kd.V_below (Kd.V_elderB (by (with_reducible repeat (first | apply Kd.V_alloc | apply Kd.V_drewN | apply Kd.V_drew)); exact HO1_0.out) gb549 (Nat.le_of_eq hg.symm)) hb); replace HO1_1 := Aside0.mk (Kd.V_below (Kd.V_elderB (by (with_reducible repeat (first | apply Kd.V_alloc | apply Kd.V_drewN | apply Kd.V_drew)); exact HO1_1.out) gb549 (Nat.le_of_eq hg.symm)) hb); replace HO1_6 := Aside0.mk (Kd.V_below (Kd.V_elderB (by (with_reducible repeat (first | apply Kd.V_alloc | apply Kd.V_drewN | apply Kd.V_drew)); exact HO1_6.out) gb549 (Nat.le_of_eq hg.symm)) hb); have BK549 := Aside0.mk (hbox); have GW549 := Aside0.mk ((dS_ hg (dL_ HB) : w.heap.size ≤ gb549)); have GE549 := Aside0.mk ((dS_ hg (dL_ HB) : w.heap.size ≤ gb549)); replace HB := Aside0.mk (below_step (dL_ HB) hb); clear hb hbox hg) | ((with_reducible refine gate_dst (N := 6) rfl ?_); refine box_event ?hg (N := 6) ?hd (cs := #[.int .u64 a2_0]) (t := 37) ?hr ?_; (case hd => rfl); (case hg => rfl); (case hr => first | (go_simp; done) | (go_simp; rfl)); intro gb550 hg w7 hbox hb; replace HO1_0 := Aside0.mk (Kd.V_below (Kd.V_elderB (by (with_reducible repeat (first | apply Kd.V_alloc | apply Kd.V_drewN | apply Kd.V_drew)); exact HO1_0.out) gb550 (Nat.le_of_eq hg.symm)) hb); replace HO1_1 := Aside0.mk (Kd.V_below (Kd.V_elderB (by (with_reducible repeat (first | apply Kd.V_alloc | apply Kd.V_drewN | apply Kd.V_drew)); exact HO1_1.out) gb550 (Nat.le_of_eq hg.symm)) hb); replace HO1_6 := Aside0.mk (Kd.V_below (Kd.V_elderB (by (with_reducible repeat (first | apply Kd.V_alloc | apply Kd.V_drewN | apply Kd.V_drew)); exact HO1_6.out) gb550 (Nat.le_of_eq hg.symm)) hb); have BK550 := Aside0.mk (hbox); have GW550 := Aside0.mk ((dS_ hg (dL1_ HB GE549) : w.heap.size ≤ gb550)); have GE550 := Aside0.mk ((dS_ hg (dL1_ HB GE549) : w.heap.size ≤ gb550)); replace HB := Aside0.mk (below_step (dL1_ HB GE549) hb); have NB549_550 := Aside0.mk ((by rw [hg]; exact Nat.ne_of_lt (blk_lt (dB_ BK549)) : gb549 ≠ gb550)); have NB550_549 := Aside0.mk ((by rw [hg]; exact Nat.ne_of_gt (blk_lt (dB_ BK549)) : gb550 ≠ gb549)); replace BK549 := Aside0.mk (blk_below (g := gb549) (o := .cells #[.slice A1_0 l1_0.length c1_0, .slice A1_1 l1_1.length c1_1, .int .i64 a1_2, .int .i64 a1_3, .int .i64 a1_4, .int .i64 a1_5, .slice A1_6 l1_6.length c1_6] 26 (0, 0)) (dB_ BK549) hb); clear hb hbox hg))
 (try simp only [Act.put, sI_, s0_, sS_])
 go_cut [27] (fun v27 wc => ∃ (kq : Nat) (x27_4 : Bool), v27 = .bool x27_4 ∧ Aside0 (hinterlandlaw14_FleetWorthsFall.j0 kq l0 a3 x27_4 l1_0 l1_1 a1_2 a1_3 a1_4 a1_5 l1_6 a2_0 = some r) ∧ Aside0 (kq ≤ k) ∧ Aside0 (Kd.V (Kd.int .i64) 3 wc w.heap.size (fun k_ => ((P1_0_ k_ ∨ P1_1_ k_ ∨ P1_6_ k_) ∨ w.heap.size ≤ k_) ∧ k_ ≠ gb549 ∧ k_ ≠ gb550) (.slice A1_0 l1_0.length c1_0) l1_0) ∧ Aside0 (Kd.V (Kd.int .i64) 3 wc w.heap.size (fun k_ => ((P1_0_ k_ ∨ P1_1_ k_ ∨ P1_6_ k_) ∨ w.heap.size ≤ k_) ∧ k_ ≠ gb549 ∧ k_ ≠ gb550) (.slice A1_1 l1_1.length c1_1) l1_1) ∧ Aside0 (Kd.V k49 49 wc w.heap.size (fun k_ => ((P1_0_ k_ ∨ P1_1_ k_ ∨ P1_6_ k_) ∨ w.heap.size ≤ k_) ∧ k_ ≠ gb549 ∧ k_ ≠ gb550) (.slice A1_6 l1_6.length c1_6) l1_6) ∧ Aside0 (wc.heap[gb549]? = some (.cells #[(.slice A1_0 l1_0.length c1_0), (.slice A1_1 l1_1.length c1_1), .int .i64 a1_2, .int .i64 a1_3, .int .i64 a1_4, .int .i64 a1_5, (.slice A1_6 l1_6.length c1_6)] 26 (0, 0))) ∧ Aside0 (wc.heap[gb550]? = some (.cells #[.int .u64 a2_0] 37 (0, 0))) ∧ Aside0 (Below w.heap.size w wc))
 case first =>
  have H := HC5.out
  clear HC5
  replace H := Option.bind_eq_some_iff.mp H
  obtain ⟨t551, A80, H⟩ := H
  replace H : (if t551 = true then (hinterlandlaw14_FleetWorthsFall.j0 k l0 a3 true l1_0 l1_1 a1_2 a1_3 a1_4 a1_5 l1_6 a2_0) else ((fleet_Validate.f k l0 l1_0 l1_1 a1_2 a1_3 a1_4 a1_5 l1_6).bind fun t552 => (hinterlandlaw14_FleetWorthsFall.j0 k l0 a3 (t552 != 0) l1_0 l1_1 a1_2 a1_3 a1_4 a1_5 l1_6 a2_0))) = some r := H
  have A8 := Aside0.mk A80
  clear A80
  by_cases c9 : t551 = true
  ·subst c9
   have H1 : (hinterlandlaw14_FleetWorthsFall.j0 k l0 a3 true l1_0 l1_1 a1_2 a1_3 a1_4 a1_5 l1_6 a2_0) = some r := by rw [if_pos rfl] at H; exact H
   clear H
   have H := H1
   clear H1
   have H' := Aside0.mk H
   clear H
   have hnb10 := NB549_550.out
   have hnc10 := NB550_549.out
   obtain ⟨hcz11_0, hcz11_1, hcz11_2, hcz11_3, hcz11_4, hcz11_5, hcz11_6, hfz11_0, hfz11_1, hfz11_2, hfz11_3, hfz11_4, hfz11_5, hfz11_6⟩ := cs7_ BK549.out
   go_wp2_with (first | ((with_reducible refine gate_callee (f := 6) rfl ?_); refine goesL_ (some 21) rfl rfl Try.func6 (by kernel_rfl) rfl #[.slice A0 l0.length c0, .agg #[.slice A1_0 l1_0.length c1_0, .slice A1_1 l1_1.length c1_1, .int .i64 a1_2, .int .i64 a1_3, .int .i64 a1_4, .int .i64 a1_5, .slice A1_6 l1_6.length c1_6]] rfl tA_ ?_; (with_reducible refine (hinterlandlaw14_large.calls k _ _ l0 _ _ l1_0 _ _ l1_1 a1_2 a1_3 a1_4 a1_5 _ _ l1_6 true _ ?side1 ?side2 ?side3 ?side4 ?side5 ?side6 ?side7 ?side8 A8.out).mono ?_); (case side1 => exact dC_ HR0 HB); (case side2 => exact HC0.out); (case side3 => repeat (first | exact (Kd.V_reads' HO1_0.out).2.2 | (with_reducible refine Kd.C_alloc ?_ _) | (with_reducible refine Kd.C_drewN ?_ _) | (with_reducible refine Kd.C_drew ?_))); (case side4 => exact (Kd.V_reads' HO1_0.out).2.1); (case side5 => repeat (first | exact (Kd.V_reads' HO1_1.out).2.2 | (with_reducible refine Kd.C_alloc ?_ _) | (with_reducible refine Kd.C_drewN ?_ _) | (with_reducible refine Kd.C_drew ?_))); (case side6 => exact (Kd.V_reads' HO1_1.out).2.1); (case side7 => repeat (first | exact (Kd.V_reads' HO1_6.out).2.2 | (with_reducible refine Kd.C_alloc ?_ _) | (with_reducible refine Kd.C_drewN ?_ _) | (with_reducible refine Kd.C_drew ?_))); (case side8 => exact (Kd.V_reads' HO1_6.out).2.1); rintro e w12 ⟨rfl, hb⟩; refine ⟨_, rfl, ?_⟩; replace HO1_0 := Aside0.mk (Kd.V_below (by (with_reducible repeat (first | apply Kd.V_alloc | apply Kd.V_drewN | apply Kd.V_drew)); exact HO1_0.out) hb); replace HO1_1 := Aside0.mk (Kd.V_below (by (with_reducible repeat (first | apply Kd.V_alloc | apply Kd.V_drewN | apply Kd.V_drew)); exact HO1_1.out) hb); replace HO1_6 := Aside0.mk (Kd.V_below (by (with_reducible repeat (first | apply Kd.V_alloc | apply Kd.V_drewN | apply Kd.V_drew)); exact HO1_6.out) hb); replace BK549 := Aside0.mk (blk_below (g := gb549) (o := .cells #[.slice A1_0 l1_0.length c1_0, .slice A1_1 l1_1.length c1_1, .int .i64 a1_2, .int .i64 a1_3, .int .i64 a1_4, .int .i64 a1_5, .slice A1_6 l1_6.length c1_6] 26 (0, 0)) (dB_ BK549) hb); replace BK550 := Aside0.mk (blk_below (g := gb550) (o := .cells #[.int .u64 a2_0] 37 (0, 0)) (dB_ BK550) hb); replace HB := Aside0.mk (below_step (dL2_ HB GE549 GE550) hb)))
   go_meet
   case rel => exact ⟨_, (true), tS_, H', ⟨by first | omega | exact Nat.le_refl _⟩, ⟨by (with_reducible repeat (first | apply Kd.V_alloc | apply Kd.V_drewN | apply Kd.V_drew)); exact Kd.V_mono HO1_0.out (fun _ hk => ⟨hk.1.1, ⟨hk.1.2, hk.2⟩⟩)⟩, ⟨by (with_reducible repeat (first | apply Kd.V_alloc | apply Kd.V_drewN | apply Kd.V_drew)); exact Kd.V_mono HO1_1.out (fun _ hk => ⟨hk.1.1, ⟨hk.1.2, hk.2⟩⟩)⟩, ⟨by (with_reducible repeat (first | apply Kd.V_alloc | apply Kd.V_drewN | apply Kd.V_drew)); exact Kd.V_mono HO1_6.out (fun _ hk => ⟨hk.1.1, ⟨hk.1.2, hk.2⟩⟩)⟩, ⟨dB_ BK549⟩, ⟨dB_ BK550⟩, ⟨dL2_ HB GE549 GE550⟩⟩
  ·replace c9 := Bool.eq_false_iff.mpr c9
   subst c9
   have H1 : ((fleet_Validate.f k l0 l1_0 l1_1 a1_2 a1_3 a1_4 a1_5 l1_6).bind fun t552 => (hinterlandlaw14_FleetWorthsFall.j0 k l0 a3 (t552 != 0) l1_0 l1_1 a1_2 a1_3 a1_4 a1_5 l1_6 a2_0)) = some r := by rw [if_neg (show ¬ (false = true) by decide)] at H; exact H
   clear H
   have H := H1
   clear H1
   replace H := Option.bind_eq_some_iff.mp H
   obtain ⟨t552, A130, H⟩ := H
   replace H : (hinterlandlaw14_FleetWorthsFall.j0 k l0 a3 (t552 != 0) l1_0 l1_1 a1_2 a1_3 a1_4 a1_5 l1_6 a2_0) = some r := H
   have A13 := Aside0.mk A130
   clear A130
   have H' := Aside0.mk H
   clear H
   have hnb14 := NB549_550.out
   have hnc14 := NB550_549.out
   obtain ⟨hcz15_0, hcz15_1, hcz15_2, hcz15_3, hcz15_4, hcz15_5, hcz15_6, hfz15_0, hfz15_1, hfz15_2, hfz15_3, hfz15_4, hfz15_5, hfz15_6⟩ := cs7_ BK549.out
   go_wp2_with (first | ((with_reducible refine gate_callee (f := 6) rfl ?_); refine goesL_ (some 21) rfl rfl Try.func6 (by kernel_rfl) rfl #[.slice A0 l0.length c0, .agg #[.slice A1_0 l1_0.length c1_0, .slice A1_1 l1_1.length c1_1, .int .i64 a1_2, .int .i64 a1_3, .int .i64 a1_4, .int .i64 a1_5, .slice A1_6 l1_6.length c1_6]] rfl tA_ ?_; (with_reducible refine (hinterlandlaw14_large.calls k _ _ l0 _ _ l1_0 _ _ l1_1 a1_2 a1_3 a1_4 a1_5 _ _ l1_6 false _ ?side1 ?side2 ?side3 ?side4 ?side5 ?side6 ?side7 ?side8 A8.out).mono ?_); (case side1 => exact dC_ HR0 HB); (case side2 => exact HC0.out); (case side3 => repeat (first | exact (Kd.V_reads' HO1_0.out).2.2 | (with_reducible refine Kd.C_alloc ?_ _) | (with_reducible refine Kd.C_drewN ?_ _) | (with_reducible refine Kd.C_drew ?_))); (case side4 => exact (Kd.V_reads' HO1_0.out).2.1); (case side5 => repeat (first | exact (Kd.V_reads' HO1_1.out).2.2 | (with_reducible refine Kd.C_alloc ?_ _) | (with_reducible refine Kd.C_drewN ?_ _) | (with_reducible refine Kd.C_drew ?_))); (case side6 => exact (Kd.V_reads' HO1_1.out).2.1); (case side7 => repeat (first | exact (Kd.V_reads' HO1_6.out).2.2 | (with_reducible refine Kd.C_alloc ?_ _) | (with_reducible refine Kd.C_drewN ?_ _) | (with_reducible refine Kd.C_drew ?_))); (case side8 => exact (Kd.V_reads' HO1_6.out).2.1); rintro e w16 ⟨rfl, hb⟩; refine ⟨_, rfl, ?_⟩; replace HO1_0 := Aside0.mk (Kd.V_below (by (with_reducible repeat (first | apply Kd.V_alloc | apply Kd.V_drewN | apply Kd.V_drew)); exact HO1_0.out) hb); replace HO1_1 := Aside0.mk (Kd.V_below (by (with_reducible repeat (first | apply Kd.V_alloc | apply Kd.V_drewN | apply Kd.V_drew)); exact HO1_1.out) hb); replace HO1_6 := Aside0.mk (Kd.V_below (by (with_reducible repeat (first | apply Kd.V_alloc | apply Kd.V_drewN | apply Kd.V_drew)); exact HO1_6.out) hb); replace BK549 := Aside0.mk (blk_below (g := gb549) (o := .cells #[.slice A1_0 l1_0.length c1_0, .slice A1_1 l1_1.length c1_1, .int .i64 a1_2, .int .i64 a1_3, .int .i64 a1_4, .int .i64 a1_5, .slice A1_6 l1_6.length c1_6] 26 (0, 0)) (dB_ BK549) hb); replace BK550 := Aside0.mk (blk_below (g := gb550) (o := .cells #[.int .u64 a2_0] 37 (0, 0)) (dB_ BK550) hb); replace HB := Aside0.mk (below_step (dL2_ HB GE549 GE550) hb); obtain ⟨hcz17_0, hcz17_1, hcz17_2, hcz17_3, hcz17_4, hcz17_5, hcz17_6, hfz17_0, hfz17_1, hfz17_2, hfz17_3, hfz17_4, hfz17_5, hfz17_6⟩ := cs7_ BK549.out) | (go_at_call 11; (with_reducible refine (fleet_Validate.calls k _ _ l0 _ _ l1_0 _ _ l1_1 a1_2 a1_3 a1_4 a1_5 _ _ l1_6 t552 _ ?side1 ?side2 ?side3 ?side4 ?side5 ?side6 ?side7 ?side8 A13.out).mono ?_); (case side1 => exact dC_ HR0 HB); (case side2 => exact HC0.out); (case side3 => repeat (first | exact (Kd.V_reads' HO1_0.out).2.2 | (with_reducible refine Kd.C_alloc ?_ _) | (with_reducible refine Kd.C_drewN ?_ _) | (with_reducible refine Kd.C_drew ?_))); (case side4 => exact (Kd.V_reads' HO1_0.out).2.1); (case side5 => repeat (first | exact (Kd.V_reads' HO1_1.out).2.2 | (with_reducible refine Kd.C_alloc ?_ _) | (with_reducible refine Kd.C_drewN ?_ _) | (with_reducible refine Kd.C_drew ?_))); (case side6 => exact (Kd.V_reads' HO1_1.out).2.1); (case side7 => repeat (first | exact (Kd.V_reads' HO1_6.out).2.2 | (with_reducible refine Kd.C_alloc ?_ _) | (with_reducible refine Kd.C_drewN ?_ _) | (with_reducible refine Kd.C_drew ?_))); (case side8 => exact (Kd.V_reads' HO1_6.out).2.1); rintro e w18 ⟨rfl, hb⟩; replace HO1_0 := Aside0.mk (Kd.V_below (by (with_reducible repeat (first | apply Kd.V_alloc | apply Kd.V_drewN | apply Kd.V_drew)); exact HO1_0.out) hb); replace HO1_1 := Aside0.mk (Kd.V_below (by (with_reducible repeat (first | apply Kd.V_alloc | apply Kd.V_drewN | apply Kd.V_drew)); exact HO1_1.out) hb); replace HO1_6 := Aside0.mk (Kd.V_below (by (with_reducible repeat (first | apply Kd.V_alloc | apply Kd.V_drewN | apply Kd.V_drew)); exact HO1_6.out) hb); replace BK549 := Aside0.mk (blk_below (g := gb549) (o := .cells #[.slice A1_0 l1_0.length c1_0, .slice A1_1 l1_1.length c1_1, .int .i64 a1_2, .int .i64 a1_3, .int .i64 a1_4, .int .i64 a1_5, .slice A1_6 l1_6.length c1_6] 26 (0, 0)) (dB_ BK549) hb); replace BK550 := Aside0.mk (blk_below (g := gb550) (o := .cells #[.int .u64 a2_0] 37 (0, 0)) (dB_ BK550) hb); replace HB := Aside0.mk (below_step (dL2_ HB GE549 GE550) hb)))
   go_meet
   case rel => exact ⟨_, ((t552 != 0)), tS_, H', ⟨by first | omega | exact Nat.le_refl _⟩, ⟨by (with_reducible repeat (first | apply Kd.V_alloc | apply Kd.V_drewN | apply Kd.V_drew)); exact Kd.V_mono HO1_0.out (fun _ hk => ⟨hk.1.1, ⟨hk.1.2, hk.2⟩⟩)⟩, ⟨by (with_reducible repeat (first | apply Kd.V_alloc | apply Kd.V_drewN | apply Kd.V_drew)); exact Kd.V_mono HO1_1.out (fun _ hk => ⟨hk.1.1, ⟨hk.1.2, hk.2⟩⟩)⟩, ⟨by (with_reducible repeat (first | apply Kd.V_alloc | apply Kd.V_drewN | apply Kd.V_drew)); exact Kd.V_mono HO1_6.out (fun _ hk => ⟨hk.1.1, ⟨hk.1.2, hk.2⟩⟩)⟩, ⟨dB_ BK549⟩, ⟨dB_ BK550⟩, ⟨dL2_ HB GE549 GE550⟩⟩
 case rest =>
  clear HC5
  obtain ⟨kq, x27_4, rfl, HA, HJ4, HO_550000, HO_550001, HO_550006, BK549, BK550, HB⟩ := hcut
  cases kq with
  | zero => exact absurd HA.out (by simp [hinterlandlaw14_FleetWorthsFall.j0])
  | succ kj4 =>
   have H := HA.out
   clear HA
   simp only [hinterlandlaw14_FleetWorthsFall.j0] at H
   by_cases c19 : x27_4 = true
   ·subst c19
    have H1 : ((hinterlandlaw14_known.f kj4).bind fun t553 => (some t553)) = some r := by rw [if_pos rfl] at H; exact H
    clear H
    have H := H1
    clear H1
    replace H := Option.bind_eq_some_iff.mp H
    obtain ⟨t553, A200, H⟩ := H
    replace H : (some t553) = some r := H
    have A20 := Aside0.mk A200
    clear A200
    obtain rfl := Option.some.inj H
    go_wp2_with (first | ((with_reducible refine gate_callee (f := 7) rfl ?_); refine goesL_ (some 28) rfl rfl Try.func7 (by kernel_rfl) rfl #[] rfl tA_ ?_; (with_reducible refine (hinterlandlaw14_known.calls kj4  t553 _ A20.out).mono ?_); rintro e w21 ⟨rfl, hb⟩; refine ⟨_, rfl, ?_⟩; replace HO_550000 := Aside0.mk (Kd.V_below (by (with_reducible repeat (first | apply Kd.V_alloc | apply Kd.V_drewN | apply Kd.V_drew)); exact HO_550000.out) hb); replace HO_550001 := Aside0.mk (Kd.V_below (by (with_reducible repeat (first | apply Kd.V_alloc | apply Kd.V_drewN | apply Kd.V_drew)); exact HO_550001.out) hb); replace HO_550006 := Aside0.mk (Kd.V_below (by (with_reducible repeat (first | apply Kd.V_alloc | apply Kd.V_drewN | apply Kd.V_drew)); exact HO_550006.out) hb); replace BK549 := Aside0.mk (blk_below (g := gb549) (o := .cells #[.slice A1_0 l1_0.length c1_0, .slice A1_1 l1_1.length c1_1, .int .i64 a1_2, .int .i64 a1_3, .int .i64 a1_4, .int .i64 a1_5, .slice A1_6 l1_6.length c1_6] 26 (0, 0)) (dB_ BK549) hb); replace BK550 := Aside0.mk (blk_below (g := gb550) (o := .cells #[.int .u64 a2_0] 37 (0, 0)) (dB_ BK550) hb); replace HB := Aside0.mk (below_step (dL2_ HB GE549 GE550) hb)))
    go_ret
    exact ⟨tE_, dL2_ HB GE549 GE550⟩
   ·replace c19 := Bool.eq_false_iff.mpr c19
    subst c19
    have H1 : ((fleet_Facts.f kj4 l0 l1_0).bind fun bt554 => ((fleet_Worth.f kj4 l0 l1_0 l1_1 a1_2 a1_3 a1_4 a1_5 l1_6).bind fun bt564 => (if bt554.2.2.2.2.2.2.2.2 = 0 then (if bt564.2 = 0 then (if bt564.1 > bt554.2.2.2.2.2.1 then (hinterlandlaw14_FleetWorthsFall.j1 kj4 l0 a3 bt564.1 true l1_0 l1_1 a1_2 a1_3 a1_4 a1_5 l1_6 a2_0) else (hinterlandlaw14_FleetWorthsFall.j1 kj4 l0 a3 bt564.1 (decide (bt564.1 < 0)) l1_0 l1_1 a1_2 a1_3 a1_4 a1_5 l1_6 a2_0)) else (hinterlandlaw14_FleetWorthsFall.j1 kj4 l0 a3 bt564.1 true l1_0 l1_1 a1_2 a1_3 a1_4 a1_5 l1_6 a2_0)) else (hinterlandlaw14_FleetWorthsFall.j1 kj4 l0 a3 bt564.1 true l1_0 l1_1 a1_2 a1_3 a1_4 a1_5 l1_6 a2_0)))) = some r := by rw [if_neg (show ¬ (false = true) by decide)] at H; exact H
    clear H
    have H := H1
    clear H1
    replace H := Option.bind_eq_some_iff.mp H
    obtain ⟨⟨t554, t555, t556, t557, t558, t559, t560, t561, t562⟩, A220, H⟩ := H
    replace H : ((fleet_Worth.f kj4 l0 l1_0 l1_1 a1_2 a1_3 a1_4 a1_5 l1_6).bind fun bt564 => (if t562 = 0 then (if bt564.2 = 0 then (if bt564.1 > t559 then (hinterlandlaw14_FleetWorthsFall.j1 kj4 l0 a3 bt564.1 true l1_0 l1_1 a1_2 a1_3 a1_4 a1_5 l1_6 a2_0) else (hinterlandlaw14_FleetWorthsFall.j1 kj4 l0 a3 bt564.1 (decide (bt564.1 < 0)) l1_0 l1_1 a1_2 a1_3 a1_4 a1_5 l1_6 a2_0)) else (hinterlandlaw14_FleetWorthsFall.j1 kj4 l0 a3 bt564.1 true l1_0 l1_1 a1_2 a1_3 a1_4 a1_5 l1_6 a2_0)) else (hinterlandlaw14_FleetWorthsFall.j1 kj4 l0 a3 bt564.1 true l1_0 l1_1 a1_2 a1_3 a1_4 a1_5 l1_6 a2_0))) = some r := H
    have A22 := Aside0.mk A220
    clear A220
    replace H := Option.bind_eq_some_iff.mp H
    obtain ⟨⟨t564, t565⟩, A230, H⟩ := H
    replace H : (if t562 = 0 then (if t565 = 0 then (if t564 > t559 then (hinterlandlaw14_FleetWorthsFall.j1 kj4 l0 a3 t564 true l1_0 l1_1 a1_2 a1_3 a1_4 a1_5 l1_6 a2_0) else (hinterlandlaw14_FleetWorthsFall.j1 kj4 l0 a3 t564 (decide (t564 < 0)) l1_0 l1_1 a1_2 a1_3 a1_4 a1_5 l1_6 a2_0)) else (hinterlandlaw14_FleetWorthsFall.j1 kj4 l0 a3 t564 true l1_0 l1_1 a1_2 a1_3 a1_4 a1_5 l1_6 a2_0)) else (hinterlandlaw14_FleetWorthsFall.j1 kj4 l0 a3 t564 true l1_0 l1_1 a1_2 a1_3 a1_4 a1_5 l1_6 a2_0)) = some r := H
    have A23 := Aside0.mk A230
    clear A230
    have HC24 := Aside0.mk H
    clear H
    have hnb25 := NB549_550.out
    have hnc25 := NB550_549.out
    obtain ⟨hcz26_0, hcz26_1, hcz26_2, hcz26_3, hcz26_4, hcz26_5, hcz26_6, hfz26_0, hfz26_1, hfz26_2, hfz26_3, hfz26_4, hfz26_5, hfz26_6⟩ := cs7_ BK549.out
    go_upto_region 5 with (first | ((with_reducible refine gate_callee (f := 14) rfl ?_); refine goesL_ (some 33) rfl rfl Try.func14 (by kernel_rfl) rfl #[.slice A0 l0.length c0, .slice A1_0 l1_0.length c1_0] rfl tA_ ?_; (with_reducible refine (fleet_Facts.calls kj4 _ _ l0 _ _ l1_0 t554 t555 t556 t557 t558 t559 t560 t561 t562 _ ?side1 ?side2 ?side3 ?side4 A22.out).mono ?_); (case side1 => exact dC_ HR0 HB); (case side2 => exact HC0.out); (case side3 => repeat (first | exact (Kd.V_reads' HO_550000.out).2.2 | (with_reducible refine Kd.C_alloc ?_ _) | (with_reducible refine Kd.C_drewN ?_ _) | (with_reducible refine Kd.C_drew ?_))); (case side4 => exact (Kd.V_reads' HO_550000.out).2.1); rintro e w27 ⟨rfl, hb⟩; refine ⟨_, rfl, ?_⟩; replace HO_550000 := Aside0.mk (Kd.V_below (by (with_reducible repeat (first | apply Kd.V_alloc | apply Kd.V_drewN | apply Kd.V_drew)); exact HO_550000.out) hb); replace HO_550001 := Aside0.mk (Kd.V_below (by (with_reducible repeat (first | apply Kd.V_alloc | apply Kd.V_drewN | apply Kd.V_drew)); exact HO_550001.out) hb); replace HO_550006 := Aside0.mk (Kd.V_below (by (with_reducible repeat (first | apply Kd.V_alloc | apply Kd.V_drewN | apply Kd.V_drew)); exact HO_550006.out) hb); replace BK549 := Aside0.mk (blk_below (g := gb549) (o := .cells #[.slice A1_0 l1_0.length c1_0, .slice A1_1 l1_1.length c1_1, .int .i64 a1_2, .int .i64 a1_3, .int .i64 a1_4, .int .i64 a1_5, .slice A1_6 l1_6.length c1_6] 26 (0, 0)) (dB_ BK549) hb); replace BK550 := Aside0.mk (blk_below (g := gb550) (o := .cells #[.int .u64 a2_0] 37 (0, 0)) (dB_ BK550) hb); replace HB := Aside0.mk (below_step (dL2_ HB GE549 GE550) hb)) | ((with_reducible refine gate_dst (N := 9) rfl ?_); refine box_event ?hg (N := 9) ?hd (cs := #[.int .i64 0, .int .i64 0, .int .i64 0, .int .i64 0, .int .i64 0, .int .i64 0, .int .i64 0, .bool false]) (t := 42) ?hr ?_; (case hd => rfl); (case hg => rfl); (case hr => first | (go_simp; done) | (go_simp; rfl)); intro gb563 hg w28 hbox hb; replace HO_550000 := Aside0.mk (Kd.V_below (Kd.V_elderB (by (with_reducible repeat (first | apply Kd.V_alloc | apply Kd.V_drewN | apply Kd.V_drew)); exact HO_550000.out) gb563 (Nat.le_of_eq hg.symm)) hb); replace HO_550001 := Aside0.mk (Kd.V_below (Kd.V_elderB (by (with_reducible repeat (first | apply Kd.V_alloc | apply Kd.V_drewN | apply Kd.V_drew)); exact HO_550001.out) gb563 (Nat.le_of_eq hg.symm)) hb); replace HO_550006 := Aside0.mk (Kd.V_below (Kd.V_elderB (by (with_reducible repeat (first | apply Kd.V_alloc | apply Kd.V_drewN | apply Kd.V_drew)); exact HO_550006.out) gb563 (Nat.le_of_eq hg.symm)) hb); have BK563 := Aside0.mk (hbox); have GW563 := Aside0.mk ((dS_ hg (dL2_ HB GE549 GE550) : w.heap.size ≤ gb563)); have GE563 := Aside0.mk ((dS_ hg (dL2_ HB GE549 GE550) : w.heap.size ≤ gb563)); replace HB := Aside0.mk (below_step (dL2_ HB GE549 GE550) hb); have NB549_563 := Aside0.mk ((by rw [hg]; exact Nat.ne_of_lt (blk_lt (dB_ BK549)) : gb549 ≠ gb563)); have NB563_549 := Aside0.mk ((by rw [hg]; exact Nat.ne_of_gt (blk_lt (dB_ BK549)) : gb563 ≠ gb549)); replace BK549 := Aside0.mk (blk_below (g := gb549) (o := .cells #[.slice A1_0 l1_0.length c1_0, .slice A1_1 l1_1.length c1_1, .int .i64 a1_2, .int .i64 a1_3, .int .i64 a1_4, .int .i64 a1_5, .slice A1_6 l1_6.length c1_6] 26 (0, 0)) (dB_ BK549) hb); have NB550_563 := Aside0.mk ((by rw [hg]; exact Nat.ne_of_lt (blk_lt (dB_ BK550)) : gb550 ≠ gb563)); have NB563_550 := Aside0.mk ((by rw [hg]; exact Nat.ne_of_gt (blk_lt (dB_ BK550)) : gb563 ≠ gb550)); replace BK550 := Aside0.mk (blk_below (g := gb550) (o := .cells #[.int .u64 a2_0] 37 (0, 0)) (dB_ BK550) hb); clear hb hbox hg; have hnb29 := NB563_549.out; have hnc29 := NB549_563.out; have hnb30 := NB563_550.out; have hnc30 := NB550_563.out; obtain ⟨hcz31_0, hcz31_1, hcz31_2, hcz31_3, hcz31_4, hcz31_5, hcz31_6, hcz31_7, hfz31_0, hfz31_1, hfz31_2, hfz31_3, hfz31_4, hfz31_5, hfz31_6, hfz31_7⟩ := cs8_ BK563.out; obtain ⟨hcz32_0, hcz32_1, hcz32_2, hcz32_3, hcz32_4, hcz32_5, hcz32_6, hfz32_0, hfz32_1, hfz32_2, hfz32_3, hfz32_4, hfz32_5, hfz32_6⟩ := cs7_ BK549.out) | ((with_reducible refine gate_callee (f := 15) rfl ?_); refine goesL_ (some 39) rfl rfl Try.func15 (by kernel_rfl) rfl #[.slice A0 l0.length c0, .agg #[.slice A1_0 l1_0.length c1_0, .slice A1_1 l1_1.length c1_1, .int .i64 a1_2, .int .i64 a1_3, .int .i64 a1_4, .int .i64 a1_5, .slice A1_6 l1_6.length c1_6]] rfl tA_ ?_; (with_reducible refine (fleet_Worth.calls kj4 _ _ l0 _ _ l1_0 _ _ l1_1 a1_2 a1_3 a1_4 a1_5 _ _ l1_6 t564 t565 _ ?side1 ?side2 ?side3 ?side4 ?side5 ?side6 ?side7 ?side8 A23.out).mono ?_); (case side1 => exact Kd.C_below HR0.out (dL3_ HB GE549 GE550 GE563)); (case side2 => exact HC0.out); (case side3 => refine (Kd.V_reads' (e := 3) (base := w.heap.size) (ok := fun k_ => ((((P1_0_ k_ ∨ P1_1_ k_ ∨ P1_6_ k_) ∨ w.heap.size ≤ k_) ∧ (k_ ≠ gb549 ∧ k_ ≠ gb550)) ∧ k_ ≠ gb563)) (n := l1_0.length) (c := c1_0) ?_).2.2; exact (by (with_reducible repeat (first | apply Kd.V_alloc | apply Kd.V_drewN | apply Kd.V_drew)); exact (Kd.V_mono (Kd.V_far (p := ⟨gb563, 7, none⟩) (Kd.V_far (p := ⟨gb563, 6, none⟩) (Kd.V_far (p := ⟨gb563, 5, none⟩) (Kd.V_far (p := ⟨gb563, 4, none⟩) (Kd.V_far (p := ⟨gb563, 3, none⟩) (Kd.V_far (p := ⟨gb563, 2, none⟩) (Kd.V_far (p := ⟨gb563, 1, none⟩) (Kd.V_far (p := ⟨gb563, 0, none⟩) (Kd.V_mono HO_550000.out (fun k_ hk => (⟨hk, hk.2⟩ : _ ∧ k_ ≠ gb563))) (fun _ hk => hk.2) (.int .i64 t554)) (fun _ hk => hk.2) (.int .i64 t555)) (fun _ hk => hk.2) (.int .i64 t556)) (fun _ hk => hk.2) (.int .i64 t557)) (fun _ hk => hk.2) (.int .i64 t558)) (fun _ hk => hk.2) (.int .i64 t559)) (fun _ hk => hk.2) (.int .i64 t560)) (fun _ hk => hk.2) (.bool t561)) (fun _ h_ => h_.1)))); (case side4 => exact (Kd.V_reads' HO_550000.out).2.1); (case side5 => refine (Kd.V_reads' (e := 3) (base := w.heap.size) (ok := fun k_ => ((((P1_0_ k_ ∨ P1_1_ k_ ∨ P1_6_ k_) ∨ w.heap.size ≤ k_) ∧ (k_ ≠ gb549 ∧ k_ ≠ gb550)) ∧ k_ ≠ gb563)) (n := l1_1.length) (c := c1_1) ?_).2.2; exact (by (with_reducible repeat (first | apply Kd.V_alloc | apply Kd.V_drewN | apply Kd.V_drew)); exact (Kd.V_mono (Kd.V_far (p := ⟨gb563, 7, none⟩) (Kd.V_far (p := ⟨gb563, 6, none⟩) (Kd.V_far (p := ⟨gb563, 5, none⟩) (Kd.V_far (p := ⟨gb563, 4, none⟩) (Kd.V_far (p := ⟨gb563, 3, none⟩) (Kd.V_far (p := ⟨gb563, 2, none⟩) (Kd.V_far (p := ⟨gb563, 1, none⟩) (Kd.V_far (p := ⟨gb563, 0, none⟩) (Kd.V_mono HO_550001.out (fun k_ hk => (⟨hk, hk.2⟩ : _ ∧ k_ ≠ gb563))) (fun _ hk => hk.2) (.int .i64 t554)) (fun _ hk => hk.2) (.int .i64 t555)) (fun _ hk => hk.2) (.int .i64 t556)) (fun _ hk => hk.2) (.int .i64 t557)) (fun _ hk => hk.2) (.int .i64 t558)) (fun _ hk => hk.2) (.int .i64 t559)) (fun _ hk => hk.2) (.int .i64 t560)) (fun _ hk => hk.2) (.bool t561)) (fun _ h_ => h_.1)))); (case side6 => exact (Kd.V_reads' HO_550001.out).2.1); (case side7 => refine (Kd.V_reads' (e := 49) (base := w.heap.size) (ok := fun k_ => ((((P1_0_ k_ ∨ P1_1_ k_ ∨ P1_6_ k_) ∨ w.heap.size ≤ k_) ∧ (k_ ≠ gb549 ∧ k_ ≠ gb550)) ∧ k_ ≠ gb563)) (n := l1_6.length) (c := c1_6) ?_).2.2; exact (by (with_reducible repeat (first | apply Kd.V_alloc | apply Kd.V_drewN | apply Kd.V_drew)); exact (Kd.V_mono (Kd.V_far (p := ⟨gb563, 7, none⟩) (Kd.V_far (p := ⟨gb563, 6, none⟩) (Kd.V_far (p := ⟨gb563, 5, none⟩) (Kd.V_far (p := ⟨gb563, 4, none⟩) (Kd.V_far (p := ⟨gb563, 3, none⟩) (Kd.V_far (p := ⟨gb563, 2, none⟩) (Kd.V_far (p := ⟨gb563, 1, none⟩) (Kd.V_far (p := ⟨gb563, 0, none⟩) (Kd.V_mono HO_550006.out (fun k_ hk => (⟨hk, hk.2⟩ : _ ∧ k_ ≠ gb563))) (fun _ hk => hk.2) (.int .i64 t554)) (fun _ hk => hk.2) (.int .i64 t555)) (fun _ hk => hk.2) (.int .i64 t556)) (fun _ hk => hk.2) (.int .i64 t557)) (fun _ hk => hk.2) (.int .i64 t558)) (fun _ hk => hk.2) (.int .i64 t559)) (fun _ hk => hk.2) (.int .i64 t560)) (fun _ hk => hk.2) (.bool t561)) (fun _ h_ => h_.1)))); (case side8 => exact (Kd.V_reads' HO_550006.out).2.1); rintro e w33 ⟨rfl, hb⟩; refine ⟨_, rfl, ?_⟩; replace HO_550000 := Aside0.mk (Kd.V_below (by (with_reducible repeat (first | apply Kd.V_alloc | apply Kd.V_drewN | apply Kd.V_drew)); exact (Kd.V_mono (Kd.V_far (p := ⟨gb563, 7, none⟩) (Kd.V_far (p := ⟨gb563, 6, none⟩) (Kd.V_far (p := ⟨gb563, 5, none⟩) (Kd.V_far (p := ⟨gb563, 4, none⟩) (Kd.V_far (p := ⟨gb563, 3, none⟩) (Kd.V_far (p := ⟨gb563, 2, none⟩) (Kd.V_far (p := ⟨gb563, 1, none⟩) (Kd.V_far (p := ⟨gb563, 0, none⟩) (Kd.V_mono HO_550000.out (fun k_ hk => (⟨hk, hk.2⟩ : _ ∧ k_ ≠ gb563))) (fun _ hk => hk.2) (.int .i64 t554)) (fun _ hk => hk.2) (.int .i64 t555)) (fun _ hk => hk.2) (.int .i64 t556)) (fun _ hk => hk.2) (.int .i64 t557)) (fun _ hk => hk.2) (.int .i64 t558)) (fun _ hk => hk.2) (.int .i64 t559)) (fun _ hk => hk.2) (.int .i64 t560)) (fun _ hk => hk.2) (.bool t561)) (fun _ h_ => h_.1))) hb); replace HO_550001 := Aside0.mk (Kd.V_below (by (with_reducible repeat (first | apply Kd.V_alloc | apply Kd.V_drewN | apply Kd.V_drew)); exact (Kd.V_mono (Kd.V_far (p := ⟨gb563, 7, none⟩) (Kd.V_far (p := ⟨gb563, 6, none⟩) (Kd.V_far (p := ⟨gb563, 5, none⟩) (Kd.V_far (p := ⟨gb563, 4, none⟩) (Kd.V_far (p := ⟨gb563, 3, none⟩) (Kd.V_far (p := ⟨gb563, 2, none⟩) (Kd.V_far (p := ⟨gb563, 1, none⟩) (Kd.V_far (p := ⟨gb563, 0, none⟩) (Kd.V_mono HO_550001.out (fun k_ hk => (⟨hk, hk.2⟩ : _ ∧ k_ ≠ gb563))) (fun _ hk => hk.2) (.int .i64 t554)) (fun _ hk => hk.2) (.int .i64 t555)) (fun _ hk => hk.2) (.int .i64 t556)) (fun _ hk => hk.2) (.int .i64 t557)) (fun _ hk => hk.2) (.int .i64 t558)) (fun _ hk => hk.2) (.int .i64 t559)) (fun _ hk => hk.2) (.int .i64 t560)) (fun _ hk => hk.2) (.bool t561)) (fun _ h_ => h_.1))) hb); replace HO_550006 := Aside0.mk (Kd.V_below (by (with_reducible repeat (first | apply Kd.V_alloc | apply Kd.V_drewN | apply Kd.V_drew)); exact (Kd.V_mono (Kd.V_far (p := ⟨gb563, 7, none⟩) (Kd.V_far (p := ⟨gb563, 6, none⟩) (Kd.V_far (p := ⟨gb563, 5, none⟩) (Kd.V_far (p := ⟨gb563, 4, none⟩) (Kd.V_far (p := ⟨gb563, 3, none⟩) (Kd.V_far (p := ⟨gb563, 2, none⟩) (Kd.V_far (p := ⟨gb563, 1, none⟩) (Kd.V_far (p := ⟨gb563, 0, none⟩) (Kd.V_mono HO_550006.out (fun k_ hk => (⟨hk, hk.2⟩ : _ ∧ k_ ≠ gb563))) (fun _ hk => hk.2) (.int .i64 t554)) (fun _ hk => hk.2) (.int .i64 t555)) (fun _ hk => hk.2) (.int .i64 t556)) (fun _ hk => hk.2) (.int .i64 t557)) (fun _ hk => hk.2) (.int .i64 t558)) (fun _ hk => hk.2) (.int .i64 t559)) (fun _ hk => hk.2) (.int .i64 t560)) (fun _ hk => hk.2) (.bool t561)) (fun _ h_ => h_.1))) hb); replace BK549 := Aside0.mk (blk_below (g := gb549) (o := .cells #[.slice A1_0 l1_0.length c1_0, .slice A1_1 l1_1.length c1_1, .int .i64 a1_2, .int .i64 a1_3, .int .i64 a1_4, .int .i64 a1_5, .slice A1_6 l1_6.length c1_6] 26 (0, 0)) (dF8_ BK549 NB549_563) hb); replace BK550 := Aside0.mk (blk_below (g := gb550) (o := .cells #[.int .u64 a2_0] 37 (0, 0)) (dF8_ BK550 NB550_563) hb); replace BK563 := Aside0.mk (blk_below (g := gb563) (o := .cells #[.int .i64 t554, .int .i64 t555, .int .i64 t556, .int .i64 t557, .int .i64 t558, .int .i64 t559, .int .i64 t560, .bool t561] 42 (0, 0)) (dP8_ BK563) hb); replace HB := Aside0.mk (below_step (dL3_ HB GE549 GE550 GE563) hb)))
    (try simp only [Act.put, sI_, s0_, sS_])
    go_cut [57] (fun v57 wc => ∃ (kq : Nat) (x57_23 : Bool), v57 = .bool x57_23 ∧ Aside0 (hinterlandlaw14_FleetWorthsFall.j1 kq l0 a3 t564 x57_23 l1_0 l1_1 a1_2 a1_3 a1_4 a1_5 l1_6 a2_0 = some r) ∧ Aside0 (kq ≤ kj4) ∧ Aside0 (Kd.V (Kd.int .i64) 3 wc w.heap.size (fun k_ => ((P1_0_ k_ ∨ P1_1_ k_ ∨ P1_6_ k_) ∨ w.heap.size ≤ k_) ∧ k_ ≠ gb549 ∧ k_ ≠ gb550 ∧ k_ ≠ gb563) (.slice A1_0 l1_0.length c1_0) l1_0) ∧ Aside0 (Kd.V (Kd.int .i64) 3 wc w.heap.size (fun k_ => ((P1_0_ k_ ∨ P1_1_ k_ ∨ P1_6_ k_) ∨ w.heap.size ≤ k_) ∧ k_ ≠ gb549 ∧ k_ ≠ gb550 ∧ k_ ≠ gb563) (.slice A1_1 l1_1.length c1_1) l1_1) ∧ Aside0 (Kd.V k49 49 wc w.heap.size (fun k_ => ((P1_0_ k_ ∨ P1_1_ k_ ∨ P1_6_ k_) ∨ w.heap.size ≤ k_) ∧ k_ ≠ gb549 ∧ k_ ≠ gb550 ∧ k_ ≠ gb563) (.slice A1_6 l1_6.length c1_6) l1_6) ∧ Aside0 (wc.heap[gb549]? = some (.cells #[(.slice A1_0 l1_0.length c1_0), (.slice A1_1 l1_1.length c1_1), .int .i64 a1_2, .int .i64 a1_3, .int .i64 a1_4, .int .i64 a1_5, (.slice A1_6 l1_6.length c1_6)] 26 (0, 0))) ∧ Aside0 (wc.heap[gb550]? = some (.cells #[.int .u64 a2_0] 37 (0, 0))) ∧ Aside0 (wc.heap[gb563]? = some (.cells #[.int .i64 t554, .int .i64 t555, .int .i64 t556, .int .i64 t557, .int .i64 t558, .int .i64 t559, .int .i64 t560, .bool t561] 42 (0, 0))) ∧ Aside0 (Below w.heap.size w wc))
    case first =>
     have H := HC24.out
     clear HC24
     refine (Classical.em (t562 = 0)).elim (fun c34 => ?a37_) (fun c34 => ?b37_)
     case' a37_ =>
      rw [if_pos c34] at H
      have c34b0 : (t562 == 0) = true := beq_iff_eq.mpr c34
      have c34b1 : (t562 != 0) = false := bne_eq_false_iff_eq.mpr c34
      clear c34
      (first | rw [c34b0] | (simp only [i64_w, i32_w]; rw [c34b0]) | skip)
      refine (Classical.em (t565 = 0)).elim (fun c35 => ?a38_) (fun c35 => ?b38_)
      case' a38_ =>
       rw [if_pos c35] at H
       have c35b0 : (t565 == 0) = true := beq_iff_eq.mpr c35
       have c35b1 : (t565 != 0) = false := bne_eq_false_iff_eq.mpr c35
       clear c35
       refine (Classical.em (t564 > t559)).elim (fun c36 => ?a39_) (fun c36 => ?b39_)
       case' a39_ =>
        rw [if_pos c36] at H
        have c36b0 : decide (t559 < t564) = true := decide_eq_true c36
        clear c36
        have H' := Aside0.mk H
        clear H
       case' b39_ =>
        rw [if_neg c36] at H
        have c36b0 : decide (t559 < t564) = false := decide_eq_false c36
        clear c36
        have H' := Aside0.mk H
        clear H
      case' b38_ =>
       rw [if_neg c35] at H
       have c35b0 : (t565 == 0) = false := beq_eq_false_iff_ne.mpr c35
       have c35b1 : (t565 != 0) = true := bne_iff_ne.mpr c35
       have H' := Aside0.mk H
       clear H
     case' b37_ =>
      rw [if_neg c34] at H
      have c34b0 : (t562 == 0) = false := beq_eq_false_iff_ne.mpr c34
      have c34b1 : (t562 != 0) = true := bne_iff_ne.mpr c34
      (first | rw [c34b0] | (simp only [i64_w, i32_w]; rw [c34b0]) | skip)
      have H' := Aside0.mk H
      clear H
     all_goals (
      first
      | (have hnbz1 := NB563_549.out
         have hncz1 := NB549_563.out
         have hnbz2 := NB563_550.out
         have hncz2 := NB550_563.out
         obtain ⟨hczz1_0, hczz1_1, hczz1_2, hczz1_3, hczz1_4, hczz1_5, hczz1_6, hczz1_7, hfzz1_0, hfzz1_1, hfzz1_2, hfzz1_3, hfzz1_4, hfzz1_5, hfzz1_6, hfzz1_7⟩ := cs8_ BK563.out
         go_wp2)
      | (go_wp2)
      first
      | (go_meet
         case rel => exact ⟨_, (decide (t564 < 0)), tS_, H', ⟨by have := HJ4.out; first | omega | exact Nat.le_refl _⟩, ⟨by (with_reducible repeat (first | apply Kd.V_alloc | apply Kd.V_drewN | apply Kd.V_drew)); exact Kd.V_mono HO_550000.out (fun _ hk => ⟨hk.1.1, ⟨hk.1.2.1, ⟨hk.1.2.2, hk.2⟩⟩⟩)⟩, ⟨by (with_reducible repeat (first | apply Kd.V_alloc | apply Kd.V_drewN | apply Kd.V_drew)); exact Kd.V_mono HO_550001.out (fun _ hk => ⟨hk.1.1, ⟨hk.1.2.1, ⟨hk.1.2.2, hk.2⟩⟩⟩)⟩, ⟨by (with_reducible repeat (first | apply Kd.V_alloc | apply Kd.V_drewN | apply Kd.V_drew)); exact Kd.V_mono HO_550006.out (fun _ hk => ⟨hk.1.1, ⟨hk.1.2.1, ⟨hk.1.2.2, hk.2⟩⟩⟩)⟩, ⟨dB_ BK549⟩, ⟨dB_ BK550⟩, ⟨dB_ BK563⟩, ⟨dL3_ HB GE549 GE550 GE563⟩⟩)
      | (go_meet
         case rel => exact ⟨_, (true), tS_, H', ⟨by have := HJ4.out; first | omega | exact Nat.le_refl _⟩, ⟨by (with_reducible repeat (first | apply Kd.V_alloc | apply Kd.V_drewN | apply Kd.V_drew)); exact Kd.V_mono HO_550000.out (fun _ hk => ⟨hk.1.1, ⟨hk.1.2.1, ⟨hk.1.2.2, hk.2⟩⟩⟩)⟩, ⟨by (with_reducible repeat (first | apply Kd.V_alloc | apply Kd.V_drewN | apply Kd.V_drew)); exact Kd.V_mono HO_550001.out (fun _ hk => ⟨hk.1.1, ⟨hk.1.2.1, ⟨hk.1.2.2, hk.2⟩⟩⟩)⟩, ⟨by (with_reducible repeat (first | apply Kd.V_alloc | apply Kd.V_drewN | apply Kd.V_drew)); exact Kd.V_mono HO_550006.out (fun _ hk => ⟨hk.1.1, ⟨hk.1.2.1, ⟨hk.1.2.2, hk.2⟩⟩⟩)⟩, ⟨dB_ BK549⟩, ⟨dB_ BK550⟩, ⟨dB_ BK563⟩, ⟨dL3_ HB GE549 GE550 GE563⟩⟩))
    case rest =>
     clear HC24
     try clear c19
     try clear c34
     try clear c35
     try clear c36
     try clear hcz26_0
     try clear hcz26_1
     try clear hcz26_2
     try clear hcz26_3
     try clear hcz26_4
     try clear hcz26_5
     try clear hcz26_6
     try clear hcz31_0
     try clear hcz31_1
     try clear hcz31_2
     try clear hcz31_3
     try clear hcz31_4
     try clear hcz31_5
     try clear hcz31_6
     try clear hcz31_7
     try clear hcz32_0
     try clear hcz32_1
     try clear hcz32_2
     try clear hcz32_3
     try clear hcz32_4
     try clear hcz32_5
     try clear hcz32_6
     try clear hfz26_0
     try clear hfz26_1
     try clear hfz26_2
     try clear hfz26_3
     try clear hfz26_4
     try clear hfz26_5
     try clear hfz26_6
     try clear hfz31_0
     try clear hfz31_1
     try clear hfz31_2
     try clear hfz31_3
     try clear hfz31_4
     try clear hfz31_5
     try clear hfz31_6
     try clear hfz31_7
     try clear hfz32_0
     try clear hfz32_1
     try clear hfz32_2
     try clear hfz32_3
     try clear hfz32_4
     try clear hfz32_5
     try clear hfz32_6
     obtain ⟨kq, x57_23, rfl, HA, HJ23, HO_550000, HO_550001, HO_550006, BK549, BK550, BK563, HB⟩ := hcut
     cases kq with
     | zero => exact absurd HA.out (by simp [hinterlandlaw14_FleetWorthsFall.j1])
     | succ kj23 =>
      have H := HA.out
      clear HA
      simp only [hinterlandlaw14_FleetWorthsFall.j1] at H
      by_cases c43 : x57_23 = true
      ·subst c43
       have H1 : (some false) = some r := by rw [if_pos rfl] at H; exact H
       clear H
       have H := H1
       clear H1
       obtain rfl := Option.some.inj H
       go_wp2
       go_ret
       exact ⟨tE_, dL3_ HB GE549 GE550 GE563⟩
      ·replace c43 := Bool.eq_false_iff.mpr c43
       subst c43
       have H1 : (hinterlandlaw14_FleetWorthsFall.l0 kj23 l0 t564 (mn a3 50) 0 l1_0 l1_1 a1_2 a1_3 a1_4 a1_5 l1_6 a2_0) = some r := by rw [if_neg (show ¬ (false = true) by decide)] at H; exact H
       clear H
       have H := H1
       clear H1
       obtain ⟨ji44, hji44⟩ : ∃ j_ : Int, (mn a3 50) = j_ := ⟨_, rfl⟩
       replace H : (hinterlandlaw14_FleetWorthsFall.l0 kj23 l0 t564 ji44 0 l1_0 l1_1 a1_2 a1_3 a1_4 a1_5 l1_6 a2_0) = some r := by first | (rw [hji44] at H; exact H) | (simp only [hji44] at H ⊢; exact H)
       have hji44_ : (if 50 < a3 then 50 else a3) = ji44 := hji44
       have H' := Aside0.mk H
       clear H
       go_wp2
       go_loopg [11, 60] kj23 (fun kq v11 v60 w' => ∃ (x11_3 : Int) (x60_3 : Int) (x550000_3 : List Int) (x550001_3 : List Int) (x550002_3 : Int) (x550003_3 : Int) (x550004_3 : Int) (x550005_3 : Int) (x550006_3 : List (S49)) (x551000_3 : Int) (u550000 : Value) (u550001 : Value) (u550006 : Value), v11 = .int .i64 x11_3 ∧ v60 = .int .i64 x60_3 ∧ Aside0 (hinterlandlaw14_FleetWorthsFall.l0 kq l0 x11_3 ji44 x60_3 x550000_3 x550001_3 x550002_3 x550003_3 x550004_3 x550005_3 x550006_3 x551000_3 = some r) ∧ Aside0 (kq ≤ kj23) ∧ Aside0 (Kd.V (Kd.int .i64) 3 w' w.heap.size (fun k_ => ((P1_0_ k_ ∨ P1_1_ k_ ∨ P1_6_ k_) ∨ w.heap.size ≤ k_) ∧ k_ ≠ gb549 ∧ k_ ≠ gb550 ∧ k_ ≠ gb563) u550000 x550000_3) ∧ Aside0 (Kd.V (Kd.int .i64) 3 w' w.heap.size (fun k_ => ((P1_0_ k_ ∨ P1_1_ k_ ∨ P1_6_ k_) ∨ w.heap.size ≤ k_) ∧ k_ ≠ gb549 ∧ k_ ≠ gb550 ∧ k_ ≠ gb563) u550001 x550001_3) ∧ Aside0 (Kd.V k49 49 w' w.heap.size (fun k_ => ((P1_0_ k_ ∨ P1_1_ k_ ∨ P1_6_ k_) ∨ w.heap.size ≤ k_) ∧ k_ ≠ gb549 ∧ k_ ≠ gb550 ∧ k_ ≠ gb563) u550006 x550006_3) ∧ Aside0 (w'.heap[gb549]? = some (.cells #[u550000, u550001, .int .i64 x550002_3, .int .i64 x550003_3, .int .i64 x550004_3, .int .i64 x550005_3, u550006] 26 (0, 0))) ∧ Aside0 (w'.heap[gb550]? = some (.cells #[.int .u64 x551000_3] 37 (0, 0))) ∧ Aside0 (w'.heap[gb563]? = some (.cells #[.int .i64 t554, .int .i64 t555, .int .i64 t556, .int .i64 t557, .int .i64 t558, .int .i64 t559, .int .i64 t560, .bool t561] 42 (0, 0))) ∧ Aside0 (Below w.heap.size w w'))
       case atStart => exact ⟨(t564), (0), (l1_0), (l1_1), (a1_2), (a1_3), (a1_4), (a1_5), (l1_6), (a2_0), (.slice A1_0 l1_0.length c1_0), (.slice A1_1 l1_1.length c1_1), (.slice A1_6 l1_6.length c1_6), tS_, tS_, H', ⟨Nat.le_refl _⟩, ⟨by (with_reducible repeat (first | apply Kd.V_alloc | apply Kd.V_drewN | apply Kd.V_drew)); exact HO_550000.out⟩, ⟨by (with_reducible repeat (first | apply Kd.V_alloc | apply Kd.V_drewN | apply Kd.V_drew)); exact HO_550001.out⟩, ⟨by (with_reducible repeat (first | apply Kd.V_alloc | apply Kd.V_drewN | apply Kd.V_drew)); exact HO_550006.out⟩, ⟨dB_ BK549⟩, ⟨dB_ BK550⟩, ⟨dB_ BK563⟩, ⟨dL3_ HB GE549 GE550 GE563⟩⟩
       case round =>
        clear H'
        try clear c19
        try clear c34
        try clear c35
        try clear c36
        try clear c43
        try clear hcz26_0
        try clear hcz26_1
        try clear hcz26_2
        try clear hcz26_3
        try clear hcz26_4
        try clear hcz26_5
        try clear hcz26_6
        try clear hcz31_0
        try clear hcz31_1
        try clear hcz31_2
        try clear hcz31_3
        try clear hcz31_4
        try clear hcz31_5
        try clear hcz31_6
        try clear hcz31_7
        try clear hcz32_0
        try clear hcz32_1
        try clear hcz32_2
        try clear hcz32_3
        try clear hcz32_4
        try clear hcz32_5
        try clear hcz32_6
        try clear hfz26_0
        try clear hfz26_1
        try clear hfz26_2
        try clear hfz26_3
        try clear hfz26_4
        try clear hfz26_5
        try clear hfz26_6
        try clear hfz31_0
        try clear hfz31_1
        try clear hfz31_2
        try clear hfz31_3
        try clear hfz31_4
        try clear hfz31_5
        try clear hfz31_6
        try clear hfz31_7
        try clear hfz32_0
        try clear hfz32_1
        try clear hfz32_2
        try clear hfz32_3
        try clear hfz32_4
        try clear hfz32_5
        try clear hfz32_6
        obtain ⟨x11_3, x60_3, x550000_3, x550001_3, x550002_3, x550003_3, x550004_3, x550005_3, x550006_3, x551000_3, u550000, u550001, u550006, rfl, rfl, HA, HK3, HO_550000, HO_550001, HO_550006, BK549, BK550, BK563, HB⟩ := hrel
        cases gk with
        | zero => exact absurd HA.out (by simp [hinterlandlaw14_FleetWorthsFall.l0])
        | succ k3 =>
         have H := HA.out
         clear HA
         simp only [hinterlandlaw14_FleetWorthsFall.l0] at H
         by_cases c45 : x60_3 < ji44
         ·rw [if_pos c45] at H
          have c45b0 : decide (x60_3 < ji44) = true := decide_eq_true c45
          clear c45
          replace H := Option.bind_eq_some_iff.mp H
          obtain ⟨⟨t567, t570, t573, t574, t575, t576, t577, t580, t581, t582⟩, A460, H⟩ := H
          replace H : ((fleet_Worth.f k3 l0 t567 t570 t573 t574 t575 t576 t577).bind fun bt585 => (if t582 = 0 then (if bt585.2 = 0 then (if bt585.1 > x11_3 then (hinterlandlaw14_FleetWorthsFall.j3 k3 l0 bt585.1 ji44 x60_3 true t567 t570 t573 t574 t575 t576 t577 t581) else (if bt585.1 < 0 then (hinterlandlaw14_FleetWorthsFall.j3 k3 l0 bt585.1 ji44 x60_3 true t567 t570 t573 t574 t575 t576 t577 t581) else (if t575 > x550004_3 then (hinterlandlaw14_FleetWorthsFall.j3 k3 l0 bt585.1 ji44 x60_3 true t567 t570 t573 t574 t575 t576 t577 t581) else (if t573 < x550002_3 then (hinterlandlaw14_FleetWorthsFall.j3 k3 l0 bt585.1 ji44 x60_3 true t567 t570 t573 t574 t575 t576 t577 t581) else ((api_Parcel.f k3 t577 x550006_3).bind fun t587 => (hinterlandlaw14_FleetWorthsFall.j3 k3 l0 bt585.1 ji44 x60_3 (!t587) t567 t570 t573 t574 t575 t576 t577 t581)))))) else (hinterlandlaw14_FleetWorthsFall.j3 k3 l0 bt585.1 ji44 x60_3 true t567 t570 t573 t574 t575 t576 t577 t581)) else (hinterlandlaw14_FleetWorthsFall.j3 k3 l0 bt585.1 ji44 x60_3 true t567 t570 t573 t574 t575 t576 t577 t581))) = some r := H
          have A46 := Aside0.mk A460
          clear A460
          replace H := Option.bind_eq_some_iff.mp H
          obtain ⟨⟨t585, t586⟩, A470, H⟩ := H
          replace H : (if t582 = 0 then (if t586 = 0 then (if t585 > x11_3 then (hinterlandlaw14_FleetWorthsFall.j3 k3 l0 t585 ji44 x60_3 true t567 t570 t573 t574 t575 t576 t577 t581) else (if t585 < 0 then (hinterlandlaw14_FleetWorthsFall.j3 k3 l0 t585 ji44 x60_3 true t567 t570 t573 t574 t575 t576 t577 t581) else (if t575 > x550004_3 then (hinterlandlaw14_FleetWorthsFall.j3 k3 l0 t585 ji44 x60_3 true t567 t570 t573 t574 t575 t576 t577 t581) else (if t573 < x550002_3 then (hinterlandlaw14_FleetWorthsFall.j3 k3 l0 t585 ji44 x60_3 true t567 t570 t573 t574 t575 t576 t577 t581) else ((api_Parcel.f k3 t577 x550006_3).bind fun t587 => (hinterlandlaw14_FleetWorthsFall.j3 k3 l0 t585 ji44 x60_3 (!t587) t567 t570 t573 t574 t575 t576 t577 t581)))))) else (hinterlandlaw14_FleetWorthsFall.j3 k3 l0 t585 ji44 x60_3 true t567 t570 t573 t574 t575 t576 t577 t581)) else (hinterlandlaw14_FleetWorthsFall.j3 k3 l0 t585 ji44 x60_3 true t567 t570 t573 t574 t575 t576 t577 t581)) = some r := H
          have A47 := Aside0.mk A470
          clear A470
          have HC48 := Aside0.mk H
          clear H
          have hnb49 := NB549_550.out
          have hnc49 := NB550_549.out
          have hnb50 := NB549_563.out
          have hnc50 := NB563_549.out
          obtain ⟨hcz51_0, hcz51_1, hcz51_2, hcz51_3, hcz51_4, hcz51_5, hcz51_6, hfz51_0, hfz51_1, hfz51_2, hfz51_3, hfz51_4, hfz51_5, hfz51_6⟩ := cs7_ BK549.out
          have hnb52 := NB550_563.out
          have hnc52 := NB563_550.out
          have hcz53_0 : wr.cell? ⟨gb550, 0, none⟩ = some (.int .u64 x551000_3) := (blk_cell BK550.out 0).trans rfl
          have hfz53_0 := blk_frozen BK550.out 0
          obtain ⟨Ao54, co54, eo54⟩ := Kd.V_slice HO_550000.out
          subst eo54
          obtain ⟨Ao55, co55, eo55⟩ := Kd.V_slice HO_550001.out
          subst eo55
          obtain ⟨Ao56, co56, eo56⟩ := Kd.V_slice HO_550006.out
          subst eo56
          go_upto_region 11 with (first | ((with_reducible refine gate_callee (f := 12) rfl ?_); refine goesL_ (some 66) rfl rfl Try.func12 (by kernel_rfl) rfl #[.slice A0 l0.length c0, .agg #[.slice Ao54 x550000_3.length co54, .slice Ao55 x550001_3.length co55, .int .i64 x550002_3, .int .i64 x550003_3, .int .i64 x550004_3, .int .i64 x550005_3, .slice Ao56 x550006_3.length co56], .agg #[.int .u64 x551000_3]] rfl tA_ ?_; (with_reducible refine (fleet_Day.calls k3 _ _ l0 _ _ x550000_3 _ _ x550001_3 x550002_3 x550003_3 x550004_3 x550005_3 _ _ x550006_3 x551000_3 t567 t570 t573 t574 t575 t576 t577 t580 t581 t582 _ ?side1 ?side2 ?side3 ?side4 ?side5 ?side6 ?side7 ?side8 A46.out).mono ?_); (case side1 => exact dC_ HR0 HB); (case side2 => exact HC0.out); (case side3 => repeat (first | exact (Kd.V_reads' HO_550000.out).2.2 | (with_reducible refine Kd.C_alloc ?_ _) | (with_reducible refine Kd.C_drewN ?_ _) | (with_reducible refine Kd.C_drew ?_))); (case side4 => exact (Kd.V_reads' HO_550000.out).2.1); (case side5 => repeat (first | exact (Kd.V_reads' HO_550001.out).2.2 | (with_reducible refine Kd.C_alloc ?_ _) | (with_reducible refine Kd.C_drewN ?_ _) | (with_reducible refine Kd.C_drew ?_))); (case side6 => exact (Kd.V_reads' HO_550001.out).2.1); (case side7 => repeat (first | exact (Kd.V_reads' HO_550006.out).2.2 | (with_reducible refine Kd.C_alloc ?_ _) | (with_reducible refine Kd.C_drewN ?_ _) | (with_reducible refine Kd.C_drew ?_))); (case side8 => exact (Kd.V_reads' HO_550006.out).2.1); rintro e w57 ⟨v568, v571, v578, rfl, ho0, ho1, ho2, hb⟩; refine ⟨_, rfl, ?_⟩; replace HO_550000 := Aside0.mk (Kd.V_mono (Kd.V_told (Kd.V_told (Kd.V_told (Kd.V_old (by (with_reducible repeat (first | apply Kd.V_alloc | apply Kd.V_drewN | apply Kd.V_drew)); exact HO_550000.out) hb) (Kd.R_base ho0)) (Kd.R_base ho1)) (Kd.R_base ho2)) (fun _ h_ => h_.1)); replace HO_550001 := Aside0.mk (Kd.V_mono (Kd.V_told (Kd.V_told (Kd.V_told (Kd.V_old (by (with_reducible repeat (first | apply Kd.V_alloc | apply Kd.V_drewN | apply Kd.V_drew)); exact HO_550001.out) hb) (Kd.R_base ho0)) (Kd.R_base ho1)) (Kd.R_base ho2)) (fun _ h_ => h_.1)); replace HO_550006 := Aside0.mk (Kd.V_mono (Kd.V_told (Kd.V_told (Kd.V_told (Kd.V_old (by (with_reducible repeat (first | apply Kd.V_alloc | apply Kd.V_drewN | apply Kd.V_drew)); exact HO_550006.out) hb) (Kd.R_base ho0)) (Kd.R_base ho1)) (Kd.R_base ho2)) (fun _ h_ => h_.1)); have HO569 := Aside0.mk (Kd.R_lower (Kd.R_newM (M := fun k_ => (w.heap.size ≤ k_)) ho0 (below_size (dL3_ HB GE549 GE550 GE563)) (fun k_ h_ => h_)) (below_size (dL3_ HB GE549 GE550 GE563))); have HO572 := Aside0.mk (Kd.R_lower (Kd.R_newM (M := fun k_ => (w.heap.size ≤ k_)) ho1 (below_size (dL3_ HB GE549 GE550 GE563)) (fun k_ h_ => h_)) (below_size (dL3_ HB GE549 GE550 GE563))); have HO579 := Aside0.mk (Kd.R_lower (Kd.R_newM (M := fun k_ => (w.heap.size ≤ k_)) ho2 (below_size (dL3_ HB GE549 GE550 GE563)) (fun k_ h_ => h_)) (below_size (dL3_ HB GE549 GE550 GE563))); replace BK549 := Aside0.mk (blk_below (g := gb549) (o := .cells #[.slice Ao54 x550000_3.length co54, .slice Ao55 x550001_3.length co55, .int .i64 x550002_3, .int .i64 x550003_3, .int .i64 x550004_3, .int .i64 x550005_3, .slice Ao56 x550006_3.length co56] 26 (0, 0)) (dB_ BK549) hb); replace BK550 := Aside0.mk (blk_below (g := gb550) (o := .cells #[.int .u64 x551000_3] 37 (0, 0)) (dB_ BK550) hb); replace BK563 := Aside0.mk (blk_below (g := gb563) (o := .cells #[.int .i64 t554, .int .i64 t555, .int .i64 t556, .int .i64 t557, .int .i64 t558, .int .i64 t559, .int .i64 t560, .bool t561] 42 (0, 0)) (dB_ BK563) hb); replace HB := Aside0.mk (below_step (dL3_ HB GE549 GE550 GE563) hb)) | ((with_reducible refine gate_dst (N := 13) rfl ?_); refine box_event ?hg (N := 13) ?hd (cs := #[.slice none 0 0, .slice none 0 0, .int .i64 0, .int .i64 0, .int .i64 0, .int .i64 0, .slice none 0 0]) (t := 26) ?hr ?_; (case hd => rfl); (case hg => rfl); (case hr => first | (go_simp; done) | (go_simp; rfl)); intro gb583 hg w58 hbox hb; replace HO_550000 := Aside0.mk (Kd.V_below (Kd.V_elderB (by (with_reducible repeat (first | apply Kd.V_alloc | apply Kd.V_drewN | apply Kd.V_drew)); exact HO_550000.out) gb583 (Nat.le_of_eq hg.symm)) hb); replace HO_550001 := Aside0.mk (Kd.V_below (Kd.V_elderB (by (with_reducible repeat (first | apply Kd.V_alloc | apply Kd.V_drewN | apply Kd.V_drew)); exact HO_550001.out) gb583 (Nat.le_of_eq hg.symm)) hb); replace HO_550006 := Aside0.mk (Kd.V_below (Kd.V_elderB (by (with_reducible repeat (first | apply Kd.V_alloc | apply Kd.V_drewN | apply Kd.V_drew)); exact HO_550006.out) gb583 (Nat.le_of_eq hg.symm)) hb); replace HO569 := Aside0.mk (Kd.R_below (dR_ HO569) hb); replace HO572 := Aside0.mk (Kd.R_below (dR_ HO572) hb); replace HO579 := Aside0.mk (Kd.R_below (dR_ HO579) hb); have BK583 := Aside0.mk (hbox); have GW583 := Aside0.mk ((dS_ hg (dL3_ HB GE549 GE550 GE563) : w.heap.size ≤ gb583)); have GE583 := Aside0.mk ((dS_ hg (dL3_ HB GE549 GE550 GE563) : w.heap.size ≤ gb583)); replace HB := Aside0.mk (below_step (dL3_ HB GE549 GE550 GE563) hb); have NB549_583 := Aside0.mk ((by rw [hg]; exact Nat.ne_of_lt (blk_lt (dB_ BK549)) : gb549 ≠ gb583)); have NB583_549 := Aside0.mk ((by rw [hg]; exact Nat.ne_of_gt (blk_lt (dB_ BK549)) : gb583 ≠ gb549)); replace BK549 := Aside0.mk (blk_below (g := gb549) (o := .cells #[.slice Ao54 x550000_3.length co54, .slice Ao55 x550001_3.length co55, .int .i64 x550002_3, .int .i64 x550003_3, .int .i64 x550004_3, .int .i64 x550005_3, .slice Ao56 x550006_3.length co56] 26 (0, 0)) (dB_ BK549) hb); have NB550_583 := Aside0.mk ((by rw [hg]; exact Nat.ne_of_lt (blk_lt (dB_ BK550)) : gb550 ≠ gb583)); have NB583_550 := Aside0.mk ((by rw [hg]; exact Nat.ne_of_gt (blk_lt (dB_ BK550)) : gb583 ≠ gb550)); replace BK550 := Aside0.mk (blk_below (g := gb550) (o := .cells #[.int .u64 x551000_3] 37 (0, 0)) (dB_ BK550) hb); have NB563_583 := Aside0.mk ((by rw [hg]; exact Nat.ne_of_lt (blk_lt (dB_ BK563)) : gb563 ≠ gb583)); have NB583_563 := Aside0.mk ((by rw [hg]; exact Nat.ne_of_gt (blk_lt (dB_ BK563)) : gb583 ≠ gb563)); replace BK563 := Aside0.mk (blk_below (g := gb563) (o := .cells #[.int .i64 t554, .int .i64 t555, .int .i64 t556, .int .i64 t557, .int .i64 t558, .int .i64 t559, .int .i64 t560, .bool t561] 42 (0, 0)) (dB_ BK563) hb); clear hb hbox hg) | ((with_reducible refine gate_dst (N := 15) rfl ?_); refine box_event ?hg (N := 15) ?hd (cs := #[.int .u64 0]) (t := 37) ?hr ?_; (case hd => rfl); (case hg => rfl); (case hr => first | (go_simp; done) | (go_simp; rfl)); intro gb584 hg w59 hbox hb; replace HO_550000 := Aside0.mk (Kd.V_below (Kd.V_elderB (by (with_reducible repeat (first | apply Kd.V_alloc | apply Kd.V_drewN | apply Kd.V_drew)); exact HO_550000.out) gb584 (Nat.le_of_eq hg.symm)) hb); replace HO_550001 := Aside0.mk (Kd.V_below (Kd.V_elderB (by (with_reducible repeat (first | apply Kd.V_alloc | apply Kd.V_drewN | apply Kd.V_drew)); exact HO_550001.out) gb584 (Nat.le_of_eq hg.symm)) hb); replace HO_550006 := Aside0.mk (Kd.V_below (Kd.V_elderB (by (with_reducible repeat (first | apply Kd.V_alloc | apply Kd.V_drewN | apply Kd.V_drew)); exact HO_550006.out) gb584 (Nat.le_of_eq hg.symm)) hb); replace HO569 := Aside0.mk (Kd.R_below (dR_ HO569) hb); replace HO572 := Aside0.mk (Kd.R_below (dR_ HO572) hb); replace HO579 := Aside0.mk (Kd.R_below (dR_ HO579) hb); have BK584 := Aside0.mk (hbox); have GW584 := Aside0.mk ((dS_ hg (dL4_ HB GE549 GE550 GE563 GE583) : w.heap.size ≤ gb584)); have GE584 := Aside0.mk ((dS_ hg (dL4_ HB GE549 GE550 GE563 GE583) : w.heap.size ≤ gb584)); replace HB := Aside0.mk (below_step (dL4_ HB GE549 GE550 GE563 GE583) hb); have NB549_584 := Aside0.mk ((by rw [hg]; exact Nat.ne_of_lt (blk_lt (dB_ BK549)) : gb549 ≠ gb584)); have NB584_549 := Aside0.mk ((by rw [hg]; exact Nat.ne_of_gt (blk_lt (dB_ BK549)) : gb584 ≠ gb549)); replace BK549 := Aside0.mk (blk_below (g := gb549) (o := .cells #[.slice Ao54 x550000_3.length co54, .slice Ao55 x550001_3.length co55, .int .i64 x550002_3, .int .i64 x550003_3, .int .i64 x550004_3, .int .i64 x550005_3, .slice Ao56 x550006_3.length co56] 26 (0, 0)) (dB_ BK549) hb); have NB550_584 := Aside0.mk ((by rw [hg]; exact Nat.ne_of_lt (blk_lt (dB_ BK550)) : gb550 ≠ gb584)); have NB584_550 := Aside0.mk ((by rw [hg]; exact Nat.ne_of_gt (blk_lt (dB_ BK550)) : gb584 ≠ gb550)); replace BK550 := Aside0.mk (blk_below (g := gb550) (o := .cells #[.int .u64 x551000_3] 37 (0, 0)) (dB_ BK550) hb); have NB563_584 := Aside0.mk ((by rw [hg]; exact Nat.ne_of_lt (blk_lt (dB_ BK563)) : gb563 ≠ gb584)); have NB584_563 := Aside0.mk ((by rw [hg]; exact Nat.ne_of_gt (blk_lt (dB_ BK563)) : gb584 ≠ gb563)); replace BK563 := Aside0.mk (blk_below (g := gb563) (o := .cells #[.int .i64 t554, .int .i64 t555, .int .i64 t556, .int .i64 t557, .int .i64 t558, .int .i64 t559, .int .i64 t560, .bool t561] 42 (0, 0)) (dB_ BK563) hb); have NB583_584 := Aside0.mk ((by rw [hg]; exact Nat.ne_of_lt (blk_lt (dB_ BK583)) : gb583 ≠ gb584)); have NB584_583 := Aside0.mk ((by rw [hg]; exact Nat.ne_of_gt (blk_lt (dB_ BK583)) : gb584 ≠ gb583)); replace BK583 := Aside0.mk (blk_below (g := gb583) (o := .cells #[.slice none 0 0, .slice none 0 0, .int .i64 0, .int .i64 0, .int .i64 0, .int .i64 0, .slice none 0 0] 26 (0, 0)) (dB_ BK583) hb); clear hb hbox hg; obtain ⟨Ao60, co60, eo60⟩ := Kd.R_slice HO569.out; subst eo60; have hnb61 := NB583_549.out; have hnc61 := NB549_583.out; have hnb62 := NB583_550.out; have hnc62 := NB550_583.out; have hnb63 := NB583_563.out; have hnc63 := NB563_583.out; have hnb64 := NB583_584.out; have hnc64 := NB584_583.out; obtain ⟨hcz65_0, hcz65_1, hcz65_2, hcz65_3, hcz65_4, hcz65_5, hcz65_6, hfz65_0, hfz65_1, hfz65_2, hfz65_3, hfz65_4, hfz65_5, hfz65_6⟩ := cs7_ BK583.out; obtain ⟨Ao66, co66, eo66⟩ := Kd.R_slice HO572.out; subst eo66; obtain ⟨Ao67, co67, eo67⟩ := Kd.R_slice HO579.out; subst eo67; have hnb68 := NB584_549.out; have hnc68 := NB549_584.out; have hnb69 := NB584_550.out; have hnc69 := NB550_584.out; have hnb70 := NB584_563.out; have hnc70 := NB563_584.out; have hcz71_0 : w59.cell? ⟨gb584, 0, none⟩ = some (.int .u64 0) := (blk_cell BK584.out 0).trans rfl; have hfz71_0 := blk_frozen BK584.out 0) | ((with_reducible refine gate_callee (f := 15) rfl ?_); refine goesL_ (some 74) rfl rfl Try.func15 (by kernel_rfl) rfl #[.slice A0 l0.length c0, .agg #[.slice Ao60 t567.length co60, .slice Ao66 t570.length co66, .int .i64 t573, .int .i64 t574, .int .i64 t575, .int .i64 t576, .slice Ao67 t577.length co67]] rfl tA_ ?_; (with_reducible refine (fleet_Worth.calls k3 _ _ l0 _ _ t567 _ _ t570 t573 t574 t575 t576 _ _ t577 t585 t586 _ ?side1 ?side2 ?side3 ?side4 ?side5 ?side6 ?side7 ?side8 A47.out).mono ?_); (case side1 => exact Kd.C_below HR0.out (by repeat (first | (with_reducible first | exact HB.out | apply below_alloc | apply pw_below_drewN | apply below_drew1 | refine below_set ?_ GE549.out | refine below_set ?_ GE550.out | refine below_set ?_ GE563.out | refine below_set ?_ GE583.out | refine below_set ?_ GE584.out) | exact HB.out))); (case side2 => exact HC0.out); (case side3 => refine (Kd.R_reads' (e := 3) (base := w.heap.size) (ok := fun k_ => ((w.heap.size ≤ k_) ∧ some k_ ≠ (.slice Ao66 t570.length co66 : Value).ownBlock)) (n := t567.length) (c := co60) ?_).2.2; exact (by (with_reducible repeat (first | apply Kd.R_alloc | apply Kd.R_drewN | apply Kd.R_drew)); exact (Kd.R_mono (Kd.R_mono (Kd.R_far (p := ⟨gb584, 0, none⟩) (far7_ (Kd.R_types (Kd.R_types HO569.out BK583.out (by decide)) BK584.out (by decide)) gb583 (fun _ hk => hk.1.2) (.slice Ao60 t567.length co60) (.slice Ao66 t570.length co66) (.int .i64 t573) (.int .i64 t574) (.int .i64 t575) (.int .i64 t576) (.slice Ao67 t577.length co67)) (fun _ hk => hk.2) (.int .u64 t581)) (fun _ h_ => h_.1)) (fun _ h_ => h_.1)))); (case side4 => exact (Kd.R_reads' HO569.out).2.1); (case side5 => refine (Kd.R_reads' (e := 3) (base := w.heap.size) (ok := fun k_ => ((w.heap.size ≤ k_) ∧ some k_ ≠ (.slice Ao60 t567.length co60 : Value).ownBlock)) (n := t570.length) (c := co66) ?_).2.2; exact (by (with_reducible repeat (first | apply Kd.R_alloc | apply Kd.R_drewN | apply Kd.R_drew)); exact (Kd.R_mono (Kd.R_mono (Kd.R_far (p := ⟨gb584, 0, none⟩) (far7_ (Kd.R_types (Kd.R_types HO572.out BK583.out (by decide)) BK584.out (by decide)) gb583 (fun _ hk => hk.1.2) (.slice Ao60 t567.length co60) (.slice Ao66 t570.length co66) (.int .i64 t573) (.int .i64 t574) (.int .i64 t575) (.int .i64 t576) (.slice Ao67 t577.length co67)) (fun _ hk => hk.2) (.int .u64 t581)) (fun _ h_ => h_.1)) (fun _ h_ => h_.1)))); (case side6 => exact (Kd.R_reads' HO572.out).2.1); (case side7 => refine (Kd.R_reads' (e := 49) (base := w.heap.size) (ok := fun k_ => ((w.heap.size ≤ k_) ∧ True)) (n := t577.length) (c := co67) ?_).2.2; exact (by (with_reducible repeat (first | apply Kd.R_alloc | apply Kd.R_drewN | apply Kd.R_drew)); exact (Kd.R_mono (Kd.R_mono (Kd.R_far (p := ⟨gb584, 0, none⟩) (far7_ (Kd.R_types (Kd.R_types HO579.out BK583.out (by decide)) BK584.out (by decide)) gb583 (fun _ hk => hk.1.2) (.slice Ao60 t567.length co60) (.slice Ao66 t570.length co66) (.int .i64 t573) (.int .i64 t574) (.int .i64 t575) (.int .i64 t576) (.slice Ao67 t577.length co67)) (fun _ hk => hk.2) (.int .u64 t581)) (fun _ h_ => h_.1)) (fun _ h_ => h_.1)))); (case side8 => exact (Kd.R_reads' HO579.out).2.1); rintro e w72 ⟨rfl, hb⟩; refine ⟨_, rfl, ?_⟩; replace HO_550000 := Aside0.mk (Kd.V_below (by (with_reducible repeat (first | apply Kd.V_alloc | apply Kd.V_drewN | apply Kd.V_drew)); exact (Kd.V_mono (Kd.V_mono (Kd.V_far (p := ⟨gb584, 0, none⟩) (Kd.V_far (p := ⟨gb583, 6, none⟩) (Kd.V_far (p := ⟨gb583, 5, none⟩) (Kd.V_far (p := ⟨gb583, 4, none⟩) (Kd.V_far (p := ⟨gb583, 3, none⟩) (Kd.V_far (p := ⟨gb583, 2, none⟩) (Kd.V_far (p := ⟨gb583, 1, none⟩) (Kd.V_far (p := ⟨gb583, 0, none⟩) (Kd.V_mono (Kd.V_mono HO_550000.out (fun k_ hk => (⟨hk, hk.1.2⟩ : _ ∧ k_ ≠ gb583))) (fun k_ hk => (⟨hk, hk.1.2⟩ : _ ∧ k_ ≠ gb584))) (fun _ hk => hk.1.2) (.slice Ao60 t567.length co60)) (fun _ hk => hk.1.2) (.slice Ao66 t570.length co66)) (fun _ hk => hk.1.2) (.int .i64 t573)) (fun _ hk => hk.1.2) (.int .i64 t574)) (fun _ hk => hk.1.2) (.int .i64 t575)) (fun _ hk => hk.1.2) (.int .i64 t576)) (fun _ hk => hk.1.2) (.slice Ao67 t577.length co67)) (fun _ hk => hk.2) (.int .u64 t581)) (fun _ h_ => h_.1)) (fun _ h_ => h_.1))) hb); replace HO_550001 := Aside0.mk (Kd.V_below (by (with_reducible repeat (first | apply Kd.V_alloc | apply Kd.V_drewN | apply Kd.V_drew)); exact (Kd.V_mono (Kd.V_mono (Kd.V_far (p := ⟨gb584, 0, none⟩) (Kd.V_far (p := ⟨gb583, 6, none⟩) (Kd.V_far (p := ⟨gb583, 5, none⟩) (Kd.V_far (p := ⟨gb583, 4, none⟩) (Kd.V_far (p := ⟨gb583, 3, none⟩) (Kd.V_far (p := ⟨gb583, 2, none⟩) (Kd.V_far (p := ⟨gb583, 1, none⟩) (Kd.V_far (p := ⟨gb583, 0, none⟩) (Kd.V_mono (Kd.V_mono HO_550001.out (fun k_ hk => (⟨hk, hk.1.2⟩ : _ ∧ k_ ≠ gb583))) (fun k_ hk => (⟨hk, hk.1.2⟩ : _ ∧ k_ ≠ gb584))) (fun _ hk => hk.1.2) (.slice Ao60 t567.length co60)) (fun _ hk => hk.1.2) (.slice Ao66 t570.length co66)) (fun _ hk => hk.1.2) (.int .i64 t573)) (fun _ hk => hk.1.2) (.int .i64 t574)) (fun _ hk => hk.1.2) (.int .i64 t575)) (fun _ hk => hk.1.2) (.int .i64 t576)) (fun _ hk => hk.1.2) (.slice Ao67 t577.length co67)) (fun _ hk => hk.2) (.int .u64 t581)) (fun _ h_ => h_.1)) (fun _ h_ => h_.1))) hb); replace HO_550006 := Aside0.mk (Kd.V_below (by (with_reducible repeat (first | apply Kd.V_alloc | apply Kd.V_drewN | apply Kd.V_drew)); exact (Kd.V_mono (Kd.V_mono (Kd.V_far (p := ⟨gb584, 0, none⟩) (Kd.V_far (p := ⟨gb583, 6, none⟩) (Kd.V_far (p := ⟨gb583, 5, none⟩) (Kd.V_far (p := ⟨gb583, 4, none⟩) (Kd.V_far (p := ⟨gb583, 3, none⟩) (Kd.V_far (p := ⟨gb583, 2, none⟩) (Kd.V_far (p := ⟨gb583, 1, none⟩) (Kd.V_far (p := ⟨gb583, 0, none⟩) (Kd.V_mono (Kd.V_mono HO_550006.out (fun k_ hk => (⟨hk, hk.1.2⟩ : _ ∧ k_ ≠ gb583))) (fun k_ hk => (⟨hk, hk.1.2⟩ : _ ∧ k_ ≠ gb584))) (fun _ hk => hk.1.2) (.slice Ao60 t567.length co60)) (fun _ hk => hk.1.2) (.slice Ao66 t570.length co66)) (fun _ hk => hk.1.2) (.int .i64 t573)) (fun _ hk => hk.1.2) (.int .i64 t574)) (fun _ hk => hk.1.2) (.int .i64 t575)) (fun _ hk => hk.1.2) (.int .i64 t576)) (fun _ hk => hk.1.2) (.slice Ao67 t577.length co67)) (fun _ hk => hk.2) (.int .u64 t581)) (fun _ h_ => h_.1)) (fun _ h_ => h_.1))) hb); replace HO569 := Aside0.mk (Kd.R_below (by (with_reducible repeat (first | apply Kd.R_alloc | apply Kd.R_drewN | apply Kd.R_drew)); exact (Kd.R_mono (Kd.R_mono (Kd.R_far (p := ⟨gb584, 0, none⟩) (far7_ (Kd.R_types (Kd.R_types HO569.out BK583.out (by decide)) BK584.out (by decide)) gb583 (fun _ hk => hk.1.2) (.slice Ao60 t567.length co60) (.slice Ao66 t570.length co66) (.int .i64 t573) (.int .i64 t574) (.int .i64 t575) (.int .i64 t576) (.slice Ao67 t577.length co67)) (fun _ hk => hk.2) (.int .u64 t581)) (fun _ h_ => h_.1)) (fun _ h_ => h_.1))) hb); replace HO572 := Aside0.mk (Kd.R_below (by (with_reducible repeat (first | apply Kd.R_alloc | apply Kd.R_drewN | apply Kd.R_drew)); exact (Kd.R_mono (Kd.R_mono (Kd.R_far (p := ⟨gb584, 0, none⟩) (far7_ (Kd.R_types (Kd.R_types HO572.out BK583.out (by decide)) BK584.out (by decide)) gb583 (fun _ hk => hk.1.2) (.slice Ao60 t567.length co60) (.slice Ao66 t570.length co66) (.int .i64 t573) (.int .i64 t574) (.int .i64 t575) (.int .i64 t576) (.slice Ao67 t577.length co67)) (fun _ hk => hk.2) (.int .u64 t581)) (fun _ h_ => h_.1)) (fun _ h_ => h_.1))) hb); replace HO579 := Aside0.mk (Kd.R_below (by (with_reducible repeat (first | apply Kd.R_alloc | apply Kd.R_drewN | apply Kd.R_drew)); exact (Kd.R_mono (Kd.R_mono (Kd.R_far (p := ⟨gb584, 0, none⟩) (far7_ (Kd.R_types (Kd.R_types HO579.out BK583.out (by decide)) BK584.out (by decide)) gb583 (fun _ hk => hk.1.2) (.slice Ao60 t567.length co60) (.slice Ao66 t570.length co66) (.int .i64 t573) (.int .i64 t574) (.int .i64 t575) (.int .i64 t576) (.slice Ao67 t577.length co67)) (fun _ hk => hk.2) (.int .u64 t581)) (fun _ h_ => h_.1)) (fun _ h_ => h_.1))) hb); replace BK549 := Aside0.mk (blk_below (g := gb549) (o := .cells #[.slice Ao54 x550000_3.length co54, .slice Ao55 x550001_3.length co55, .int .i64 x550002_3, .int .i64 x550003_3, .int .i64 x550004_3, .int .i64 x550005_3, .slice Ao56 x550006_3.length co56] 26 (0, 0)) (by (with_reducible repeat (first | refine blk_drewN ?_ _ | refine blk_drew ?_ | refine blk_alloc ?_ _)); refine blk_far ?_ NB549_584.out _; (with_reducible repeat (first | refine blk_drewN ?_ _ | refine blk_drew ?_ | refine blk_alloc ?_ _)); refine blk_far ?_ NB549_583.out _; (with_reducible repeat (first | refine blk_drewN ?_ _ | refine blk_drew ?_ | refine blk_alloc ?_ _)); refine blk_far ?_ NB549_583.out _; (with_reducible repeat (first | refine blk_drewN ?_ _ | refine blk_drew ?_ | refine blk_alloc ?_ _)); refine blk_far ?_ NB549_583.out _; (with_reducible repeat (first | refine blk_drewN ?_ _ | refine blk_drew ?_ | refine blk_alloc ?_ _)); refine blk_far ?_ NB549_583.out _; (with_reducible repeat (first | refine blk_drewN ?_ _ | refine blk_drew ?_ | refine blk_alloc ?_ _)); refine blk_far ?_ NB549_583.out _; (with_reducible repeat (first | refine blk_drewN ?_ _ | refine blk_drew ?_ | refine blk_alloc ?_ _)); refine blk_far ?_ NB549_583.out _; (with_reducible repeat (first | refine blk_drewN ?_ _ | refine blk_drew ?_ | refine blk_alloc ?_ _)); refine blk_far ?_ NB549_583.out _; (with_reducible repeat (first | refine blk_drewN ?_ _ | refine blk_drew ?_ | refine blk_alloc ?_ _)); exact BK549.out) hb); replace BK550 := Aside0.mk (blk_below (g := gb550) (o := .cells #[.int .u64 x551000_3] 37 (0, 0)) (by (with_reducible repeat (first | refine blk_drewN ?_ _ | refine blk_drew ?_ | refine blk_alloc ?_ _)); refine blk_far ?_ NB550_584.out _; (with_reducible repeat (first | refine blk_drewN ?_ _ | refine blk_drew ?_ | refine blk_alloc ?_ _)); refine blk_far ?_ NB550_583.out _; (with_reducible repeat (first | refine blk_drewN ?_ _ | refine blk_drew ?_ | refine blk_alloc ?_ _)); refine blk_far ?_ NB550_583.out _; (with_reducible repeat (first | refine blk_drewN ?_ _ | refine blk_drew ?_ | refine blk_alloc ?_ _)); refine blk_far ?_ NB550_583.out _; (with_reducible repeat (first | refine blk_drewN ?_ _ | refine blk_drew ?_ | refine blk_alloc ?_ _)); refine blk_far ?_ NB550_583.out _; (with_reducible repeat (first | refine blk_drewN ?_ _ | refine blk_drew ?_ | refine blk_alloc ?_ _)); refine blk_far ?_ NB550_583.out _; (with_reducible repeat (first | refine blk_drewN ?_ _ | refine blk_drew ?_ | refine blk_alloc ?_ _)); refine blk_far ?_ NB550_583.out _; (with_reducible repeat (first | refine blk_drewN ?_ _ | refine blk_drew ?_ | refine blk_alloc ?_ _)); refine blk_far ?_ NB550_583.out _; (with_reducible repeat (first | refine blk_drewN ?_ _ | refine blk_drew ?_ | refine blk_alloc ?_ _)); exact BK550.out) hb); replace BK563 := Aside0.mk (blk_below (g := gb563) (o := .cells #[.int .i64 t554, .int .i64 t555, .int .i64 t556, .int .i64 t557, .int .i64 t558, .int .i64 t559, .int .i64 t560, .bool t561] 42 (0, 0)) (by (with_reducible repeat (first | refine blk_drewN ?_ _ | refine blk_drew ?_ | refine blk_alloc ?_ _)); refine blk_far ?_ NB563_584.out _; (with_reducible repeat (first | refine blk_drewN ?_ _ | refine blk_drew ?_ | refine blk_alloc ?_ _)); refine blk_far ?_ NB563_583.out _; (with_reducible repeat (first | refine blk_drewN ?_ _ | refine blk_drew ?_ | refine blk_alloc ?_ _)); refine blk_far ?_ NB563_583.out _; (with_reducible repeat (first | refine blk_drewN ?_ _ | refine blk_drew ?_ | refine blk_alloc ?_ _)); refine blk_far ?_ NB563_583.out _; (with_reducible repeat (first | refine blk_drewN ?_ _ | refine blk_drew ?_ | refine blk_alloc ?_ _)); refine blk_far ?_ NB563_583.out _; (with_reducible repeat (first | refine blk_drewN ?_ _ | refine blk_drew ?_ | refine blk_alloc ?_ _)); refine blk_far ?_ NB563_583.out _; (with_reducible repeat (first | refine blk_drewN ?_ _ | refine blk_drew ?_ | refine blk_alloc ?_ _)); refine blk_far ?_ NB563_583.out _; (with_reducible repeat (first | refine blk_drewN ?_ _ | refine blk_drew ?_ | refine blk_alloc ?_ _)); refine blk_far ?_ NB563_583.out _; (with_reducible repeat (first | refine blk_drewN ?_ _ | refine blk_drew ?_ | refine blk_alloc ?_ _)); exact BK563.out) hb); replace BK583 := Aside0.mk (blk_below (g := gb583) (o := .cells #[.slice Ao60 t567.length co60, .slice Ao66 t570.length co66, .int .i64 t573, .int .i64 t574, .int .i64 t575, .int .i64 t576, .slice Ao67 t577.length co67] 26 (0, 0)) (by (with_reducible repeat (first | refine blk_drewN ?_ _ | refine blk_drew ?_ | refine blk_alloc ?_ _)); refine blk_far ?_ NB583_584.out _; (with_reducible repeat (first | refine blk_drewN ?_ _ | refine blk_drew ?_ | refine blk_alloc ?_ _)); refine blk_put (cs := #[.slice Ao60 t567.length co60, .slice Ao66 t570.length co66, .int .i64 t573, .int .i64 t574, .int .i64 t575, .int .i64 t576, .slice none 0 0]) ?_ 6 _ rfl; (with_reducible repeat (first | refine blk_drewN ?_ _ | refine blk_drew ?_ | refine blk_alloc ?_ _)); refine blk_put (cs := #[.slice Ao60 t567.length co60, .slice Ao66 t570.length co66, .int .i64 t573, .int .i64 t574, .int .i64 t575, .int .i64 0, .slice none 0 0]) ?_ 5 _ rfl; (with_reducible repeat (first | refine blk_drewN ?_ _ | refine blk_drew ?_ | refine blk_alloc ?_ _)); refine blk_put (cs := #[.slice Ao60 t567.length co60, .slice Ao66 t570.length co66, .int .i64 t573, .int .i64 t574, .int .i64 0, .int .i64 0, .slice none 0 0]) ?_ 4 _ rfl; (with_reducible repeat (first | refine blk_drewN ?_ _ | refine blk_drew ?_ | refine blk_alloc ?_ _)); refine blk_put (cs := #[.slice Ao60 t567.length co60, .slice Ao66 t570.length co66, .int .i64 t573, .int .i64 0, .int .i64 0, .int .i64 0, .slice none 0 0]) ?_ 3 _ rfl; (with_reducible repeat (first | refine blk_drewN ?_ _ | refine blk_drew ?_ | refine blk_alloc ?_ _)); refine blk_put (cs := #[.slice Ao60 t567.length co60, .slice Ao66 t570.length co66, .int .i64 0, .int .i64 0, .int .i64 0, .int .i64 0, .slice none 0 0]) ?_ 2 _ rfl; (with_reducible repeat (first | refine blk_drewN ?_ _ | refine blk_drew ?_ | refine blk_alloc ?_ _)); refine blk_put (cs := #[.slice Ao60 t567.length co60, .slice none 0 0, .int .i64 0, .int .i64 0, .int .i64 0, .int .i64 0, .slice none 0 0]) ?_ 1 _ rfl; (with_reducible repeat (first | refine blk_drewN ?_ _ | refine blk_drew ?_ | refine blk_alloc ?_ _)); refine blk_put (cs := #[.slice none 0 0, .slice none 0 0, .int .i64 0, .int .i64 0, .int .i64 0, .int .i64 0, .slice none 0 0]) ?_ 0 _ rfl; (with_reducible repeat (first | refine blk_drewN ?_ _ | refine blk_drew ?_ | refine blk_alloc ?_ _)); exact BK583.out) hb); replace BK584 := Aside0.mk (blk_below (g := gb584) (o := .cells #[.int .u64 t581] 37 (0, 0)) (by (with_reducible repeat (first | refine blk_drewN ?_ _ | refine blk_drew ?_ | refine blk_alloc ?_ _)); refine blk_put (cs := #[.int .u64 0]) ?_ 0 _ rfl; (with_reducible repeat (first | refine blk_drewN ?_ _ | refine blk_drew ?_ | refine blk_alloc ?_ _)); refine blk_far ?_ NB584_583.out _; (with_reducible repeat (first | refine blk_drewN ?_ _ | refine blk_drew ?_ | refine blk_alloc ?_ _)); refine blk_far ?_ NB584_583.out _; (with_reducible repeat (first | refine blk_drewN ?_ _ | refine blk_drew ?_ | refine blk_alloc ?_ _)); refine blk_far ?_ NB584_583.out _; (with_reducible repeat (first | refine blk_drewN ?_ _ | refine blk_drew ?_ | refine blk_alloc ?_ _)); refine blk_far ?_ NB584_583.out _; (with_reducible repeat (first | refine blk_drewN ?_ _ | refine blk_drew ?_ | refine blk_alloc ?_ _)); refine blk_far ?_ NB584_583.out _; (with_reducible repeat (first | refine blk_drewN ?_ _ | refine blk_drew ?_ | refine blk_alloc ?_ _)); refine blk_far ?_ NB584_583.out _; (with_reducible repeat (first | refine blk_drewN ?_ _ | refine blk_drew ?_ | refine blk_alloc ?_ _)); refine blk_far ?_ NB584_583.out _; (with_reducible repeat (first | refine blk_drewN ?_ _ | refine blk_drew ?_ | refine blk_alloc ?_ _)); exact BK584.out) hb); replace HB := Aside0.mk (below_step (by repeat (first | (with_reducible first | exact HB.out | apply below_alloc | apply pw_below_drewN | apply below_drew1 | refine below_set ?_ GE549.out | refine below_set ?_ GE550.out | refine below_set ?_ GE563.out | refine below_set ?_ GE583.out | refine below_set ?_ GE584.out) | exact HB.out)) hb)))
          (try simp only [Act.put, sI_, s0_, sS_])
          go_cut [113] (fun v113 wc => ∃ (kq : Nat) (x113_47 : Bool), v113 = .bool x113_47 ∧ Aside0 (hinterlandlaw14_FleetWorthsFall.j3 kq l0 t585 ji44 x60_3 x113_47 t567 t570 t573 t574 t575 t576 t577 t581 = some r) ∧ Aside0 (kq ≤ k3) ∧ Aside0 (Kd.V (Kd.int .i64) 3 wc w.heap.size (fun k_ => ((P1_0_ k_ ∨ P1_1_ k_ ∨ P1_6_ k_) ∨ w.heap.size ≤ k_) ∧ some k_ ≠ ((.slice Ao60 t567.length co60) : Value).ownBlock ∧ some k_ ≠ ((.slice Ao66 t570.length co66) : Value).ownBlock ∧ some k_ ≠ ((.slice Ao67 t577.length co67) : Value).ownBlock ∧ k_ ≠ gb549 ∧ k_ ≠ gb550 ∧ k_ ≠ gb563 ∧ k_ ≠ gb583 ∧ k_ ≠ gb584) (.slice Ao54 x550000_3.length co54) x550000_3) ∧ Aside0 (Kd.V (Kd.int .i64) 3 wc w.heap.size (fun k_ => ((P1_0_ k_ ∨ P1_1_ k_ ∨ P1_6_ k_) ∨ w.heap.size ≤ k_) ∧ some k_ ≠ ((.slice Ao60 t567.length co60) : Value).ownBlock ∧ some k_ ≠ ((.slice Ao66 t570.length co66) : Value).ownBlock ∧ some k_ ≠ ((.slice Ao67 t577.length co67) : Value).ownBlock ∧ k_ ≠ gb549 ∧ k_ ≠ gb550 ∧ k_ ≠ gb563 ∧ k_ ≠ gb583 ∧ k_ ≠ gb584) (.slice Ao55 x550001_3.length co55) x550001_3) ∧ Aside0 (Kd.V k49 49 wc w.heap.size (fun k_ => ((P1_0_ k_ ∨ P1_1_ k_ ∨ P1_6_ k_) ∨ w.heap.size ≤ k_) ∧ some k_ ≠ ((.slice Ao60 t567.length co60) : Value).ownBlock ∧ some k_ ≠ ((.slice Ao66 t570.length co66) : Value).ownBlock ∧ some k_ ≠ ((.slice Ao67 t577.length co67) : Value).ownBlock ∧ k_ ≠ gb549 ∧ k_ ≠ gb550 ∧ k_ ≠ gb563 ∧ k_ ≠ gb583 ∧ k_ ≠ gb584) (.slice Ao56 x550006_3.length co56) x550006_3) ∧ Aside0 (Kd.R (Kd.int .i64) 3 wc w.heap.size (fun k_ => (w.heap.size ≤ k_) ∧ some k_ ≠ ((.slice Ao66 t570.length co66) : Value).ownBlock) (.slice Ao60 t567.length co60) t567) ∧ Aside0 (Kd.R (Kd.int .i64) 3 wc w.heap.size (fun k_ => (w.heap.size ≤ k_) ∧ some k_ ≠ ((.slice Ao60 t567.length co60) : Value).ownBlock) (.slice Ao66 t570.length co66) t570) ∧ Aside0 (Kd.R k49 49 wc w.heap.size (fun k_ => (w.heap.size ≤ k_)) (.slice Ao67 t577.length co67) t577) ∧ Aside0 (wc.heap[gb549]? = some (.cells #[(.slice Ao54 x550000_3.length co54), (.slice Ao55 x550001_3.length co55), .int .i64 x550002_3, .int .i64 x550003_3, .int .i64 x550004_3, .int .i64 x550005_3, (.slice Ao56 x550006_3.length co56)] 26 (0, 0))) ∧ Aside0 (wc.heap[gb550]? = some (.cells #[.int .u64 x551000_3] 37 (0, 0))) ∧ Aside0 (wc.heap[gb563]? = some (.cells #[.int .i64 t554, .int .i64 t555, .int .i64 t556, .int .i64 t557, .int .i64 t558, .int .i64 t559, .int .i64 t560, .bool t561] 42 (0, 0))) ∧ Aside0 (wc.heap[gb583]? = some (.cells #[(.slice Ao60 t567.length co60), (.slice Ao66 t570.length co66), .int .i64 t573, .int .i64 t574, .int .i64 t575, .int .i64 t576, (.slice Ao67 t577.length co67)] 26 (0, 0))) ∧ Aside0 (wc.heap[gb584]? = some (.cells #[.int .u64 t581] 37 (0, 0))) ∧ Aside0 (Below w.heap.size w wc))
          case first =>
           have H := HC48.out
           clear HC48
           refine (Classical.em (t582 = 0)).elim (fun c73 => ?a40_) (fun c73 => ?b40_)
           case' a40_ =>
            rw [if_pos c73] at H
            have c73b0 : (t582 == 0) = true := beq_iff_eq.mpr c73
            have c73b1 : (t582 != 0) = false := bne_eq_false_iff_eq.mpr c73
            clear c73
            (first | rw [c73b0] | (simp only [i64_w, i32_w]; rw [c73b0]) | skip)
            refine (Classical.em (t586 = 0)).elim (fun c74 => ?a41_) (fun c74 => ?b41_)
            case' a41_ =>
             rw [if_pos c74] at H
             have c74b0 : (t586 == 0) = true := beq_iff_eq.mpr c74
             have c74b1 : (t586 != 0) = false := bne_eq_false_iff_eq.mpr c74
             clear c74
             refine (Classical.em (t585 > x11_3)).elim (fun c75 => ?a42_) (fun c75 => ?b42_)
             case' a42_ =>
              rw [if_pos c75] at H
              have c75b0 : decide (x11_3 < t585) = true := decide_eq_true c75
              clear c75
              have H' := Aside0.mk H
              clear H
             case' b42_ =>
              rw [if_neg c75] at H
              have c75b0 : decide (x11_3 < t585) = false := decide_eq_false c75
              clear c75
              refine (Classical.em (t585 < 0)).elim (fun c76 => ?a43_) (fun c76 => ?b43_)
              case' a43_ =>
               rw [if_pos c76] at H
               have c76b0 : decide (t585 < 0) = true := decide_eq_true c76
               clear c76
               have H' := Aside0.mk H
               clear H
              case' b43_ =>
               rw [if_neg c76] at H
               have c76b0 : decide (t585 < 0) = false := decide_eq_false c76
               clear c76
               refine (Classical.em (t575 > x550004_3)).elim (fun c77 => ?a44_) (fun c77 => ?b44_)
               case' a44_ =>
                rw [if_pos c77] at H
                have c77b0 : decide (x550004_3 < t575) = true := decide_eq_true c77
                clear c77
                have H' := Aside0.mk H
                clear H
               case' b44_ =>
                rw [if_neg c77] at H
                have c77b0 : decide (x550004_3 < t575) = false := decide_eq_false c77
                clear c77
                refine (Classical.em (t573 < x550002_3)).elim (fun c87 => ?a45_) (fun c87 => ?b45_)
                case' a45_ =>
                 rw [if_pos c87] at H
                 have c87b0 : decide (t573 < x550002_3) = true := decide_eq_true c87
                 clear c87
                 have H' := Aside0.mk H
                 clear H
                case' b45_ =>
                 rw [if_neg c87] at H
                 have c87b0 : decide (t573 < x550002_3) = false := decide_eq_false c87
                 clear c87
                 replace H := Option.bind_eq_some_iff.mp H
                 obtain ⟨t587, A970, H⟩ := H
                 replace H : (hinterlandlaw14_FleetWorthsFall.j3 k3 l0 t585 ji44 x60_3 (!t587) t567 t570 t573 t574 t575 t576 t577 t581) = some r := H
                 have A97 := Aside0.mk A970
                 clear A970
                 have H' := Aside0.mk H
                 clear H
            case' b41_ =>
             rw [if_neg c74] at H
             have c74b0 : (t586 == 0) = false := beq_eq_false_iff_ne.mpr c74
             have c74b1 : (t586 != 0) = true := bne_iff_ne.mpr c74
             have H' := Aside0.mk H
             clear H
           case' b40_ =>
            rw [if_neg c73] at H
            have c73b0 : (t582 == 0) = false := beq_eq_false_iff_ne.mpr c73
            have c73b1 : (t582 != 0) = true := bne_iff_ne.mpr c73
            (first | rw [c73b0] | (simp only [i64_w, i32_w]; rw [c73b0]) | skip)
            have H' := Aside0.mk H
            clear H
           all_goals (
            first
            | (have hnbz1 := NB583_549.out
               have hncz1 := NB549_583.out
               have hnbz2 := NB583_550.out
               have hncz2 := NB550_583.out
               have hnbz3 := NB583_563.out
               have hncz3 := NB563_583.out
               have hnbz4 := NB583_584.out
               have hncz4 := NB584_583.out
               obtain ⟨hczz1_0, hczz1_1, hczz1_2, hczz1_3, hczz1_4, hczz1_5, hczz1_6, hfzz1_0, hfzz1_1, hfzz1_2, hfzz1_3, hfzz1_4, hfzz1_5, hfzz1_6⟩ := cs7_ BK583.out
               have hnbz5 := NB549_550.out
               have hncz5 := NB550_549.out
               have hnbz6 := NB549_563.out
               have hncz6 := NB563_549.out
               have hnbz7 := NB549_584.out
               have hncz7 := NB584_549.out
               obtain ⟨hczz2_0, hczz2_1, hczz2_2, hczz2_3, hczz2_4, hczz2_5, hczz2_6, hfzz2_0, hfzz2_1, hfzz2_2, hfzz2_3, hfzz2_4, hfzz2_5, hfzz2_6⟩ := cs7_ BK549.out)
            | skip
            go_wp2_with (first | (go_at_call 16; (with_reducible refine (api_Parcel.calls k3 _ _ t577 _ _ x550006_3 t587 _ ?side1 ?side2 ?side3 ?side4 A97.out).mono ?_); (case side1 => repeat (first | exact (Kd.R_reads' HO579.out).2.2 | (with_reducible refine Kd.C_alloc ?_ _) | (with_reducible refine Kd.C_drewN ?_ _) | (with_reducible refine Kd.C_drew ?_))); (case side2 => exact (Kd.R_reads' HO579.out).2.1); (case side3 => repeat (first | exact (Kd.V_reads' HO_550006.out).2.2 | (with_reducible refine Kd.C_alloc ?_ _) | (with_reducible refine Kd.C_drewN ?_ _) | (with_reducible refine Kd.C_drew ?_))); (case side4 => exact (Kd.V_reads' HO_550006.out).2.1); rintro e w' ⟨rfl, ⟨nd, rfl⟩⟩))
            first
            | (go_meet
               case rel => exact ⟨_, (!t587), tS_, H', ⟨by have := HJ4.out; have := HJ23.out; have := HK3.out; first | omega | exact Nat.le_refl _⟩, ⟨by (with_reducible repeat (first | apply Kd.V_alloc | apply Kd.V_drewN | apply Kd.V_drew)); exact Kd.V_mono HO_550000.out (fun _ hk => ⟨hk.1.1.1.1.1.1, ⟨hk.1.1.1.1.2, ⟨hk.1.1.1.2, ⟨hk.1.1.2, ⟨hk.1.1.1.1.1.2.1, ⟨hk.1.1.1.1.1.2.2.1, ⟨hk.1.1.1.1.1.2.2.2, ⟨hk.1.2, hk.2⟩⟩⟩⟩⟩⟩⟩⟩)⟩, ⟨by (with_reducible repeat (first | apply Kd.V_alloc | apply Kd.V_drewN | apply Kd.V_drew)); exact Kd.V_mono HO_550001.out (fun _ hk => ⟨hk.1.1.1.1.1.1, ⟨hk.1.1.1.1.2, ⟨hk.1.1.1.2, ⟨hk.1.1.2, ⟨hk.1.1.1.1.1.2.1, ⟨hk.1.1.1.1.1.2.2.1, ⟨hk.1.1.1.1.1.2.2.2, ⟨hk.1.2, hk.2⟩⟩⟩⟩⟩⟩⟩⟩)⟩, ⟨by (with_reducible repeat (first | apply Kd.V_alloc | apply Kd.V_drewN | apply Kd.V_drew)); exact Kd.V_mono HO_550006.out (fun _ hk => ⟨hk.1.1.1.1.1.1, ⟨hk.1.1.1.1.2, ⟨hk.1.1.1.2, ⟨hk.1.1.2, ⟨hk.1.1.1.1.1.2.1, ⟨hk.1.1.1.1.1.2.2.1, ⟨hk.1.1.1.1.1.2.2.2, ⟨hk.1.2, hk.2⟩⟩⟩⟩⟩⟩⟩⟩)⟩, ⟨dR_ HO569⟩, ⟨dR_ HO572⟩, ⟨by (with_reducible repeat (first | apply Kd.R_alloc | apply Kd.R_drewN | apply Kd.R_drew)); exact Kd.R_mono HO579.out (fun _ hk => hk.1)⟩, ⟨dB_ BK549⟩, ⟨dB_ BK550⟩, ⟨dB_ BK563⟩, ⟨dB_ BK583⟩, ⟨dB_ BK584⟩, ⟨by repeat (first | (with_reducible first | exact HB.out | apply below_alloc | apply pw_below_drewN | apply below_drew1 | refine below_set ?_ GE549.out | refine below_set ?_ GE550.out | refine below_set ?_ GE563.out | refine below_set ?_ GE583.out | refine below_set ?_ GE584.out) | exact HB.out)⟩⟩)
            | (go_meet
               case rel => exact ⟨_, (true), tS_, H', ⟨by have := HJ4.out; have := HJ23.out; have := HK3.out; first | omega | exact Nat.le_refl _⟩, ⟨by (with_reducible repeat (first | apply Kd.V_alloc | apply Kd.V_drewN | apply Kd.V_drew)); exact Kd.V_mono HO_550000.out (fun _ hk => ⟨hk.1.1.1.1.1.1, ⟨hk.1.1.1.1.2, ⟨hk.1.1.1.2, ⟨hk.1.1.2, ⟨hk.1.1.1.1.1.2.1, ⟨hk.1.1.1.1.1.2.2.1, ⟨hk.1.1.1.1.1.2.2.2, ⟨hk.1.2, hk.2⟩⟩⟩⟩⟩⟩⟩⟩)⟩, ⟨by (with_reducible repeat (first | apply Kd.V_alloc | apply Kd.V_drewN | apply Kd.V_drew)); exact Kd.V_mono HO_550001.out (fun _ hk => ⟨hk.1.1.1.1.1.1, ⟨hk.1.1.1.1.2, ⟨hk.1.1.1.2, ⟨hk.1.1.2, ⟨hk.1.1.1.1.1.2.1, ⟨hk.1.1.1.1.1.2.2.1, ⟨hk.1.1.1.1.1.2.2.2, ⟨hk.1.2, hk.2⟩⟩⟩⟩⟩⟩⟩⟩)⟩, ⟨by (with_reducible repeat (first | apply Kd.V_alloc | apply Kd.V_drewN | apply Kd.V_drew)); exact Kd.V_mono HO_550006.out (fun _ hk => ⟨hk.1.1.1.1.1.1, ⟨hk.1.1.1.1.2, ⟨hk.1.1.1.2, ⟨hk.1.1.2, ⟨hk.1.1.1.1.1.2.1, ⟨hk.1.1.1.1.1.2.2.1, ⟨hk.1.1.1.1.1.2.2.2, ⟨hk.1.2, hk.2⟩⟩⟩⟩⟩⟩⟩⟩)⟩, ⟨dR_ HO569⟩, ⟨dR_ HO572⟩, ⟨by (with_reducible repeat (first | apply Kd.R_alloc | apply Kd.R_drewN | apply Kd.R_drew)); exact Kd.R_mono HO579.out (fun _ hk => hk.1)⟩, ⟨dB_ BK549⟩, ⟨dB_ BK550⟩, ⟨dB_ BK563⟩, ⟨dB_ BK583⟩, ⟨dB_ BK584⟩, ⟨by repeat (first | (with_reducible first | exact HB.out | apply below_alloc | apply pw_below_drewN | apply below_drew1 | refine below_set ?_ GE549.out | refine below_set ?_ GE550.out | refine below_set ?_ GE563.out | refine below_set ?_ GE583.out | refine below_set ?_ GE584.out) | exact HB.out)⟩⟩))
          case rest =>
           clear HC48
           try clear c19
           try clear c34
           try clear c35
           try clear c36
           try clear c43
           try clear c45
           try clear c45b0
           try clear c73
           try clear c74
           try clear c75
           try clear c76
           try clear c77
           try clear c87
           try clear hcz26_0
           try clear hcz26_1
           try clear hcz26_2
           try clear hcz26_3
           try clear hcz26_4
           try clear hcz26_5
           try clear hcz26_6
           try clear hcz31_0
           try clear hcz31_1
           try clear hcz31_2
           try clear hcz31_3
           try clear hcz31_4
           try clear hcz31_5
           try clear hcz31_6
           try clear hcz31_7
           try clear hcz32_0
           try clear hcz32_1
           try clear hcz32_2
           try clear hcz32_3
           try clear hcz32_4
           try clear hcz32_5
           try clear hcz32_6
           try clear hcz51_0
           try clear hcz51_1
           try clear hcz51_2
           try clear hcz51_3
           try clear hcz51_4
           try clear hcz51_5
           try clear hcz51_6
           try clear hcz53_0
           try clear hcz65_0
           try clear hcz65_1
           try clear hcz65_2
           try clear hcz65_3
           try clear hcz65_4
           try clear hcz65_5
           try clear hcz65_6
           try clear hcz71_0
           try clear hfz26_0
           try clear hfz26_1
           try clear hfz26_2
           try clear hfz26_3
           try clear hfz26_4
           try clear hfz26_5
           try clear hfz26_6
           try clear hfz31_0
           try clear hfz31_1
           try clear hfz31_2
           try clear hfz31_3
           try clear hfz31_4
           try clear hfz31_5
           try clear hfz31_6
           try clear hfz31_7
           try clear hfz32_0
           try clear hfz32_1
           try clear hfz32_2
           try clear hfz32_3
           try clear hfz32_4
           try clear hfz32_5
           try clear hfz32_6
           try clear hfz51_0
           try clear hfz51_1
           try clear hfz51_2
           try clear hfz51_3
           try clear hfz51_4
           try clear hfz51_5
           try clear hfz51_6
           try clear hfz53_0
           try clear hfz65_0
           try clear hfz65_1
           try clear hfz65_2
           try clear hfz65_3
           try clear hfz65_4
           try clear hfz65_5
           try clear hfz65_6
           try clear hfz71_0
           obtain ⟨kq, x113_47, rfl, HA, HJ47, HO_550000, HO_550001, HO_550006, HO_584000, HO_584001, HO_584006, BK549, BK550, BK563, BK583, BK584, HB⟩ := hcut
           cases kq with
           | zero => exact absurd HA.out (by simp [hinterlandlaw14_FleetWorthsFall.j3])
           | succ kj47 =>
            have H := HA.out
            clear HA
            simp only [hinterlandlaw14_FleetWorthsFall.j3] at H
            by_cases c107 : x113_47 = true
            ·subst c107
             have H1 : (some false) = some r := by rw [if_pos rfl] at H; exact H
             clear H
             have H := H1
             clear H1
             obtain rfl := Option.some.inj H
             go_wp2
             go_ret
             exact ⟨by first | rfl | (simp [errW_none, errW_some] <;> rfl) | (simp only [← hji44]; first | rfl | (simp [errW_none, errW_some] <;> rfl)) | (simp [*, errW_none, errW_some] <;> rfl), by repeat (first | (with_reducible first | exact HB.out | apply below_alloc | apply pw_below_drewN | apply below_drew1 | refine below_set ?_ GE549.out | refine below_set ?_ GE550.out | refine below_set ?_ GE563.out | refine below_set ?_ GE583.out | refine below_set ?_ GE584.out) | exact HB.out)⟩
            ·replace c107 := Bool.eq_false_iff.mpr c107
             subst c107
             have H1 : (hinterlandlaw14_FleetWorthsFall.l0 kj47 l0 t585 ji44 (wrap64 (x60_3 + 1)) t567 t570 t573 t574 t575 t576 t577 t581) = some r := by rw [if_neg (show ¬ (false = true) by decide)] at H; exact H
             clear H
             have H := H1
             clear H1
             have H' := Aside0.mk H
             clear H
             try go_wp2
             replace HO_550000 := Aside0.mk (Kd.V_drew HO_550000.out)
             replace HO_550001 := Aside0.mk (Kd.V_drew HO_550001.out)
             replace HO_550006 := Aside0.mk (Kd.V_drew HO_550006.out)
             replace HO_584000 := Aside0.mk (Kd.R_drew HO_584000.out)
             replace HO_584001 := Aside0.mk (Kd.R_drew HO_584001.out)
             replace HO_584006 := Aside0.mk (Kd.R_drew HO_584006.out)
             replace BK549 := Aside0.mk (blk_drew BK549.out)
             replace BK550 := Aside0.mk (blk_drew BK550.out)
             replace BK563 := Aside0.mk (blk_drew BK563.out)
             replace BK583 := Aside0.mk (blk_drew BK583.out)
             replace BK584 := Aside0.mk (blk_drew BK584.out)
             replace HB := Aside0.mk (below_drew1 HB.out)
             refine start_ (n := 6) (S := fun w' => w'.cell? ⟨gb583, 0, none⟩ = some (.slice Ao60 t567.length co60) ∧ w'.cell? ⟨gb583, 1, none⟩ = some (.slice Ao66 t570.length co66) ∧ w'.cell? ⟨gb583, 2, none⟩ = some (.int .i64 t573) ∧ w'.cell? ⟨gb583, 3, none⟩ = some (.int .i64 t574) ∧ w'.cell? ⟨gb583, 4, none⟩ = some (.int .i64 t575) ∧ w'.cell? ⟨gb583, 5, none⟩ = some (.int .i64 t576) ∧ w'.cell? ⟨gb583, 6, none⟩ = some (.slice Ao67 t577.length co67) ∧ w'.cell? ⟨gb584, 0, none⟩ = some (.int .u64 t581)) (ds := []) #[false, false, false, false, false, false] (by kernel_rfl) rfl rfl ⟨(blk_cell BK583.out 0).trans rfl, (blk_cell BK583.out 1).trans rfl, (blk_cell BK583.out 2).trans rfl, (blk_cell BK583.out 3).trans rfl, (blk_cell BK583.out 4).trans rfl, (blk_cell BK583.out 5).trans rfl, (blk_cell BK583.out 6).trans rfl, (blk_cell BK584.out 0).trans rfl⟩ (fun hHeld => ?_)
             generalize wc.drew = w108 at HO_550000 HO_550001 HO_550006 HO_584000 HO_584001 HO_584006 BK549 BK550 BK563 BK583 BK584 HB hHeld ⊢
             refine pure_ (i := 2) (N := some 116) (v := ?_) (a' := ?_) #[false, false, true, false, false, false] rfl rfl (by kernel_rfl) (fun _ _ _ h => h) (Or.inl ⟨by rfl, ?_⟩) ?_ ?_
             rotate_left
             ·intro w'
              go_simp
              with_reducible rfl
             rotate_left
             ·simp only [Act.put, sI_, s0_, sS_, i64_w, i32_w]
              rfl
             refine take_ (i := 0) (N := some 114) (v := ?_) (a' := ?_) #[true, false, true, false, false, false] rfl rfl (by kernel_rfl) (fun _ _ _ h => h) (Or.inl ⟨by rfl, ?_⟩) hHeld ?_ ?_
             rotate_left
             ·rintro w' ⟨s0, s1, s2, s3, s4, s5, s6, s7⟩
              go_simp
              with_reducible rfl
             rotate_left
             ·simp only [Act.put, sI_, s0_, sS_, i64_w, i32_w]
              rfl
             refine take_ (i := 1) (N := some 115) (v := ?_) (a' := ?_) #[true, true, true, false, false, false] rfl rfl (by kernel_rfl) (fun _ _ _ h => h) (Or.inl ⟨by rfl, ?_⟩) hHeld ?_ ?_
             rotate_left
             ·rintro w' ⟨s0, s1, s2, s3, s4, s5, s6, s7⟩
              go_simp
              with_reducible rfl
             rotate_left
             ·simp only [Act.put, sI_, s0_, sS_, i64_w, i32_w]
              rfl
             refine one_ (i := 3) (N := none) #[true, true, true, true, false, false] rfl rfl (by kernel_rfl) (by decide) (fun K hK => ?_)
             have hs109 : w108.cell? ⟨gb549, 0, none⟩ = some (.slice Ao54 x550000_3.length co54) := (blk_cell BK549.out 0).trans rfl
             have hfs109 := blk_frozen BK549.out 0
             have hns109_1 := NB550_549.out
             have hns109_2 := NB563_549.out
             have hns109_3 := NB583_549.out
             have hns109_4 := NB584_549.out
             have hms109_1 := NB549_550.out
             have hms109_2 := NB549_563.out
             have hms109_3 := NB549_583.out
             have hms109_4 := NB549_584.out
             have hs110 : w108.cell? ⟨gb549, 1, none⟩ = some (.slice Ao55 x550001_3.length co55) := (blk_cell BK549.out 1).trans rfl
             have hfs110 := blk_frozen BK549.out 1
             have hns110_1 := NB550_549.out
             have hns110_2 := NB563_549.out
             have hns110_3 := NB583_549.out
             have hns110_4 := NB584_549.out
             have hms110_1 := NB549_550.out
             have hms110_2 := NB549_563.out
             have hms110_3 := NB549_583.out
             have hms110_4 := NB549_584.out
             have hs111 : w108.cell? ⟨gb549, 2, none⟩ = some (.int .i64 x550002_3) := (blk_cell BK549.out 2).trans rfl
             have hfs111 := blk_frozen BK549.out 2
             have hns111_1 := NB550_549.out
             have hns111_2 := NB563_549.out
             have hns111_3 := NB583_549.out
             have hns111_4 := NB584_549.out
             have hms111_1 := NB549_550.out
             have hms111_2 := NB549_563.out
             have hms111_3 := NB549_583.out
             have hms111_4 := NB549_584.out
             have hs112 : w108.cell? ⟨gb549, 3, none⟩ = some (.int .i64 x550003_3) := (blk_cell BK549.out 3).trans rfl
             have hfs112 := blk_frozen BK549.out 3
             have hns112_1 := NB550_549.out
             have hns112_2 := NB563_549.out
             have hns112_3 := NB583_549.out
             have hns112_4 := NB584_549.out
             have hms112_1 := NB549_550.out
             have hms112_2 := NB549_563.out
             have hms112_3 := NB549_583.out
             have hms112_4 := NB549_584.out
             have hs113 : w108.cell? ⟨gb549, 4, none⟩ = some (.int .i64 x550004_3) := (blk_cell BK549.out 4).trans rfl
             have hfs113 := blk_frozen BK549.out 4
             have hns113_1 := NB550_549.out
             have hns113_2 := NB563_549.out
             have hns113_3 := NB583_549.out
             have hns113_4 := NB584_549.out
             have hms113_1 := NB549_550.out
             have hms113_2 := NB549_563.out
             have hms113_3 := NB549_583.out
             have hms113_4 := NB549_584.out
             have hs114 : w108.cell? ⟨gb549, 5, none⟩ = some (.int .i64 x550005_3) := (blk_cell BK549.out 5).trans rfl
             have hfs114 := blk_frozen BK549.out 5
             have hns114_1 := NB550_549.out
             have hns114_2 := NB563_549.out
             have hns114_3 := NB583_549.out
             have hns114_4 := NB584_549.out
             have hms114_1 := NB549_550.out
             have hms114_2 := NB549_563.out
             have hms114_3 := NB549_583.out
             have hms114_4 := NB549_584.out
             have hs115 : w108.cell? ⟨gb549, 6, none⟩ = some (.slice Ao56 x550006_3.length co56) := (blk_cell BK549.out 6).trans rfl
             have hfs115 := blk_frozen BK549.out 6
             have hns115_1 := NB550_549.out
             have hns115_2 := NB563_549.out
             have hns115_3 := NB583_549.out
             have hns115_4 := NB584_549.out
             have hms115_1 := NB549_550.out
             have hms115_2 := NB549_563.out
             have hms115_3 := NB549_583.out
             have hms115_4 := NB549_584.out
             refine skip_ (w1 := ?_) (by rfl) rfl ?_ ?_
             rotate_left
             ·go_simp
              rfl
             refine hK.out _ _ ⟨((cell_far (p := ⟨gb549, _, none⟩) NB583_549.out _).trans (((cell_far (p := ⟨gb549, _, none⟩) NB583_549.out _).trans (((cell_far (p := ⟨gb549, _, none⟩) NB583_549.out _).trans (((cell_far (p := ⟨gb549, _, none⟩) NB583_549.out _).trans (((cell_far (p := ⟨gb549, _, none⟩) NB583_549.out _).trans (((cell_far (p := ⟨gb549, _, none⟩) NB583_549.out _).trans (((cell_far (p := ⟨gb549, _, none⟩) NB583_549.out _).trans (hHeld.1)))))))))))))), ((cell_far (p := ⟨gb549, _, none⟩) NB583_549.out _).trans (((cell_far (p := ⟨gb549, _, none⟩) NB583_549.out _).trans (((cell_far (p := ⟨gb549, _, none⟩) NB583_549.out _).trans (((cell_far (p := ⟨gb549, _, none⟩) NB583_549.out _).trans (((cell_far (p := ⟨gb549, _, none⟩) NB583_549.out _).trans (((cell_far (p := ⟨gb549, _, none⟩) NB583_549.out _).trans (((cell_far (p := ⟨gb549, _, none⟩) NB583_549.out _).trans (hHeld.2.1)))))))))))))), ((cell_far (p := ⟨gb549, _, none⟩) NB583_549.out _).trans (((cell_far (p := ⟨gb549, _, none⟩) NB583_549.out _).trans (((cell_far (p := ⟨gb549, _, none⟩) NB583_549.out _).trans (((cell_far (p := ⟨gb549, _, none⟩) NB583_549.out _).trans (((cell_far (p := ⟨gb549, _, none⟩) NB583_549.out _).trans (((cell_far (p := ⟨gb549, _, none⟩) NB583_549.out _).trans (((cell_far (p := ⟨gb549, _, none⟩) NB583_549.out _).trans (hHeld.2.2.1)))))))))))))), ((cell_far (p := ⟨gb549, _, none⟩) NB583_549.out _).trans (((cell_far (p := ⟨gb549, _, none⟩) NB583_549.out _).trans (((cell_far (p := ⟨gb549, _, none⟩) NB583_549.out _).trans (((cell_far (p := ⟨gb549, _, none⟩) NB583_549.out _).trans (((cell_far (p := ⟨gb549, _, none⟩) NB583_549.out _).trans (((cell_far (p := ⟨gb549, _, none⟩) NB583_549.out _).trans (((cell_far (p := ⟨gb549, _, none⟩) NB583_549.out _).trans (hHeld.2.2.2.1)))))))))))))), ((cell_far (p := ⟨gb549, _, none⟩) NB583_549.out _).trans (((cell_far (p := ⟨gb549, _, none⟩) NB583_549.out _).trans (((cell_far (p := ⟨gb549, _, none⟩) NB583_549.out _).trans (((cell_far (p := ⟨gb549, _, none⟩) NB583_549.out _).trans (((cell_far (p := ⟨gb549, _, none⟩) NB583_549.out _).trans (((cell_far (p := ⟨gb549, _, none⟩) NB583_549.out _).trans (((cell_far (p := ⟨gb549, _, none⟩) NB583_549.out _).trans (hHeld.2.2.2.2.1)))))))))))))), ((cell_far (p := ⟨gb549, _, none⟩) NB583_549.out _).trans (((cell_far (p := ⟨gb549, _, none⟩) NB583_549.out _).trans (((cell_far (p := ⟨gb549, _, none⟩) NB583_549.out _).trans (((cell_far (p := ⟨gb549, _, none⟩) NB583_549.out _).trans (((cell_far (p := ⟨gb549, _, none⟩) NB583_549.out _).trans (((cell_far (p := ⟨gb549, _, none⟩) NB583_549.out _).trans (((cell_far (p := ⟨gb549, _, none⟩) NB583_549.out _).trans (hHeld.2.2.2.2.2.1)))))))))))))), ((cell_far (p := ⟨gb549, _, none⟩) NB583_549.out _).trans (((cell_far (p := ⟨gb549, _, none⟩) NB583_549.out _).trans (((cell_far (p := ⟨gb549, _, none⟩) NB583_549.out _).trans (((cell_far (p := ⟨gb549, _, none⟩) NB583_549.out _).trans (((cell_far (p := ⟨gb549, _, none⟩) NB583_549.out _).trans (((cell_far (p := ⟨gb549, _, none⟩) NB583_549.out _).trans (((cell_far (p := ⟨gb549, _, none⟩) NB583_549.out _).trans (hHeld.2.2.2.2.2.2.1)))))))))))))), ((cell_far (p := ⟨gb549, _, none⟩) NB584_549.out _).trans (((cell_far (p := ⟨gb549, _, none⟩) NB584_549.out _).trans (((cell_far (p := ⟨gb549, _, none⟩) NB584_549.out _).trans (((cell_far (p := ⟨gb549, _, none⟩) NB584_549.out _).trans (((cell_far (p := ⟨gb549, _, none⟩) NB584_549.out _).trans (((cell_far (p := ⟨gb549, _, none⟩) NB584_549.out _).trans (((cell_far (p := ⟨gb549, _, none⟩) NB584_549.out _).trans (hHeld.2.2.2.2.2.2.2))))))))))))))⟩ (fun hHeld => ?_)
             clear hK K
             refine one_ (i := 4) (N := none) #[true, true, true, true, true, false] rfl rfl (by kernel_rfl) (by decide) (fun K hK => ?_)
             have hs116 : w108.cell? ⟨gb550, 0, none⟩ = some (.int .u64 x551000_3) := (blk_cell BK550.out 0).trans rfl
             have hfs116 := blk_frozen BK550.out 0
             have hns116_0 := NB549_550.out
             have hns116_2 := NB563_550.out
             have hns116_3 := NB583_550.out
             have hns116_4 := NB584_550.out
             have hms116_0 := NB550_549.out
             have hms116_2 := NB550_563.out
             have hms116_3 := NB550_583.out
             have hms116_4 := NB550_584.out
             refine skip_ (w1 := ?_) ?hw ?hN ?_ ?_
             case hw => rfl
             case hN => rfl
             rotate_left
             ·go_simp
              rfl
             refine hK.out _ _ ⟨((cell_far (p := ⟨gb550, _, none⟩) NB583_550.out _).trans (hHeld.1)), ((cell_far (p := ⟨gb550, _, none⟩) NB583_550.out _).trans (hHeld.2.1)), ((cell_far (p := ⟨gb550, _, none⟩) NB583_550.out _).trans (hHeld.2.2.1)), ((cell_far (p := ⟨gb550, _, none⟩) NB583_550.out _).trans (hHeld.2.2.2.1)), ((cell_far (p := ⟨gb550, _, none⟩) NB583_550.out _).trans (hHeld.2.2.2.2.1)), ((cell_far (p := ⟨gb550, _, none⟩) NB583_550.out _).trans (hHeld.2.2.2.2.2.1)), ((cell_far (p := ⟨gb550, _, none⟩) NB583_550.out _).trans (hHeld.2.2.2.2.2.2.1)), ((cell_far (p := ⟨gb550, _, none⟩) NB584_550.out _).trans (hHeld.2.2.2.2.2.2.2))⟩ (fun hHeld => ?_)
             clear hK K
             refine pure_ (i := 5) (N := some 11) (v := ?_) (a' := ?_) #[true, true, true, true, true, true] rfl rfl (by kernel_rfl) (fun _ _ _ h => h) (Or.inl ⟨by rfl, ?_⟩) ?_ ?_
             rotate_left
             ·intro w'
              go_simp
              with_reducible rfl
             rotate_left
             ·simp only [Act.put, sI_, s0_, sS_, i64_w, i32_w]
              rfl
             refine done_ (by kernel_rfl) ?_
             try go_wp2
             go_roundg kj47
             case measure => have := HJ4.out; have := HJ23.out; have := HK3.out; have := HJ47.out; omega
             case rel => exact ⟨(t585), (wrap64 (x60_3 + 1)), (t567), (t570), (t573), (t574), (t575), (t576), (t577), (t581), (.slice Ao60 t567.length co60), (.slice Ao66 t570.length co66), (.slice Ao67 t577.length co67), tS_, tS_, H', ⟨by have := HJ4.out; have := HJ23.out; have := HK3.out; have := HJ47.out; omega⟩, ⟨Kd.V_mono (Kd.R_V (show (Kd.int .i64).R 3 _ w.heap.size (fun k_ => w.heap.size ≤ k_ ∧ k_ ≠ gb549 ∧ k_ ≠ gb550 ∧ k_ ≠ gb563) (.slice Ao60 t567.length co60) t567 from Kd.R_mono (Kd.R_far (p := ⟨gb550, 0, none⟩) (far7_ (Kd.R_types (Kd.R_types (Kd.R_types (Kd.R_types (Kd.R_types HO_584000.out BK549.out (by decide)) BK550.out (by decide)) BK563.out (by decide)) BK549.out (by decide)) BK550.out (by decide)) gb549 (fun _ hk => hk.1.2) (.slice Ao60 t567.length co60) (.slice Ao66 t570.length co66) (.int .i64 t573) (.int .i64 t574) (.int .i64 t575) (.int .i64 t576) (.slice Ao67 t577.length co67)) (fun _ hk => hk.2) (.int .u64 t581)) (fun _ hk => ⟨hk.1.1.1.1.1.1, ⟨hk.1.1.1.1.2, ⟨hk.1.1.1.2, hk.1.1.2⟩⟩⟩))) (fun k_ hk => ⟨.inr hk.1, hk.2⟩)⟩, ⟨Kd.V_mono (Kd.R_V (show (Kd.int .i64).R 3 _ w.heap.size (fun k_ => w.heap.size ≤ k_ ∧ k_ ≠ gb549 ∧ k_ ≠ gb550 ∧ k_ ≠ gb563) (.slice Ao66 t570.length co66) t570 from Kd.R_mono (Kd.R_far (p := ⟨gb550, 0, none⟩) (far7_ (Kd.R_types (Kd.R_types (Kd.R_types (Kd.R_types (Kd.R_types HO_584001.out BK549.out (by decide)) BK550.out (by decide)) BK563.out (by decide)) BK549.out (by decide)) BK550.out (by decide)) gb549 (fun _ hk => hk.1.2) (.slice Ao60 t567.length co60) (.slice Ao66 t570.length co66) (.int .i64 t573) (.int .i64 t574) (.int .i64 t575) (.int .i64 t576) (.slice Ao67 t577.length co67)) (fun _ hk => hk.2) (.int .u64 t581)) (fun _ hk => ⟨hk.1.1.1.1.1.1, ⟨hk.1.1.1.1.2, ⟨hk.1.1.1.2, hk.1.1.2⟩⟩⟩))) (fun k_ hk => ⟨.inr hk.1, hk.2⟩)⟩, ⟨Kd.V_mono (Kd.R_V (show k49.R 49 _ w.heap.size (fun k_ => w.heap.size ≤ k_ ∧ k_ ≠ gb549 ∧ k_ ≠ gb550 ∧ k_ ≠ gb563) (.slice Ao67 t577.length co67) t577 from Kd.R_mono (Kd.R_far (p := ⟨gb550, 0, none⟩) (far7_ (Kd.R_types (Kd.R_types (Kd.R_types (Kd.R_types (Kd.R_types HO_584006.out BK549.out (by decide)) BK550.out (by decide)) BK563.out (by decide)) BK549.out (by decide)) BK550.out (by decide)) gb549 (fun _ hk => hk.1.2) (.slice Ao60 t567.length co60) (.slice Ao66 t570.length co66) (.int .i64 t573) (.int .i64 t574) (.int .i64 t575) (.int .i64 t576) (.slice Ao67 t577.length co67)) (fun _ hk => hk.2) (.int .u64 t581)) (fun _ hk => ⟨hk.1.1.1.1.1, ⟨hk.1.1.1.1.2, ⟨hk.1.1.1.2, hk.1.1.2⟩⟩⟩))) (fun k_ hk => ⟨.inr hk.1, hk.2⟩)⟩, ⟨by (with_reducible repeat (first | refine blk_drewN ?_ _ | refine blk_drew ?_ | refine blk_alloc ?_ _)); refine blk_far ?_ NB549_550.out _; (with_reducible repeat (first | refine blk_drewN ?_ _ | refine blk_drew ?_ | refine blk_alloc ?_ _)); refine blk_put (cs := #[.slice Ao60 t567.length co60, .slice Ao66 t570.length co66, .int .i64 t573, .int .i64 t574, .int .i64 t575, .int .i64 t576, .slice Ao56 x550006_3.length co56]) ?_ 6 _ rfl; (with_reducible repeat (first | refine blk_drewN ?_ _ | refine blk_drew ?_ | refine blk_alloc ?_ _)); refine blk_put (cs := #[.slice Ao60 t567.length co60, .slice Ao66 t570.length co66, .int .i64 t573, .int .i64 t574, .int .i64 t575, .int .i64 x550005_3, .slice Ao56 x550006_3.length co56]) ?_ 5 _ rfl; (with_reducible repeat (first | refine blk_drewN ?_ _ | refine blk_drew ?_ | refine blk_alloc ?_ _)); refine blk_put (cs := #[.slice Ao60 t567.length co60, .slice Ao66 t570.length co66, .int .i64 t573, .int .i64 t574, .int .i64 x550004_3, .int .i64 x550005_3, .slice Ao56 x550006_3.length co56]) ?_ 4 _ rfl; (with_reducible repeat (first | refine blk_drewN ?_ _ | refine blk_drew ?_ | refine blk_alloc ?_ _)); refine blk_put (cs := #[.slice Ao60 t567.length co60, .slice Ao66 t570.length co66, .int .i64 t573, .int .i64 x550003_3, .int .i64 x550004_3, .int .i64 x550005_3, .slice Ao56 x550006_3.length co56]) ?_ 3 _ rfl; (with_reducible repeat (first | refine blk_drewN ?_ _ | refine blk_drew ?_ | refine blk_alloc ?_ _)); refine blk_put (cs := #[.slice Ao60 t567.length co60, .slice Ao66 t570.length co66, .int .i64 x550002_3, .int .i64 x550003_3, .int .i64 x550004_3, .int .i64 x550005_3, .slice Ao56 x550006_3.length co56]) ?_ 2 _ rfl; (with_reducible repeat (first | refine blk_drewN ?_ _ | refine blk_drew ?_ | refine blk_alloc ?_ _)); refine blk_put (cs := #[.slice Ao60 t567.length co60, .slice Ao55 x550001_3.length co55, .int .i64 x550002_3, .int .i64 x550003_3, .int .i64 x550004_3, .int .i64 x550005_3, .slice Ao56 x550006_3.length co56]) ?_ 1 _ rfl; (with_reducible repeat (first | refine blk_drewN ?_ _ | refine blk_drew ?_ | refine blk_alloc ?_ _)); refine blk_put (cs := #[.slice Ao54 x550000_3.length co54, .slice Ao55 x550001_3.length co55, .int .i64 x550002_3, .int .i64 x550003_3, .int .i64 x550004_3, .int .i64 x550005_3, .slice Ao56 x550006_3.length co56]) ?_ 0 _ rfl; (with_reducible repeat (first | refine blk_drewN ?_ _ | refine blk_drew ?_ | refine blk_alloc ?_ _)); exact BK549.out⟩, ⟨by (with_reducible repeat (first | refine blk_drewN ?_ _ | refine blk_drew ?_ | refine blk_alloc ?_ _)); refine blk_put (cs := #[.int .u64 x551000_3]) ?_ 0 _ rfl; (with_reducible repeat (first | refine blk_drewN ?_ _ | refine blk_drew ?_ | refine blk_alloc ?_ _)); refine blk_far ?_ NB550_549.out _; (with_reducible repeat (first | refine blk_drewN ?_ _ | refine blk_drew ?_ | refine blk_alloc ?_ _)); refine blk_far ?_ NB550_549.out _; (with_reducible repeat (first | refine blk_drewN ?_ _ | refine blk_drew ?_ | refine blk_alloc ?_ _)); refine blk_far ?_ NB550_549.out _; (with_reducible repeat (first | refine blk_drewN ?_ _ | refine blk_drew ?_ | refine blk_alloc ?_ _)); refine blk_far ?_ NB550_549.out _; (with_reducible repeat (first | refine blk_drewN ?_ _ | refine blk_drew ?_ | refine blk_alloc ?_ _)); refine blk_far ?_ NB550_549.out _; (with_reducible repeat (first | refine blk_drewN ?_ _ | refine blk_drew ?_ | refine blk_alloc ?_ _)); refine blk_far ?_ NB550_549.out _; (with_reducible repeat (first | refine blk_drewN ?_ _ | refine blk_drew ?_ | refine blk_alloc ?_ _)); refine blk_far ?_ NB550_549.out _; (with_reducible repeat (first | refine blk_drewN ?_ _ | refine blk_drew ?_ | refine blk_alloc ?_ _)); exact BK550.out⟩, ⟨by (with_reducible repeat (first | refine blk_drewN ?_ _ | refine blk_drew ?_ | refine blk_alloc ?_ _)); refine blk_far ?_ NB563_550.out _; (with_reducible repeat (first | refine blk_drewN ?_ _ | refine blk_drew ?_ | refine blk_alloc ?_ _)); refine blk_far ?_ NB563_549.out _; (with_reducible repeat (first | refine blk_drewN ?_ _ | refine blk_drew ?_ | refine blk_alloc ?_ _)); refine blk_far ?_ NB563_549.out _; (with_reducible repeat (first | refine blk_drewN ?_ _ | refine blk_drew ?_ | refine blk_alloc ?_ _)); refine blk_far ?_ NB563_549.out _; (with_reducible repeat (first | refine blk_drewN ?_ _ | refine blk_drew ?_ | refine blk_alloc ?_ _)); refine blk_far ?_ NB563_549.out _; (with_reducible repeat (first | refine blk_drewN ?_ _ | refine blk_drew ?_ | refine blk_alloc ?_ _)); refine blk_far ?_ NB563_549.out _; (with_reducible repeat (first | refine blk_drewN ?_ _ | refine blk_drew ?_ | refine blk_alloc ?_ _)); refine blk_far ?_ NB563_549.out _; (with_reducible repeat (first | refine blk_drewN ?_ _ | refine blk_drew ?_ | refine blk_alloc ?_ _)); refine blk_far ?_ NB563_549.out _; (with_reducible repeat (first | refine blk_drewN ?_ _ | refine blk_drew ?_ | refine blk_alloc ?_ _)); exact BK563.out⟩, ⟨by repeat (first | (with_reducible first | exact HB.out | apply below_alloc | apply pw_below_drewN | apply below_drew1 | refine below_set ?_ GE549.out | refine below_set ?_ GE550.out | refine below_set ?_ GE563.out | refine below_set ?_ GE583.out | refine below_set ?_ GE584.out) | exact HB.out)⟩⟩
         ·rw [if_neg c45] at H
          have c45b0 : decide (x60_3 < ji44) = false := decide_eq_false c45
          clear c45
          replace H := Option.bind_eq_some_iff.mp H
          obtain ⟨t566, A1170, H⟩ := H
          replace H : (some t566) = some r := H
          have A117 := Aside0.mk A1170
          clear A1170
          obtain rfl := Option.some.inj H
          go_wp2_with (first | ((with_reducible refine gate_callee (f := 7) rfl ?_); refine goesL_ (some 118) rfl rfl Try.func7 (by kernel_rfl) rfl #[] rfl tA_ ?_; (with_reducible refine (hinterlandlaw14_known.calls k3  t566 _ A117.out).mono ?_); rintro e w118 ⟨rfl, hb⟩; refine ⟨_, rfl, ?_⟩; replace HO_550000 := Aside0.mk (Kd.V_below (by (with_reducible repeat (first | apply Kd.V_alloc | apply Kd.V_drewN | apply Kd.V_drew)); exact HO_550000.out) hb); replace HO_550001 := Aside0.mk (Kd.V_below (by (with_reducible repeat (first | apply Kd.V_alloc | apply Kd.V_drewN | apply Kd.V_drew)); exact HO_550001.out) hb); replace HO_550006 := Aside0.mk (Kd.V_below (by (with_reducible repeat (first | apply Kd.V_alloc | apply Kd.V_drewN | apply Kd.V_drew)); exact HO_550006.out) hb); replace BK549 := Aside0.mk (blk_below (g := gb549) (o := .cells #[u550000, u550001, .int .i64 x550002_3, .int .i64 x550003_3, .int .i64 x550004_3, .int .i64 x550005_3, u550006] 26 (0, 0)) (dB_ BK549) hb); replace BK550 := Aside0.mk (blk_below (g := gb550) (o := .cells #[.int .u64 x551000_3] 37 (0, 0)) (dB_ BK550) hb); replace BK563 := Aside0.mk (blk_below (g := gb563) (o := .cells #[.int .i64 t554, .int .i64 t555, .int .i64 t556, .int .i64 t557, .int .i64 t558, .int .i64 t559, .int .i64 t560, .bool t561] 42 (0, 0)) (dB_ BK563) hb); replace HB := Aside0.mk (below_step (dL3_ HB GE549 GE550 GE563) hb)))
          go_ret
          exact ⟨by first | rfl | (simp [errW_none, errW_some] <;> rfl) | (simp only [← hji44]; first | rfl | (simp [errW_none, errW_some] <;> rfl)) | (simp [*, errW_none, errW_some] <;> rfl), dL3_ HB GE549 GE550 GE563⟩

/-- THE ONE PURE STATEMENT of hinterlandlaw14_FleetWorthsFall. -/
def hinterlandlaw14_FleetWorthsFall.Pure : Prop := ∀ (l0 : List (S52)) (l1_0 : List Int) (l1_1 : List Int) (a1_2 : Int) (a1_3 : Int) (a1_4 : Int) (a1_5 : Int) (l1_6 : List (S49)) (a2_0 : Int) (a3 : Int), (wRow wT52) l0 → (wRow (wInt .i64)) l1_0 → (wRow (wInt .i64)) l1_1 → (wInt .i64) a1_2 → (wInt .i64) a1_3 → (wInt .i64) a1_4 → (wInt .i64) a1_5 → (wRow wT49) l1_6 → (wInt .u64) a2_0 → (wInt .i64) a3 → ∃ k, hinterlandlaw14_FleetWorthsFall.f k l0 l1_0 l1_1 a1_2 a1_3 a1_4 a1_5 l1_6 a2_0 a3 = some true

end Go.Proofs.Ytgnahbjpockdmab.Q

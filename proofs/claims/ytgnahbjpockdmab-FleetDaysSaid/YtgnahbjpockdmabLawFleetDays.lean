/- The row of the law hinterlandlaw14_FleetDays: its arguments opened, its pure statement (proved in the seat's Pure text), its printed contract. -/
import Derived.Test.YtgnahbjpockdmabRows
import Derived.Test.YtgnahbjpockdmabQ51
import Derived.Test.YtgnahbjpockdmabPureFleetDays
import Derived.Test.YtgnahbjpockdmabOpen
import Derived.Test.YtgnahbjpockdmabShr
import Derived.WalkKit
import Derived.ProofKit
import Derived.OpenShut
import Derived.ShutString
import Derived.ChangeOld
import Derived.Below
import Derived.SizedLaws
import Derived.Carry
namespace Go.Proofs.Ytgnahbjpockdmab.fleetDays
open Go.ChangeShapes Go.WideShapes Go.ChangeAt Go.RowKit Go.Proofs.YtgnahbjpockdmabOwn Go.Proofs.Ytgnahbjpockdmab.Q Go.Proofs.YtgnahbjpockdmabW.PrintWords Go.Proofs.YtgnahbjpockdmabW.PrintLast
open Go.ChangeMaps (open_string shut_string)
set_option linter.unusedVariables false
theorem own : ownKnob Try.prog.godebug = none := by kernel_rfl
theorem laidOut : laidOutB Try.prog = true := by kernel_rfl
set_option maxRecDepth 100000 in
theorem lifted (os : Os) (started : os.Started) (H : Type) (enc : TypeId × Value → H) :
    ReturnsInHanded {} Try.checked os 4 .any (Rows.fleetDaysSpec.pre6 enc Try.prog Try.f4 Rows.fleetDaysRow.domain false) (Rows.fleetDaysSpec.post enc Try.prog Try.f4 false true false false) := by
  refine returnsInHanded_of_change_sized (C := Try.checked) own started (by kernel_rfl) Try.func4
    (ChangeSpec.witness6 (enc := enc) (C := Try.checked) false ⟨#[], #[.slice none 0 0, .agg #[.slice none 0 0, .slice none 0 0, .int .i64 0, .int .i64 0, .int .i64 0, .int .i64 0, .slice none 0 0], .agg #[.int .u64 0]], []⟩ 8 (by kernel_rfl) (by kernel_rfl) (by kernel_rfl) (by kernel_rfl)) ?_
  intro W base args ds gs before hval0 hW hcnd hsz0 _
  have hval : ∀ (j : Nat) t v, Try.f4.params[j]? = some t → args[j]? = some v → Value.okWide Try.prog W .any base t v := hval0
  have hW' := hW
  obtain ⟨p, q, hA0, hV, rfl, hfz, hnd⟩ := hW
  have hA : DataW.TrodAll enc Try.prog W 0 (fun _ => true) true Try.f4.params.toList args.toList ds p := hA0
  rw [Try.params4] at hA hval
  obtain ⟨v0, vs0, d0, ds0, p0, q0, hargs, rfl, rfl, h0, r0⟩ := trodAll_cons hA
  obtain ⟨v1, vs1, d1, ds1, p1, q1, rfl, rfl, rfl, h1, r1⟩ := trodAll_cons r0
  obtain ⟨v2, vs2, d2, ds2, p2, q2, rfl, rfl, rfl, h2, r2⟩ := trodAll_cons r1
  obtain ⟨rfl, rfl, rfl⟩ := trodAll_nil r2
  obtain rfl : args = #[v0, v1, v2] := by cases args; simp_all
  obtain ⟨rfl, rfl⟩ := trodVars_none hV
  have k0 := h0
  have lt0 : ∀ x ∈ p0, x.block < W.heap.size := by obtain ⟨m, hm⟩ := k0; exact DataW.trod_lt m _ _ _ hm
  obtain ⟨m0, hm0⟩ := h0
  obtain ⟨y0, K0, w0⟩ := (opens_slice Try.underlying22 (by kernel_rfl) opens_T52) hm0
  obtain ⟨a0, len0, cap0, rfl⟩ := okWide_slice Try.underlying22 (hval 0 22 v0 rfl rfl)
  obtain ⟨A0, c0, e0, hc0, hr0⟩ := K0
  simp only [Value.cells, List.cons.injEq, Value.slice.injEq, and_true] at e0
  obtain ⟨rfl, rfl, rfl⟩ := e0
  have k1 := h1
  have lt1 : ∀ x ∈ p1, x.block < W.heap.size := by obtain ⟨m, hm⟩ := k1; exact DataW.trod_lt m _ _ _ hm
  obtain ⟨m1, hm1⟩ := h1
  obtain ⟨y1, K1, w1⟩ := opens_T26 hm1
  obtain ⟨cs1, rfl, _⟩ := okWide_struct Try.underlying26 (hval 1 26 v1 rfl rfl)
  obtain ⟨A1_0, c1_0, A1_1, c1_1, A1_6, c1_6, e1, hc1_0, hr1_0, hc1_1, hr1_1, hc1_6, hr1_6⟩ := k26_open K1
  obtain rfl : cs1 = #[.slice A1_0 y1.f0.length c1_0, .slice A1_1 y1.f1.length c1_1, .int .i64 y1.f2, .int .i64 y1.f3, .int .i64 y1.f4, .int .i64 y1.f5, .slice A1_6 y1.f6.length c1_6] := Array.toList_inj.1 e1
  have w1_ : (wRow (wInt .i64)) y1.f0 ∧ (wRow (wInt .i64)) y1.f1 ∧ (wInt .i64) y1.f2 ∧ (wInt .i64) y1.f3 ∧ (wInt .i64) y1.f4 ∧ (wInt .i64) y1.f5 ∧ (wRow wT49) y1.f6 := w1
  obtain ⟨w1_0, w1_1, w1_2, w1_3, w1_4, w1_5, w1_6⟩ := w1_
  have k2 := h2
  have lt2 : ∀ x ∈ p2, x.block < W.heap.size := by obtain ⟨m, hm⟩ := k2; exact DataW.trod_lt m _ _ _ hm
  obtain ⟨m2, hm2⟩ := h2
  obtain ⟨y2, K2, w2⟩ := opens_T37 hm2
  obtain ⟨cs2, rfl, _⟩ := okWide_struct Try.underlying37 (hval 2 37 v2 rfl rfl)
  obtain e2 := k37_open K2
  obtain rfl : cs2 = #[.int .u64 y2.f0] := Array.toList_inj.1 e2
  have w2_0 : (wInt .u64) y2.f0 := w2
  clear hA0 hval0 hsz0
  obtain ⟨k, hP⟩ := Pure.FleetDays y0 y1.f0 y1.f1 y1.f2 y1.f3 y1.f4 y1.f5 y1.f6 y2.f0 w0 w1_0 w1_1 w1_2 w1_3 w1_4 w1_5 w1_6 w2_0
  refine (hinterlandlaw14_FleetDays.calls k a0 cap0 y0 A1_0 c1_0 y1.f0 A1_1 c1_1 y1.f1 y1.f2 y1.f3 y1.f4 y1.f5 A1_6 c1_6 y1.f6 y2.f0 true W hr0 hc0 hr1_0 hc1_0 hr1_1 hc1_1 hr1_6 hc1_6 hP).mono fun e W' ⟨he, bel0⟩ => ?_
  have bel : Below W.heap.size W W' := bel0
  subst he
  exact ⟨_, rfl, _, _, _, [], _, [], hW', trodAll_mk1 (shut_bool Try.underlying4 _), (trodAll_cons_mk (Below.trod laidOut (by kernel_rfl) (of_decide_eq_true (by kernel_rfl)) k0 bel lt0) (trodAll_cons_mk (Below.trod laidOut (by kernel_rfl) (of_decide_eq_true (by kernel_rfl)) k1 bel lt1) (trodAll_cons_mk (Below.trod laidOut (by kernel_rfl) (of_decide_eq_true (by kernel_rfl)) k2 bel lt2) trodAll_mk0))), rfl, bel.frame _, fun h => by cases h⟩
theorem over : Rows.fleetDaysRow.holds Try.pinned (OpenSpec.ofChange Rows.fleetDaysSpec) :=
  OpenClaim.holds_of_wide 4 Try.f4 rfl rfl rfl rfl rfl rfl rfl ⟨rfl, rfl, rfl, rfl, rfl⟩ rfl rfl rfl rfl rfl (by kernel_rfl) Try.func4 (by kernel_rfl)
    (of_decide_eq_true (by kernel_rfl)) (by unfold Func.isWrapper; first | (rw [if_pos (by decide +kernel)]; kernel_rfl) | (rw [if_neg (by decide +kernel)]; exact ⟨rfl, rfl⟩))
    (fun os started H enc _ => lifted os started H enc)
theorem proved : Rows.FleetDaysSaid := over
#print axioms proved
end Go.Proofs.Ytgnahbjpockdmab.fleetDays
namespace Go.Proofs.Ytgnahbjpockdmab
/-- The row, under a short name, for the claim. -/
theorem fleetDays_holds : Rows.FleetDaysSaid := fleetDays.proved
end Go.Proofs.Ytgnahbjpockdmab

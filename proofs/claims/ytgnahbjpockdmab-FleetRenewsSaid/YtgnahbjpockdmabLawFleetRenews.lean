/- The row of the law hinterlandlaw14_FleetRenews: its arguments opened, its pure statement (proved in the seat's Pure text), its printed contract. -/
import Derived.Test.YtgnahbjpockdmabRows
import Derived.Test.YtgnahbjpockdmabQ38
import Derived.Test.YtgnahbjpockdmabPureFleetRenews
import Derived.Test.YtgnahbjpockdmabOpen
import Derived.Test.YtgnahbjpockdmabShr
import Derived.WalkKit
import Derived.ProofKit
import Derived.OpenShut
import Derived.ShutString
import Derived.ChangeOld
import Derived.Below
import Derived.SizedLaws
import Derived.Carry
namespace Go.Proofs.Ytgnahbjpockdmab.fleetRenews
open Go.ChangeShapes Go.WideShapes Go.ChangeAt Go.RowKit Go.Proofs.YtgnahbjpockdmabOwn Go.Proofs.Ytgnahbjpockdmab.Q Go.Proofs.YtgnahbjpockdmabW.PrintWords Go.Proofs.YtgnahbjpockdmabW.PrintLast
open Go.ChangeMaps (open_string shut_string)
set_option linter.unusedVariables false
theorem own : ownKnob Try.prog.godebug = none := by kernel_rfl
theorem laidOut : laidOutB Try.prog = true := by kernel_rfl
set_option maxRecDepth 100000 in
theorem lifted (os : Os) (started : os.Started) (H : Type) (enc : TypeId × Value → H) :
    ReturnsInHanded {} Try.checked os 3 .any (Rows.fleetRenewsSpec.pre6 enc Try.prog Try.f3 Rows.fleetRenewsRow.domain false) (Rows.fleetRenewsSpec.post enc Try.prog Try.f3 false true false false) := by
  refine returnsInHanded_of_change_sized (C := Try.checked) own started (by kernel_rfl) Try.func3
    (ChangeSpec.witness6 (enc := enc) (C := Try.checked) false ⟨#[], #[.slice none 0 0, .agg #[.slice none 0 0, .slice none 0 0, .int .i64 0, .int .i64 0, .int .i64 0, .int .i64 0, .slice none 0 0], .int .i64 0, .int .i64 0], []⟩ 8 (by kernel_rfl) (by kernel_rfl) (by kernel_rfl) (by kernel_rfl)) ?_
  intro W base args ds gs before hval0 hW hcnd hsz0 _
  have hval : ∀ (j : Nat) t v, Try.f3.params[j]? = some t → args[j]? = some v → Value.okWide Try.prog W .any base t v := hval0
  have hW' := hW
  obtain ⟨p, q, hA0, hV, rfl, hfz, hnd⟩ := hW
  have hA : DataW.TrodAll enc Try.prog W 0 (fun _ => true) true Try.f3.params.toList args.toList ds p := hA0
  rw [Try.params3] at hA hval
  obtain ⟨v0, vs0, d0, ds0, p0, q0, hargs, rfl, rfl, h0, r0⟩ := trodAll_cons hA
  obtain ⟨v1, vs1, d1, ds1, p1, q1, rfl, rfl, rfl, h1, r1⟩ := trodAll_cons r0
  obtain ⟨v2, vs2, d2, ds2, p2, q2, rfl, rfl, rfl, h2, r2⟩ := trodAll_cons r1
  obtain ⟨v3, vs3, d3, ds3, p3, q3, rfl, rfl, rfl, h3, r3⟩ := trodAll_cons r2
  obtain ⟨rfl, rfl, rfl⟩ := trodAll_nil r3
  obtain rfl : args = #[v0, v1, v2, v3] := by cases args; simp_all
  obtain ⟨rfl, rfl⟩ := trodVars_none hV
  have k0 := h0
  have lt0 : ∀ x ∈ p0, x.block < W.heap.size := by obtain ⟨m, hm⟩ := k0; exact DataW.trod_lt m _ _ _ hm
  obtain ⟨m0, hm0⟩ := h0
  obtain ⟨y0, K0, w0⟩ := (opens_slice Try.underlying22 (by kernel_rfl) opens_T52) hm0
  obtain ⟨a0, len0, cap0, rfl⟩ := okWide_slice Try.underlying22 (hval 0 22 v0 rfl rfl)
  obtain ⟨A0, c0, e0, hc0, hr0⟩ := K0
  simp only [Value.cells, List.cons.injEq, Value.slice.injEq, and_true] at e0
  obtain ⟨rfl, rfl, rfl⟩ := e0
  have k1 := h1
  have lt1 : ∀ x ∈ p1, x.block < W.heap.size := by obtain ⟨m, hm⟩ := k1; exact DataW.trod_lt m _ _ _ hm
  obtain ⟨m1, hm1⟩ := h1
  obtain ⟨y1, K1, w1⟩ := opens_T26 hm1
  obtain ⟨cs1, rfl, _⟩ := okWide_struct Try.underlying26 (hval 1 26 v1 rfl rfl)
  obtain ⟨A1_0, c1_0, A1_1, c1_1, A1_6, c1_6, e1, hc1_0, hr1_0, hc1_1, hr1_1, hc1_6, hr1_6⟩ := k26_open K1
  obtain rfl : cs1 = #[.slice A1_0 y1.f0.length c1_0, .slice A1_1 y1.f1.length c1_1, .int .i64 y1.f2, .int .i64 y1.f3, .int .i64 y1.f4, .int .i64 y1.f5, .slice A1_6 y1.f6.length c1_6] := Array.toList_inj.1 e1
  have w1_ : (wRow (wInt .i64)) y1.f0 ∧ (wRow (wInt .i64)) y1.f1 ∧ (wInt .i64) y1.f2 ∧ (wInt .i64) y1.f3 ∧ (wInt .i64) y1.f4 ∧ (wInt .i64) y1.f5 ∧ (wRow wT49) y1.f6 := w1
  obtain ⟨w1_0, w1_1, w1_2, w1_3, w1_4, w1_5, w1_6⟩ := w1_
  obtain ⟨a2, rfl, rfl, rfl, w2⟩ := open_int Try.underlying3 (hval 2 3 v2 rfl rfl) h2
  obtain ⟨a3, rfl, rfl, rfl, w3⟩ := open_int Try.underlying3 (hval 3 3 v3 rfl rfl) h3
  clear hA0 hval0 hsz0
  obtain ⟨k, hP⟩ := Pure.FleetRenews y0 y1.f0 y1.f1 y1.f2 y1.f3 y1.f4 y1.f5 y1.f6 a2 a3 w0 w1_0 w1_1 w1_2 w1_3 w1_4 w1_5 w1_6 w2 w3
  refine (hinterlandlaw14_FleetRenews.calls k a0 cap0 y0 A1_0 c1_0 y1.f0 A1_1 c1_1 y1.f1 y1.f2 y1.f3 y1.f4 y1.f5 A1_6 c1_6 y1.f6 a2 a3 true W hr0 hc0 hr1_0 hc1_0 hr1_1 hc1_1 hr1_6 hc1_6 hP).mono fun e W' ⟨he, bel0⟩ => ?_
  have bel : Below W.heap.size W W' := bel0
  subst he
  exact ⟨_, rfl, _, _, _, [], _, [], hW', trodAll_mk1 (shut_bool Try.underlying4 _), (trodAll_cons_mk (Below.trod laidOut (by kernel_rfl) (of_decide_eq_true (by kernel_rfl)) k0 bel lt0) (trodAll_cons_mk (Below.trod laidOut (by kernel_rfl) (of_decide_eq_true (by kernel_rfl)) k1 bel lt1) (trodAll_cons_mk (shut_int Try.underlying3 w2) (trodAll_cons_mk (shut_int Try.underlying3 w3) trodAll_mk0)))), rfl, bel.frame _, fun h => by cases h⟩
theorem over : Rows.fleetRenewsRow.holds Try.pinned (OpenSpec.ofChange Rows.fleetRenewsSpec) :=
  OpenClaim.holds_of_wide 3 Try.f3 rfl rfl rfl rfl rfl rfl rfl ⟨rfl, rfl, rfl, rfl, rfl⟩ rfl rfl rfl rfl rfl (by kernel_rfl) Try.func3 (by kernel_rfl)
    (of_decide_eq_true (by kernel_rfl)) (by unfold Func.isWrapper; first | (rw [if_pos (by decide +kernel)]; kernel_rfl) | (rw [if_neg (by decide +kernel)]; exact ⟨rfl, rfl⟩))
    (fun os started H enc _ => lifted os started H enc)
theorem proved : Rows.FleetRenewsSaid := over
#print axioms proved
end Go.Proofs.Ytgnahbjpockdmab.fleetRenews
namespace Go.Proofs.Ytgnahbjpockdmab
/-- The row, under a short name, for the claim. -/
theorem fleetRenews_holds : Rows.FleetRenewsSaid := fleetRenews.proved
end Go.Proofs.Ytgnahbjpockdmab

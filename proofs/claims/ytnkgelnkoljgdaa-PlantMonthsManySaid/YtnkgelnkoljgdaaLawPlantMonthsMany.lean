/- The row of the law hinterlandlaw10_PlantMonthsMany: its arguments opened, its pure statement (proved in the seat's Pure text), its printed contract. -/
import Derived.Test.YtnkgelnkoljgdaaRows
import Derived.Test.YtnkgelnkoljgdaaQ34
import Derived.Test.YtnkgelnkoljgdaaPurePlantMonthsMany
import Derived.Test.YtnkgelnkoljgdaaOpen
import Derived.Test.YtnkgelnkoljgdaaShr
import Derived.WalkKit
import Derived.ProofKit
import Derived.OpenShut
import Derived.ShutString
import Derived.ChangeOld
import Derived.Below
import Derived.SizedLaws
import Derived.Carry
namespace Go.Proofs.Ytnkgelnkoljgdaa.plantMonthsMany
open Go.ChangeShapes Go.WideShapes Go.ChangeAt Go.RowKit Go.Proofs.YtnkgelnkoljgdaaOwn Go.Proofs.Ytnkgelnkoljgdaa.Q Go.Proofs.YtnkgelnkoljgdaaW.PrintWords Go.Proofs.YtnkgelnkoljgdaaW.PrintLast
open Go.ChangeMaps (open_string shut_string)
set_option linter.unusedVariables false
theorem own : ownKnob Try.prog.godebug = none := by kernel_rfl
theorem laidOut : laidOutB Try.prog = true := by kernel_rfl
set_option maxRecDepth 100000 in
theorem lifted (os : Os) (started : os.Started) (H : Type) (enc : TypeId × Value → H) :
    ReturnsInHanded {} Try.checked os 12 .any (Rows.plantMonthsManySpec.pre6 enc Try.prog Try.f12 Rows.plantMonthsManyRow.domain false) (Rows.plantMonthsManySpec.post enc Try.prog Try.f12 false true false false) := by
  refine returnsInHanded_of_change_sized (C := Try.checked) own started (by kernel_rfl) Try.func12
    (ChangeSpec.witness6 (enc := enc) (C := Try.checked) false ⟨#[], #[.slice none 0 0, .agg #[.int .i64 0, .int .i64 0, .int .i64 0, .slice none 0 0, .slice none 0 0, .slice none 0 0, .slice none 0 0, .int .i64 0, .int .i64 0, .bool false], .agg #[.int .u64 0], .int .i64 0], []⟩ 8 (by kernel_rfl) (by kernel_rfl) (by kernel_rfl) (by kernel_rfl)) ?_
  intro W base args ds gs before hval0 hW hcnd hsz0 _
  have hval : ∀ (j : Nat) t v, Try.f12.params[j]? = some t → args[j]? = some v → Value.okWide Try.prog W .any base t v := hval0
  have hW' := hW
  obtain ⟨p, q, hA0, hV, rfl, hfz, hnd⟩ := hW
  have hA : DataW.TrodAll enc Try.prog W 0 (fun _ => true) true Try.f12.params.toList args.toList ds p := hA0
  rw [Try.params12] at hA hval
  obtain ⟨v0, vs0, d0, ds0, p0, q0, hargs, rfl, rfl, h0, r0⟩ := trodAll_cons hA
  obtain ⟨v1, vs1, d1, ds1, p1, q1, rfl, rfl, rfl, h1, r1⟩ := trodAll_cons r0
  obtain ⟨v2, vs2, d2, ds2, p2, q2, rfl, rfl, rfl, h2, r2⟩ := trodAll_cons r1
  obtain ⟨v3, vs3, d3, ds3, p3, q3, rfl, rfl, rfl, h3, r3⟩ := trodAll_cons r2
  obtain ⟨rfl, rfl, rfl⟩ := trodAll_nil r3
  obtain rfl : args = #[v0, v1, v2, v3] := by cases args; simp_all
  obtain ⟨rfl, rfl⟩ := trodVars_none hV
  have k0 := h0
  have lt0 : ∀ x ∈ p0, x.block < W.heap.size := by obtain ⟨m, hm⟩ := k0; exact DataW.trod_lt m _ _ _ hm
  obtain ⟨m0, hm0⟩ := h0
  obtain ⟨y0, K0, w0⟩ := (opens_slice Try.underlying22 (by kernel_rfl) opens_T39) hm0
  obtain ⟨a0, len0, cap0, rfl⟩ := okWide_slice Try.underlying22 (hval 0 22 v0 rfl rfl)
  obtain ⟨A0, c0, e0, hc0, hr0⟩ := K0
  simp only [Value.cells, List.cons.injEq, Value.slice.injEq, and_true] at e0
  obtain ⟨rfl, rfl, rfl⟩ := e0
  have k1 := h1
  have lt1 : ∀ x ∈ p1, x.block < W.heap.size := by obtain ⟨m, hm⟩ := k1; exact DataW.trod_lt m _ _ _ hm
  obtain ⟨m1, hm1⟩ := h1
  obtain ⟨y1, K1, w1⟩ := opens_T25 hm1
  obtain ⟨cs1, rfl, _⟩ := okWide_struct Try.underlying25 (hval 1 25 v1 rfl rfl)
  obtain ⟨A1_3, c1_3, A1_4, c1_4, A1_5, c1_5, A1_6, c1_6, e1, hc1_3, hr1_3, hc1_4, hr1_4, hc1_5, hr1_5, hc1_6, hr1_6⟩ := k25_open K1
  obtain rfl : cs1 = #[.int .i64 y1.f0, .int .i64 y1.f1, .int .i64 y1.f2, .slice A1_3 y1.f3.length c1_3, .slice A1_4 y1.f4.length c1_4, .slice A1_5 y1.f5.length c1_5, .slice A1_6 y1.f6.length c1_6, .int .i64 y1.f7, .int .i64 y1.f8, .bool y1.f9] := Array.toList_inj.1 e1
  have w1_ : (wInt .i64) y1.f0 ∧ (wInt .i64) y1.f1 ∧ (wInt .i64) y1.f2 ∧ (wRow (wInt .i64)) y1.f3 ∧ (wRow (wInt .i64)) y1.f4 ∧ (wRow (wInt .i64)) y1.f5 ∧ (wRow (wInt .i64)) y1.f6 ∧ (wInt .i64) y1.f7 ∧ (wInt .i64) y1.f8 ∧ wBool y1.f9 := w1
  obtain ⟨w1_0, w1_1, w1_2, w1_3, w1_4, w1_5, w1_6, w1_7, w1_8, w1_9⟩ := w1_
  have k2 := h2
  have lt2 : ∀ x ∈ p2, x.block < W.heap.size := by obtain ⟨m, hm⟩ := k2; exact DataW.trod_lt m _ _ _ hm
  obtain ⟨m2, hm2⟩ := h2
  obtain ⟨y2, K2, w2⟩ := opens_T51 hm2
  obtain ⟨cs2, rfl, _⟩ := okWide_struct Try.underlying51 (hval 2 51 v2 rfl rfl)
  obtain e2 := k51_open K2
  obtain rfl : cs2 = #[.int .u64 y2.f0] := Array.toList_inj.1 e2
  have w2_0 : (wInt .u64) y2.f0 := w2
  obtain ⟨a3, rfl, rfl, rfl, w3⟩ := open_int Try.underlying3 (hval 3 3 v3 rfl rfl) h3
  clear hA0 hval0 hsz0
  obtain ⟨k, hP⟩ := Pure.PlantMonthsMany y0 y1.f0 y1.f1 y1.f2 y1.f3 y1.f4 y1.f5 y1.f6 y1.f7 y1.f8 y1.f9 y2.f0 a3 w0 w1_0 w1_1 w1_2 w1_3 w1_4 w1_5 w1_6 w1_7 w1_8 w1_9 w2_0 w3
  refine (hinterlandlaw10_PlantMonthsMany.calls k a0 cap0 y0 y1.f0 y1.f1 y1.f2 (fun k_ => k_ < W.heap.size) A1_3 c1_3 y1.f3 (fun k_ => k_ < W.heap.size) A1_4 c1_4 y1.f4 (fun k_ => k_ < W.heap.size) A1_5 c1_5 y1.f5 (fun k_ => k_ < W.heap.size) A1_6 c1_6 y1.f6 y1.f7 y1.f8 y1.f9 y2.f0 a3 true W hr0 hc0 (V_of_C_int hr1_3 hc1_3) (V_of_C_int hr1_4 hc1_4) (V_of_C_int hr1_5 hc1_5) (V_of_C_int hr1_6 hc1_6) hP).mono fun e W' ⟨he, bel0⟩ => ?_
  have bel : Below W.heap.size W W' := bel0
  subst he
  exact ⟨_, rfl, _, _, _, [], _, [], hW', trodAll_mk1 (shut_bool Try.underlying4 _), (trodAll_cons_mk (Below.trod laidOut (by kernel_rfl) (of_decide_eq_true (by kernel_rfl)) k0 bel lt0) (trodAll_cons_mk (Below.trod laidOut (by kernel_rfl) (of_decide_eq_true (by kernel_rfl)) k1 bel lt1) (trodAll_cons_mk (Below.trod laidOut (by kernel_rfl) (of_decide_eq_true (by kernel_rfl)) k2 bel lt2) (trodAll_cons_mk (shut_int Try.underlying3 w3) trodAll_mk0)))), rfl, bel.frame _, fun h => by cases h⟩
theorem over : Rows.plantMonthsManyRow.holds Try.pinned (OpenSpec.ofChange Rows.plantMonthsManySpec) :=
  OpenClaim.holds_of_wide 12 Try.f12 rfl rfl rfl rfl rfl rfl rfl ⟨rfl, rfl, rfl, rfl, rfl⟩ rfl rfl rfl rfl rfl (by kernel_rfl) Try.func12 (by kernel_rfl)
    (of_decide_eq_true (by kernel_rfl)) (by unfold Func.isWrapper; first | (rw [if_pos (by decide +kernel)]; kernel_rfl) | (rw [if_neg (by decide +kernel)]; exact ⟨rfl, rfl⟩))
    (fun os started H enc _ => lifted os started H enc)
theorem proved : Rows.PlantMonthsManySaid := over
#print axioms proved
end Go.Proofs.Ytnkgelnkoljgdaa.plantMonthsMany
namespace Go.Proofs.Ytnkgelnkoljgdaa
/-- The row, under a short name, for the claim. -/
theorem plantMonthsMany_holds : Rows.PlantMonthsManySaid := plantMonthsMany.proved
end Go.Proofs.Ytnkgelnkoljgdaa

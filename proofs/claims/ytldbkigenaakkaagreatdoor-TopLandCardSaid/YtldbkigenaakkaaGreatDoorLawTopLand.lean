/- The row of the law hinterlandtop_TopLand: its arguments opened, its pure statement (proved in the seat's Pure text), its printed contract. -/
import Derived.Test.YtldbkigenaakkaaGreatDoorRows
import Derived.Test.YtldbkigenaakkaaGreatDoorCards
import Derived.Test.YtldbkigenaakkaaGreatDoorWit
import Derived.Test.YtldbkigenaakkaaGreatDoorFac
import Derived.Test.YtldbkigenaakkaaGreatDoorTied
import Derived.Test.YtldbkigenaakkaaGreatDoorQ25
import Derived.Test.YtldbkigenaakkaaGreatDoorPureTopLand
import Derived.Test.YtldbkigenaakkaaGreatDoorOpen
import Derived.Test.YtldbkigenaakkaaGreatDoorShr
import Derived.WalkKit
import Derived.ProofKit
import Derived.OpenShut
import Derived.ShutString
import Derived.ChangeOld
import Derived.Below
import Derived.SizedLaws
import Derived.Carry
namespace Go.Proofs.YtldbkigenaakkaaGreatDoor.topLand
open Go.ChangeShapes Go.WideShapes Go.ChangeAt Go.RowKit Go.Proofs.YtldbkigenaakkaaGreatDoorOwn Go.Proofs.YtldbkigenaakkaaGreatDoor.Q Go.Proofs.YtldbkigenaakkaaGreatDoorW.PrintWords Go.Proofs.YtldbkigenaakkaaGreatDoorW.PrintLast
open Go.ChangeMaps (open_string shut_string)
set_option linter.unusedVariables false
set_option maxRecDepth 100000 in
theorem lifted (os : Os) (started : os.Started) (H : Type) (enc : TypeId × Value → H) :
    ReturnsInHanded {} Tryz.checked os 3 .any (fun w args => (Rows.topLandSpec.pre enc Tryz.prog Tryz.f3 Rows.topLandRow.domain false w args ∧ laidMetH Tryz.prog Rows.topLandRow.laid w) ∧ sizedMet enc Tryz.prog Tryz.f3 (OpenSpec.ofChange Rows.topLandSpec) false w args) (Rows.topLandSpec.post enc Tryz.prog Tryz.f3 false true false false) := by
  refine returnsInHanded_of_change_and (C := Tryz.checked) (X := fun w _ => laidMetH Tryz.prog Rows.topLandRow.laid w) (fun _ _ _ hh h => h.of_heap hh) own started fac_init Tryz.func3 (wit os H enc) ?_
  intro W base args ds gs before hval0 hW hcnd hsz0 _ _
  have hval : ∀ (j : Nat) t v, Tryz.f3.params[j]? = some t → args[j]? = some v → Value.okWide Tryz.prog W .any base t v := hval0
  have hW' := hW
  obtain ⟨p, q, hA0, hV, rfl, hfz, hnd⟩ := hW
  have hA : DataW.TrodAll enc Tryz.prog W 0 (fun _ => true) true Tryz.f3.params.toList args.toList ds p := hA0
  rw [Tryz.params3] at hA hval
  obtain ⟨v0, vs0, d0, ds0, p0, q0, hargs, rfl, rfl, h0, r0⟩ := trodAll_cons hA
  obtain ⟨v1, vs1, d1, ds1, p1, q1, rfl, rfl, rfl, h1, r1⟩ := trodAll_cons r0
  obtain ⟨v2, vs2, d2, ds2, p2, q2, rfl, rfl, rfl, h2, r2⟩ := trodAll_cons r1
  obtain ⟨v3, vs3, d3, ds3, p3, q3, rfl, rfl, rfl, h3, r3⟩ := trodAll_cons r2
  obtain ⟨v4, vs4, d4, ds4, p4, q4, rfl, rfl, rfl, h4, r4⟩ := trodAll_cons r3
  obtain ⟨rfl, rfl, rfl⟩ := trodAll_nil r4
  obtain rfl : args = #[v0, v1, v2, v3, v4] := by cases args; simp_all
  obtain ⟨rfl, rfl⟩ := trodVars_none hV
  obtain ⟨a0, rfl, rfl, rfl, w0⟩ := open_int Tryz.underlying22 (hval 0 22 v0 rfl rfl) h0
  obtain ⟨a1, rfl, rfl, rfl, w1⟩ := open_int Tryz.underlying3 (hval 1 3 v1 rfl rfl) h1
  obtain ⟨a2, rfl, rfl, rfl, w2⟩ := open_int Tryz.underlying3 (hval 2 3 v2 rfl rfl) h2
  obtain ⟨a3, rfl, rfl, rfl, w3⟩ := open_int Tryz.underlying3 (hval 3 3 v3 rfl rfl) h3
  have k4 := h4
  have lt4 : ∀ x ∈ p4, x.block < W.heap.size := by obtain ⟨m, hm⟩ := k4; exact DataW.trod_lt m _ _ _ hm
  obtain ⟨m4, hm4⟩ := h4
  obtain ⟨y4, K4, w4⟩ := (opens_slice Tryz.underlying23 (by kernel_rfl) (opens_slice Tryz.underlying24 (by kernel_rfl) (opens_int Tryz.underlying3))) hm4
  obtain ⟨a4, len4, cap4, rfl⟩ := okWide_slice Tryz.underlying23 (hval 4 23 v4 rfl rfl)
  obtain ⟨A4, c4, e4, hc4, hr4⟩ := K4
  simp only [Value.cells, List.cons.injEq, Value.slice.injEq, and_true] at e4
  obtain ⟨rfl, rfl, rfl⟩ := e4
  clear hA0 hval0 hsz0
  obtain ⟨k, hP⟩ := Pure.TopLand a0 a1 a2 a3 y4 w0 w1 w2 w3 w4
  refine (hinterlandtop_TopLand.calls k a0 a1 a2 a3 a4 cap4 y4 true W hr4 hc4 hP).mono fun e W' ⟨he, bel0⟩ => ?_
  have bel : Below W.heap.size W W' := bel0
  subst he
  exact ⟨_, rfl, _, _, _, [], _, [], hW', trodAll_mk1 (shut_bool Tryz.underlying4 _), (trodAll_cons_mk (shut_int Tryz.underlying22 w0) (trodAll_cons_mk (shut_int Tryz.underlying3 w1) (trodAll_cons_mk (shut_int Tryz.underlying3 w2) (trodAll_cons_mk (shut_int Tryz.underlying3 w3) (trodAll_cons_mk (Below.trod laidOut (by kernel_rfl) (of_decide_eq_true (by kernel_rfl)) k4 bel lt4) trodAll_mk0))))), rfl, bel.frame _, fun h => by cases h⟩
theorem over : Rows.topLandRow.holds Tryz.pinned (OpenSpec.ofChange Rows.topLandSpec) :=
  OpenClaim.holds_of_wide 3 Tryz.f3 rfl rfl rfl rfl rfl rfl rfl ⟨rfl, rfl, rfl, rfl, rfl⟩ rfl rfl rfl rfl rfl fac_name Tryz.func3 fac_joined fac_inst fac_wrap
    (fun os started H enc _ => lifted os started H enc)
theorem carded : Rows.TopLandCardSaid :=
  Claim7.holds_tied_plain_at .later [] [.pinned, .data, .sentinel, .sentinel, .data, .data, .data] true (true, "f432c0c47975611a81fa7d5aa6f319cafa45b89805b8b179540b777449ef1f45") true
    over (fun _ h => by cases h) fac_wf (fun _ h => by cases h) topLand_row_tie rfl ⟨rfl, rfl⟩ fac_main rfl
    (fun f fn hf hfn => by
      obtain rfl : f = 3 := Option.some.inj (fac_name.symm.trans hf) |>.symm
      obtain rfl : fn = Tryz.f3 := (Option.some.inj (Tryz.func3.symm.trans hfn)).symm
      exact ⟨fac_looks, fun j t ht => by
        rw [Tryz.params3] at ht
        have hm : t ∈ ([22, 3, 23] : List TypeId) := by have := Array.mem_of_getElem? ht; simp at this ⊢; omega
        exact (show Tryz.prog.wantsStandIn t = false by simpa using List.all_eq_true.1 fac_stand t hm)⟩)
    fac_goes
theorem proved : Rows.TopLandCardSaid := carded
#print axioms proved
end Go.Proofs.YtldbkigenaakkaaGreatDoor.topLand
namespace Go.Proofs.YtldbkigenaakkaaGreatDoor
/-- The row, under a short name, for the claim. -/
theorem topLand_holds : Rows.TopLandCardSaid := topLand.proved
end Go.Proofs.YtldbkigenaakkaaGreatDoor

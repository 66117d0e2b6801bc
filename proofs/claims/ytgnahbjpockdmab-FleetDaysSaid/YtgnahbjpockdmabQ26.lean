-- PRINTED by print.py out of the translation. Not trusted: Lean checks it.
import Derived.Test.YtgnahbjpockdmabPrs
import Derived.Test.YtgnahbjpockdmabQ0
import Derived.Test.YtgnahbjpockdmabQ19
import Derived.Test.YtgnahbjpockdmabQ11
namespace Go.Proofs.Ytgnahbjpockdmab.Q
open Go.RowKit Go.Proofs.YtgnahbjpockdmabPrs Go.Proofs.YtgnahbjpockdmabOwn Go.Proofs.YtgnahbjpockdmabW.PrintWords Go.Proofs.YtgnahbjpockdmabW.PrintLast Go.Proofs.YtgnahbjpockdmabW.PrintMore
attribute [local go_sem] max2_int min2_int max_two min_two max_three min_three max_four min_four   -- for this text's walks alone
set_option linter.unusedVariables false
set_option linter.unusedSimpArgs false

/-! ### hinterlandref14_right: function 53 -/
def hinterlandref14_right.f (k : Nat) (a0_0 : ByteArray) (a0_1 : Int) (a0_2 : Int) (a0_3 : Int) (a0_4 : Int) (a0_5 : Int) (a0_6 : Int) (a0_7 : Int) (a0_8 : Int) (a0_9 : Int) (a0_10 : Int) (a0_11 : Int) (a0_12 : Int) (a0_13 : Bool) : Option (Bool) := (hinterlandref10_Named.f k a0_0).bind fun t308 => (if t308 = true then ((hinterlandref14_within.f a0_1 0 3).bind fun t309 => (if t309 = true then ((hinterlandref14_within.f a0_2 0 600).bind fun t310 => (if t310 = true then ((hinterlandref14_within.f a0_3 0 20000).bind fun t311 => (if t311 = true then ((hinterlandref14_within.f a0_4 1 1000).bind fun t312 => (if t312 = true then ((hinterlandref14_within.f a0_5 0 2000).bind fun t313 => (if t313 = true then ((hinterlandref14_within.f a0_6 (-1) 15).bind fun t314 => (if t314 = true then ((hinterlandref14_within.f a0_7 0 1000).bind fun t315 => (if t315 = true then ((hinterlandref14_within.f a0_8 1 16).bind fun t316 => (if t316 = true then ((hinterlandref14_within.f a0_9 0 10000000).bind fun t317 => (if t317 = true then ((hinterlandref14_within.f a0_10 0 10000000).bind fun t318 => (if t318 = true then ((hinterlandref14_within.f a0_11 1 100).bind fun t319 => (if t319 = true then ((hinterlandref14_within.f a0_12 0 1000).bind fun t320 => (some t320)) else (some false))) else (some false))) else (some false))) else (some false))) else (some false))) else (some false))) else (some false))) else (some false))) else (some false))) else (some false))) else (some false))) else (some false))
theorem hinterlandref14_right.mono : ∀ a0 a1 a2 a3 a4 a5 a6 a7 a8 a9 a10 a11 a12 a13 k, LeO (hinterlandref14_right.f k a0 a1 a2 a3 a4 a5 a6 a7 a8 a9 a10 a11 a12 a13) (hinterlandref14_right.f (k + 1) a0 a1 a2 a3 a4 a5 a6 a7 a8 a9 a10 a11 a12 a13) := by
  intro a0 a1 a2 a3 a4 a5 a6 a7 a8 a9 a10 a11 a12 a13 k
  unfold hinterlandref14_right.f
  repeat' first
      | (with_reducible first | apply hinterlandref10_Named.mono | exact LeO.refl _ | exact LeO.none _ | refine LeO.ite ?_ ?_ | refine LeO.bind ?_ (fun _ => ?_))
set_option maxHeartbeats 8000000 in
set_option maxRecDepth 100000 in
theorem hinterlandref14_right.calls (k : Nat) (a0_0 : ByteArray) (a0_1 : Int) (a0_2 : Int) (a0_3 : Int) (a0_4 : Int) (a0_5 : Int) (a0_6 : Int) (a0_7 : Int) (a0_8 : Int) (a0_9 : Int) (a0_10 : Int) (a0_11 : Int) (a0_12 : Int) (a0_13 : Bool) (r : Bool) (w : World) (h : hinterlandref14_right.f k a0_0 a0_1 a0_2 a0_3 a0_4 a0_5 a0_6 a0_7 a0_8 a0_9 a0_10 a0_11 a0_12 a0_13 = some r) :
    Calls Try.prog 53 #[.agg #[.string a0_0, .int .i64 a0_1, .int .i64 a0_2, .int .i64 a0_3, .int .i64 a0_4, .int .i64 a0_5, .int .i64 a0_6, .int .i64 a0_7, .int .i64 a0_8, .int .i64 a0_9, .int .i64 a0_10, .int .i64 a0_11, .int .i64 a0_12, .bool a0_13]] w fun e w' => e = .returned (.bool r) ∧ Below w.heap.size w w' := by
 have hu52 := Try.underlying52; have HB := Aside0.mk (Below.refl w.heap.size w); have H : ((hinterlandref10_Named.f k a0_0).bind fun t308 => (if t308 = true then ((hinterlandref14_within.f a0_1 0 3).bind fun t309 => (if t309 = true then ((hinterlandref14_within.f a0_2 0 600).bind fun t310 => (if t310 = true then ((hinterlandref14_within.f a0_3 0 20000).bind fun t311 => (if t311 = true then ((hinterlandref14_within.f a0_4 1 1000).bind fun t312 => (if t312 = true then ((hinterlandref14_within.f a0_5 0 2000).bind fun t313 => (if t313 = true then ((hinterlandref14_within.f a0_6 (-1) 15).bind fun t314 => (if t314 = true then ((hinterlandref14_within.f a0_7 0 1000).bind fun t315 => (if t315 = true then ((hinterlandref14_within.f a0_8 1 16).bind fun t316 => (if t316 = true then ((hinterlandref14_within.f a0_9 0 10000000).bind fun t317 => (if t317 = true then ((hinterlandref14_within.f a0_10 0 10000000).bind fun t318 => (if t318 = true then ((hinterlandref14_within.f a0_11 1 100).bind fun t319 => (if t319 = true then ((hinterlandref14_within.f a0_12 0 1000).bind fun t320 => (some t320)) else (some false))) else (some false))) else (some false))) else (some false))) else (some false))) else (some false))) else (some false))) else (some false))) else (some false))) else (some false))) else (some false))) else (some false))) = some r := h; clear h; replace H := Option.bind_eq_some_iff.mp H; obtain ⟨t308, A20, H⟩ := H; have A2 := Aside0.mk A20; clear A20
 by_cases c3 : t308 = true
 ·subst c3; rw [if_pos rfl] at H; replace H := Option.bind_eq_some_iff.mp H; obtain ⟨t309, A40, H⟩ := H; have A4 := Aside0.mk A40; clear A40
  by_cases c5 : t309 = true
  ·subst c5; rw [if_pos rfl] at H; replace H := Option.bind_eq_some_iff.mp H; obtain ⟨t310, A60, H⟩ := H; have A6 := Aside0.mk A60; clear A60
   by_cases c7 : t310 = true
   ·subst c7; rw [if_pos rfl] at H; replace H := Option.bind_eq_some_iff.mp H; obtain ⟨t311, A80, H⟩ := H; have A8 := Aside0.mk A80; clear A80
    by_cases c9 : t311 = true
    ·subst c9; rw [if_pos rfl] at H; replace H := Option.bind_eq_some_iff.mp H; obtain ⟨t312, A100, H⟩ := H; have A10 := Aside0.mk A100; clear A100
     by_cases c11 : t312 = true
     ·subst c11; rw [if_pos rfl] at H; replace H := Option.bind_eq_some_iff.mp H; obtain ⟨t313, A120, H⟩ := H; have A12 := Aside0.mk A120; clear A120
      by_cases c13 : t313 = true
      ·subst c13; rw [if_pos rfl] at H; replace H := Option.bind_eq_some_iff.mp H; obtain ⟨t314, A140, H⟩ := H; have A14 := Aside0.mk A140; clear A140
       by_cases c15 : t314 = true
       ·subst c15; rw [if_pos rfl] at H; replace H := Option.bind_eq_some_iff.mp H; obtain ⟨t315, A160, H⟩ := H; have A16 := Aside0.mk A160; clear A160
        by_cases c17 : t315 = true
        ·subst c17; rw [if_pos rfl] at H; replace H := Option.bind_eq_some_iff.mp H; obtain ⟨t316, A180, H⟩ := H; have A18 := Aside0.mk A180; clear A180
         by_cases c19 : t316 = true
         ·subst c19; rw [if_pos rfl] at H; replace H := Option.bind_eq_some_iff.mp H; obtain ⟨t317, A200, H⟩ := H; have A20 := Aside0.mk A200; clear A200
          by_cases c21 : t317 = true
          ·subst c21; rw [if_pos rfl] at H; replace H := Option.bind_eq_some_iff.mp H; obtain ⟨t318, A220, H⟩ := H; have A22 := Aside0.mk A220; clear A220
           by_cases c23 : t318 = true
           ·subst c23; rw [if_pos rfl] at H; replace H := Option.bind_eq_some_iff.mp H; obtain ⟨t319, A240, H⟩ := H; have A24 := Aside0.mk A240; clear A240
            by_cases c25 : t319 = true
            ·subst c25; rw [if_pos rfl] at H; replace H := Option.bind_eq_some_iff.mp H; obtain ⟨t320, A260, H⟩ := H; have A26 := Aside0.mk A260; clear A260; obtain rfl := Option.some.inj H
             go_enter Try.func53, Try.ntmps53
             go_wp2_with (first | ((with_reducible refine gate_dst (N := 1) rfl ?_); refine bx_ (N := 1) (cs := #[.string a0_0, .int .i64 a0_1, .int .i64 a0_2, .int .i64 a0_3, .int .i64 a0_4, .int .i64 a0_5, .int .i64 a0_6, .int .i64 a0_7, .int .i64 a0_8, .int .i64 a0_9, .int .i64 a0_10, .int .i64 a0_11, .int .i64 a0_12, .bool a0_13]) (t := 52) ?_; intro gb307 hg w27 hbox hb; have BK307 := Aside0.mk (hbox); have GW307 := Aside0.mk ((dS_ hg (dL_ HB) : w.heap.size ≤ gb307)); have GE307 := GW307; replace HB := Aside0.mk (below_step (dL_ HB) hb); clear hb hbox hg; obtain ⟨hcz28_0, hcz28_1, hcz28_2, hcz28_3, hcz28_4, hcz28_5, hcz28_6, hcz28_7, hcz28_8, hcz28_9, hcz28_10, hcz28_11, hcz28_12, hcz28_13, hfz28_0, hfz28_1, hfz28_2, hfz28_3, hfz28_4, hfz28_5, hfz28_6, hfz28_7, hfz28_8, hfz28_9, hfz28_10, hfz28_11, hfz28_12, hfz28_13⟩ := cs14_ BK307.out) | (go_at_call 56; (with_reducible refine (hinterlandref10_Named.calls k a0_0 true _ A2.out).mono ?_); rintro e w' ⟨rfl, ⟨nd, rfl⟩⟩) | (go_at_call 35; (with_reducible refine (hinterlandref14_within.calls a0_1 0 3 true _ A4.out).mono ?_); rintro e w' ⟨rfl, ⟨nd, rfl⟩⟩) | (go_at_call 35; (with_reducible refine (hinterlandref14_within.calls a0_2 0 600 true _ A6.out).mono ?_); rintro e w' ⟨rfl, ⟨nd, rfl⟩⟩) | (go_at_call 35; (with_reducible refine (hinterlandref14_within.calls a0_3 0 20000 true _ A8.out).mono ?_); rintro e w' ⟨rfl, ⟨nd, rfl⟩⟩) | (go_at_call 35; (with_reducible refine (hinterlandref14_within.calls a0_4 1 1000 true _ A10.out).mono ?_); rintro e w' ⟨rfl, ⟨nd, rfl⟩⟩) | (go_at_call 35; (with_reducible refine (hinterlandref14_within.calls a0_5 0 2000 true _ A12.out).mono ?_); rintro e w' ⟨rfl, ⟨nd, rfl⟩⟩) | (go_at_call 35; (with_reducible refine (hinterlandref14_within.calls a0_6 (-1) 15 true _ A14.out).mono ?_); rintro e w' ⟨rfl, ⟨nd, rfl⟩⟩) | (go_at_call 35; (with_reducible refine (hinterlandref14_within.calls a0_7 0 1000 true _ A16.out).mono ?_); rintro e w' ⟨rfl, ⟨nd, rfl⟩⟩) | (go_at_call 35; (with_reducible refine (hinterlandref14_within.calls a0_8 1 16 true _ A18.out).mono ?_); rintro e w' ⟨rfl, ⟨nd, rfl⟩⟩) | (go_at_call 35; (with_reducible refine (hinterlandref14_within.calls a0_9 0 10000000 true _ A20.out).mono ?_); rintro e w' ⟨rfl, ⟨nd, rfl⟩⟩) | (go_at_call 35; (with_reducible refine (hinterlandref14_within.calls a0_10 0 10000000 true _ A22.out).mono ?_); rintro e w' ⟨rfl, ⟨nd, rfl⟩⟩) | (go_at_call 35; (with_reducible refine (hinterlandref14_within.calls a0_11 1 100 true _ A24.out).mono ?_); rintro e w' ⟨rfl, ⟨nd, rfl⟩⟩) | (go_at_call 35; (with_reducible refine (hinterlandref14_within.calls a0_12 0 1000 t320 _ A26.out).mono ?_); rintro e w' ⟨rfl, ⟨nd, rfl⟩⟩))
             go_ret
             exact ⟨tE_, dL1_ HB GE307⟩
            ·replace c25 := Bool.eq_false_iff.mpr c25; subst c25; rw [if_neg (show ¬ (false = true) by decide)] at H; obtain rfl := Option.some.inj H
             go_enter Try.func53, Try.ntmps53
             go_wp2_with (first | ((with_reducible refine gate_dst (N := 1) rfl ?_); refine bx_ (N := 1) (cs := #[.string a0_0, .int .i64 a0_1, .int .i64 a0_2, .int .i64 a0_3, .int .i64 a0_4, .int .i64 a0_5, .int .i64 a0_6, .int .i64 a0_7, .int .i64 a0_8, .int .i64 a0_9, .int .i64 a0_10, .int .i64 a0_11, .int .i64 a0_12, .bool a0_13]) (t := 52) ?_; intro gb307 hg w29 hbox hb; have BK307 := Aside0.mk (hbox); have GW307 := Aside0.mk ((dS_ hg (dL_ HB) : w.heap.size ≤ gb307)); have GE307 := GW307; replace HB := Aside0.mk (below_step (dL_ HB) hb); clear hb hbox hg; obtain ⟨hcz30_0, hcz30_1, hcz30_2, hcz30_3, hcz30_4, hcz30_5, hcz30_6, hcz30_7, hcz30_8, hcz30_9, hcz30_10, hcz30_11, hcz30_12, hcz30_13, hfz30_0, hfz30_1, hfz30_2, hfz30_3, hfz30_4, hfz30_5, hfz30_6, hfz30_7, hfz30_8, hfz30_9, hfz30_10, hfz30_11, hfz30_12, hfz30_13⟩ := cs14_ BK307.out) | (go_at_call 56; (with_reducible refine (hinterlandref10_Named.calls k a0_0 true _ A2.out).mono ?_); rintro e w' ⟨rfl, ⟨nd, rfl⟩⟩) | (go_at_call 35; (with_reducible refine (hinterlandref14_within.calls a0_1 0 3 true _ A4.out).mono ?_); rintro e w' ⟨rfl, ⟨nd, rfl⟩⟩) | (go_at_call 35; (with_reducible refine (hinterlandref14_within.calls a0_2 0 600 true _ A6.out).mono ?_); rintro e w' ⟨rfl, ⟨nd, rfl⟩⟩) | (go_at_call 35; (with_reducible refine (hinterlandref14_within.calls a0_3 0 20000 true _ A8.out).mono ?_); rintro e w' ⟨rfl, ⟨nd, rfl⟩⟩) | (go_at_call 35; (with_reducible refine (hinterlandref14_within.calls a0_4 1 1000 true _ A10.out).mono ?_); rintro e w' ⟨rfl, ⟨nd, rfl⟩⟩) | (go_at_call 35; (with_reducible refine (hinterlandref14_within.calls a0_5 0 2000 true _ A12.out).mono ?_); rintro e w' ⟨rfl, ⟨nd, rfl⟩⟩) | (go_at_call 35; (with_reducible refine (hinterlandref14_within.calls a0_6 (-1) 15 true _ A14.out).mono ?_); rintro e w' ⟨rfl, ⟨nd, rfl⟩⟩) | (go_at_call 35; (with_reducible refine (hinterlandref14_within.calls a0_7 0 1000 true _ A16.out).mono ?_); rintro e w' ⟨rfl, ⟨nd, rfl⟩⟩) | (go_at_call 35; (with_reducible refine (hinterlandref14_within.calls a0_8 1 16 true _ A18.out).mono ?_); rintro e w' ⟨rfl, ⟨nd, rfl⟩⟩) | (go_at_call 35; (with_reducible refine (hinterlandref14_within.calls a0_9 0 10000000 true _ A20.out).mono ?_); rintro e w' ⟨rfl, ⟨nd, rfl⟩⟩) | (go_at_call 35; (with_reducible refine (hinterlandref14_within.calls a0_10 0 10000000 true _ A22.out).mono ?_); rintro e w' ⟨rfl, ⟨nd, rfl⟩⟩) | (go_at_call 35; (with_reducible refine (hinterlandref14_within.calls a0_11 1 100 false _ A24.out).mono ?_); rintro e w' ⟨rfl, ⟨nd, rfl⟩⟩))
             go_ret
             exact ⟨tE_, dL1_ HB GE307⟩
           ·replace c23 := Bool.eq_false_iff.mpr c23; subst c23; rw [if_neg (show ¬ (false = true) by decide)] at H; obtain rfl := Option.some.inj H
            go_enter Try.func53, Try.ntmps53
            go_wp2_with (first | ((with_reducible refine gate_dst (N := 1) rfl ?_); refine bx_ (N := 1) (cs := #[.string a0_0, .int .i64 a0_1, .int .i64 a0_2, .int .i64 a0_3, .int .i64 a0_4, .int .i64 a0_5, .int .i64 a0_6, .int .i64 a0_7, .int .i64 a0_8, .int .i64 a0_9, .int .i64 a0_10, .int .i64 a0_11, .int .i64 a0_12, .bool a0_13]) (t := 52) ?_; intro gb307 hg w31 hbox hb; have BK307 := Aside0.mk (hbox); have GW307 := Aside0.mk ((dS_ hg (dL_ HB) : w.heap.size ≤ gb307)); have GE307 := GW307; replace HB := Aside0.mk (below_step (dL_ HB) hb); clear hb hbox hg; obtain ⟨hcz32_0, hcz32_1, hcz32_2, hcz32_3, hcz32_4, hcz32_5, hcz32_6, hcz32_7, hcz32_8, hcz32_9, hcz32_10, hcz32_11, hcz32_12, hcz32_13, hfz32_0, hfz32_1, hfz32_2, hfz32_3, hfz32_4, hfz32_5, hfz32_6, hfz32_7, hfz32_8, hfz32_9, hfz32_10, hfz32_11, hfz32_12, hfz32_13⟩ := cs14_ BK307.out) | (go_at_call 56; (with_reducible refine (hinterlandref10_Named.calls k a0_0 true _ A2.out).mono ?_); rintro e w' ⟨rfl, ⟨nd, rfl⟩⟩) | (go_at_call 35; (with_reducible refine (hinterlandref14_within.calls a0_1 0 3 true _ A4.out).mono ?_); rintro e w' ⟨rfl, ⟨nd, rfl⟩⟩) | (go_at_call 35; (with_reducible refine (hinterlandref14_within.calls a0_2 0 600 true _ A6.out).mono ?_); rintro e w' ⟨rfl, ⟨nd, rfl⟩⟩) | (go_at_call 35; (with_reducible refine (hinterlandref14_within.calls a0_3 0 20000 true _ A8.out).mono ?_); rintro e w' ⟨rfl, ⟨nd, rfl⟩⟩) | (go_at_call 35; (with_reducible refine (hinterlandref14_within.calls a0_4 1 1000 true _ A10.out).mono ?_); rintro e w' ⟨rfl, ⟨nd, rfl⟩⟩) | (go_at_call 35; (with_reducible refine (hinterlandref14_within.calls a0_5 0 2000 true _ A12.out).mono ?_); rintro e w' ⟨rfl, ⟨nd, rfl⟩⟩) | (go_at_call 35; (with_reducible refine (hinterlandref14_within.calls a0_6 (-1) 15 true _ A14.out).mono ?_); rintro e w' ⟨rfl, ⟨nd, rfl⟩⟩) | (go_at_call 35; (with_reducible refine (hinterlandref14_within.calls a0_7 0 1000 true _ A16.out).mono ?_); rintro e w' ⟨rfl, ⟨nd, rfl⟩⟩) | (go_at_call 35; (with_reducible refine (hinterlandref14_within.calls a0_8 1 16 true _ A18.out).mono ?_); rintro e w' ⟨rfl, ⟨nd, rfl⟩⟩) | (go_at_call 35; (with_reducible refine (hinterlandref14_within.calls a0_9 0 10000000 true _ A20.out).mono ?_); rintro e w' ⟨rfl, ⟨nd, rfl⟩⟩) | (go_at_call 35; (with_reducible refine (hinterlandref14_within.calls a0_10 0 10000000 false _ A22.out).mono ?_); rintro e w' ⟨rfl, ⟨nd, rfl⟩⟩))
            go_ret
            exact ⟨tE_, dL1_ HB GE307⟩
          ·replace c21 := Bool.eq_false_iff.mpr c21; subst c21; rw [if_neg (show ¬ (false = true) by decide)] at H; obtain rfl := Option.some.inj H
           go_enter Try.func53, Try.ntmps53
           go_wp2_with (first | ((with_reducible refine gate_dst (N := 1) rfl ?_); refine bx_ (N := 1) (cs := #[.string a0_0, .int .i64 a0_1, .int .i64 a0_2, .int .i64 a0_3, .int .i64 a0_4, .int .i64 a0_5, .int .i64 a0_6, .int .i64 a0_7, .int .i64 a0_8, .int .i64 a0_9, .int .i64 a0_10, .int .i64 a0_11, .int .i64 a0_12, .bool a0_13]) (t := 52) ?_; intro gb307 hg w33 hbox hb; have BK307 := Aside0.mk (hbox); have GW307 := Aside0.mk ((dS_ hg (dL_ HB) : w.heap.size ≤ gb307)); have GE307 := GW307; replace HB := Aside0.mk (below_step (dL_ HB) hb); clear hb hbox hg; obtain ⟨hcz34_0, hcz34_1, hcz34_2, hcz34_3, hcz34_4, hcz34_5, hcz34_6, hcz34_7, hcz34_8, hcz34_9, hcz34_10, hcz34_11, hcz34_12, hcz34_13, hfz34_0, hfz34_1, hfz34_2, hfz34_3, hfz34_4, hfz34_5, hfz34_6, hfz34_7, hfz34_8, hfz34_9, hfz34_10, hfz34_11, hfz34_12, hfz34_13⟩ := cs14_ BK307.out) | (go_at_call 56; (with_reducible refine (hinterlandref10_Named.calls k a0_0 true _ A2.out).mono ?_); rintro e w' ⟨rfl, ⟨nd, rfl⟩⟩) | (go_at_call 35; (with_reducible refine (hinterlandref14_within.calls a0_1 0 3 true _ A4.out).mono ?_); rintro e w' ⟨rfl, ⟨nd, rfl⟩⟩) | (go_at_call 35; (with_reducible refine (hinterlandref14_within.calls a0_2 0 600 true _ A6.out).mono ?_); rintro e w' ⟨rfl, ⟨nd, rfl⟩⟩) | (go_at_call 35; (with_reducible refine (hinterlandref14_within.calls a0_3 0 20000 true _ A8.out).mono ?_); rintro e w' ⟨rfl, ⟨nd, rfl⟩⟩) | (go_at_call 35; (with_reducible refine (hinterlandref14_within.calls a0_4 1 1000 true _ A10.out).mono ?_); rintro e w' ⟨rfl, ⟨nd, rfl⟩⟩) | (go_at_call 35; (with_reducible refine (hinterlandref14_within.calls a0_5 0 2000 true _ A12.out).mono ?_); rintro e w' ⟨rfl, ⟨nd, rfl⟩⟩) | (go_at_call 35; (with_reducible refine (hinterlandref14_within.calls a0_6 (-1) 15 true _ A14.out).mono ?_); rintro e w' ⟨rfl, ⟨nd, rfl⟩⟩) | (go_at_call 35; (with_reducible refine (hinterlandref14_within.calls a0_7 0 1000 true _ A16.out).mono ?_); rintro e w' ⟨rfl, ⟨nd, rfl⟩⟩) | (go_at_call 35; (with_reducible refine (hinterlandref14_within.calls a0_8 1 16 true _ A18.out).mono ?_); rintro e w' ⟨rfl, ⟨nd, rfl⟩⟩) | (go_at_call 35; (with_reducible refine (hinterlandref14_within.calls a0_9 0 10000000 false _ A20.out).mono ?_); rintro e w' ⟨rfl, ⟨nd, rfl⟩⟩))
           go_ret
           exact ⟨tE_, dL1_ HB GE307⟩
         ·replace c19 := Bool.eq_false_iff.mpr c19; subst c19; rw [if_neg (show ¬ (false = true) by decide)] at H; obtain rfl := Option.some.inj H
          go_enter Try.func53, Try.ntmps53
          go_wp2_with (first | ((with_reducible refine gate_dst (N := 1) rfl ?_); refine bx_ (N := 1) (cs := #[.string a0_0, .int .i64 a0_1, .int .i64 a0_2, .int .i64 a0_3, .int .i64 a0_4, .int .i64 a0_5, .int .i64 a0_6, .int .i64 a0_7, .int .i64 a0_8, .int .i64 a0_9, .int .i64 a0_10, .int .i64 a0_11, .int .i64 a0_12, .bool a0_13]) (t := 52) ?_; intro gb307 hg w35 hbox hb; have BK307 := Aside0.mk (hbox); have GW307 := Aside0.mk ((dS_ hg (dL_ HB) : w.heap.size ≤ gb307)); have GE307 := GW307; replace HB := Aside0.mk (below_step (dL_ HB) hb); clear hb hbox hg; obtain ⟨hcz36_0, hcz36_1, hcz36_2, hcz36_3, hcz36_4, hcz36_5, hcz36_6, hcz36_7, hcz36_8, hcz36_9, hcz36_10, hcz36_11, hcz36_12, hcz36_13, hfz36_0, hfz36_1, hfz36_2, hfz36_3, hfz36_4, hfz36_5, hfz36_6, hfz36_7, hfz36_8, hfz36_9, hfz36_10, hfz36_11, hfz36_12, hfz36_13⟩ := cs14_ BK307.out) | (go_at_call 56; (with_reducible refine (hinterlandref10_Named.calls k a0_0 true _ A2.out).mono ?_); rintro e w' ⟨rfl, ⟨nd, rfl⟩⟩) | (go_at_call 35; (with_reducible refine (hinterlandref14_within.calls a0_1 0 3 true _ A4.out).mono ?_); rintro e w' ⟨rfl, ⟨nd, rfl⟩⟩) | (go_at_call 35; (with_reducible refine (hinterlandref14_within.calls a0_2 0 600 true _ A6.out).mono ?_); rintro e w' ⟨rfl, ⟨nd, rfl⟩⟩) | (go_at_call 35; (with_reducible refine (hinterlandref14_within.calls a0_3 0 20000 true _ A8.out).mono ?_); rintro e w' ⟨rfl, ⟨nd, rfl⟩⟩) | (go_at_call 35; (with_reducible refine (hinterlandref14_within.calls a0_4 1 1000 true _ A10.out).mono ?_); rintro e w' ⟨rfl, ⟨nd, rfl⟩⟩) | (go_at_call 35; (with_reducible refine (hinterlandref14_within.calls a0_5 0 2000 true _ A12.out).mono ?_); rintro e w' ⟨rfl, ⟨nd, rfl⟩⟩) | (go_at_call 35; (with_reducible refine (hinterlandref14_within.calls a0_6 (-1) 15 true _ A14.out).mono ?_); rintro e w' ⟨rfl, ⟨nd, rfl⟩⟩) | (go_at_call 35; (with_reducible refine (hinterlandref14_within.calls a0_7 0 1000 true _ A16.out).mono ?_); rintro e w' ⟨rfl, ⟨nd, rfl⟩⟩) | (go_at_call 35; (with_reducible refine (hinterlandref14_within.calls a0_8 1 16 false _ A18.out).mono ?_); rintro e w' ⟨rfl, ⟨nd, rfl⟩⟩))
          go_ret
          exact ⟨tE_, dL1_ HB GE307⟩
        ·replace c17 := Bool.eq_false_iff.mpr c17; subst c17; rw [if_neg (show ¬ (false = true) by decide)] at H; obtain rfl := Option.some.inj H
         go_enter Try.func53, Try.ntmps53
         go_wp2_with (first | ((with_reducible refine gate_dst (N := 1) rfl ?_); refine bx_ (N := 1) (cs := #[.string a0_0, .int .i64 a0_1, .int .i64 a0_2, .int .i64 a0_3, .int .i64 a0_4, .int .i64 a0_5, .int .i64 a0_6, .int .i64 a0_7, .int .i64 a0_8, .int .i64 a0_9, .int .i64 a0_10, .int .i64 a0_11, .int .i64 a0_12, .bool a0_13]) (t := 52) ?_; intro gb307 hg w37 hbox hb; have BK307 := Aside0.mk (hbox); have GW307 := Aside0.mk ((dS_ hg (dL_ HB) : w.heap.size ≤ gb307)); have GE307 := GW307; replace HB := Aside0.mk (below_step (dL_ HB) hb); clear hb hbox hg; obtain ⟨hcz38_0, hcz38_1, hcz38_2, hcz38_3, hcz38_4, hcz38_5, hcz38_6, hcz38_7, hcz38_8, hcz38_9, hcz38_10, hcz38_11, hcz38_12, hcz38_13, hfz38_0, hfz38_1, hfz38_2, hfz38_3, hfz38_4, hfz38_5, hfz38_6, hfz38_7, hfz38_8, hfz38_9, hfz38_10, hfz38_11, hfz38_12, hfz38_13⟩ := cs14_ BK307.out) | (go_at_call 56; (with_reducible refine (hinterlandref10_Named.calls k a0_0 true _ A2.out).mono ?_); rintro e w' ⟨rfl, ⟨nd, rfl⟩⟩) | (go_at_call 35; (with_reducible refine (hinterlandref14_within.calls a0_1 0 3 true _ A4.out).mono ?_); rintro e w' ⟨rfl, ⟨nd, rfl⟩⟩) | (go_at_call 35; (with_reducible refine (hinterlandref14_within.calls a0_2 0 600 true _ A6.out).mono ?_); rintro e w' ⟨rfl, ⟨nd, rfl⟩⟩) | (go_at_call 35; (with_reducible refine (hinterlandref14_within.calls a0_3 0 20000 true _ A8.out).mono ?_); rintro e w' ⟨rfl, ⟨nd, rfl⟩⟩) | (go_at_call 35; (with_reducible refine (hinterlandref14_within.calls a0_4 1 1000 true _ A10.out).mono ?_); rintro e w' ⟨rfl, ⟨nd, rfl⟩⟩) | (go_at_call 35; (with_reducible refine (hinterlandref14_within.calls a0_5 0 2000 true _ A12.out).mono ?_); rintro e w' ⟨rfl, ⟨nd, rfl⟩⟩) | (go_at_call 35; (with_reducible refine (hinterlandref14_within.calls a0_6 (-1) 15 true _ A14.out).mono ?_); rintro e w' ⟨rfl, ⟨nd, rfl⟩⟩) | (go_at_call 35; (with_reducible refine (hinterlandref14_within.calls a0_7 0 1000 false _ A16.out).mono ?_); rintro e w' ⟨rfl, ⟨nd, rfl⟩⟩))
         go_ret
         exact ⟨tE_, dL1_ HB GE307⟩
       ·replace c15 := Bool.eq_false_iff.mpr c15; subst c15; rw [if_neg (show ¬ (false = true) by decide)] at H; obtain rfl := Option.some.inj H
        go_enter Try.func53, Try.ntmps53
        go_wp2_with (first | ((with_reducible refine gate_dst (N := 1) rfl ?_); refine bx_ (N := 1) (cs := #[.string a0_0, .int .i64 a0_1, .int .i64 a0_2, .int .i64 a0_3, .int .i64 a0_4, .int .i64 a0_5, .int .i64 a0_6, .int .i64 a0_7, .int .i64 a0_8, .int .i64 a0_9, .int .i64 a0_10, .int .i64 a0_11, .int .i64 a0_12, .bool a0_13]) (t := 52) ?_; intro gb307 hg w39 hbox hb; have BK307 := Aside0.mk (hbox); have GW307 := Aside0.mk ((dS_ hg (dL_ HB) : w.heap.size ≤ gb307)); have GE307 := GW307; replace HB := Aside0.mk (below_step (dL_ HB) hb); clear hb hbox hg; obtain ⟨hcz40_0, hcz40_1, hcz40_2, hcz40_3, hcz40_4, hcz40_5, hcz40_6, hcz40_7, hcz40_8, hcz40_9, hcz40_10, hcz40_11, hcz40_12, hcz40_13, hfz40_0, hfz40_1, hfz40_2, hfz40_3, hfz40_4, hfz40_5, hfz40_6, hfz40_7, hfz40_8, hfz40_9, hfz40_10, hfz40_11, hfz40_12, hfz40_13⟩ := cs14_ BK307.out) | (go_at_call 56; (with_reducible refine (hinterlandref10_Named.calls k a0_0 true _ A2.out).mono ?_); rintro e w' ⟨rfl, ⟨nd, rfl⟩⟩) | (go_at_call 35; (with_reducible refine (hinterlandref14_within.calls a0_1 0 3 true _ A4.out).mono ?_); rintro e w' ⟨rfl, ⟨nd, rfl⟩⟩) | (go_at_call 35; (with_reducible refine (hinterlandref14_within.calls a0_2 0 600 true _ A6.out).mono ?_); rintro e w' ⟨rfl, ⟨nd, rfl⟩⟩) | (go_at_call 35; (with_reducible refine (hinterlandref14_within.calls a0_3 0 20000 true _ A8.out).mono ?_); rintro e w' ⟨rfl, ⟨nd, rfl⟩⟩) | (go_at_call 35; (with_reducible refine (hinterlandref14_within.calls a0_4 1 1000 true _ A10.out).mono ?_); rintro e w' ⟨rfl, ⟨nd, rfl⟩⟩) | (go_at_call 35; (with_reducible refine (hinterlandref14_within.calls a0_5 0 2000 true _ A12.out).mono ?_); rintro e w' ⟨rfl, ⟨nd, rfl⟩⟩) | (go_at_call 35; (with_reducible refine (hinterlandref14_within.calls a0_6 (-1) 15 false _ A14.out).mono ?_); rintro e w' ⟨rfl, ⟨nd, rfl⟩⟩))
        go_ret
        exact ⟨tE_, dL1_ HB GE307⟩
      ·replace c13 := Bool.eq_false_iff.mpr c13; subst c13; rw [if_neg (show ¬ (false = true) by decide)] at H; obtain rfl := Option.some.inj H
       go_enter Try.func53, Try.ntmps53
       go_wp2_with (first | ((with_reducible refine gate_dst (N := 1) rfl ?_); refine bx_ (N := 1) (cs := #[.string a0_0, .int .i64 a0_1, .int .i64 a0_2, .int .i64 a0_3, .int .i64 a0_4, .int .i64 a0_5, .int .i64 a0_6, .int .i64 a0_7, .int .i64 a0_8, .int .i64 a0_9, .int .i64 a0_10, .int .i64 a0_11, .int .i64 a0_12, .bool a0_13]) (t := 52) ?_; intro gb307 hg w41 hbox hb; have BK307 := Aside0.mk (hbox); have GW307 := Aside0.mk ((dS_ hg (dL_ HB) : w.heap.size ≤ gb307)); have GE307 := GW307; replace HB := Aside0.mk (below_step (dL_ HB) hb); clear hb hbox hg; obtain ⟨hcz42_0, hcz42_1, hcz42_2, hcz42_3, hcz42_4, hcz42_5, hcz42_6, hcz42_7, hcz42_8, hcz42_9, hcz42_10, hcz42_11, hcz42_12, hcz42_13, hfz42_0, hfz42_1, hfz42_2, hfz42_3, hfz42_4, hfz42_5, hfz42_6, hfz42_7, hfz42_8, hfz42_9, hfz42_10, hfz42_11, hfz42_12, hfz42_13⟩ := cs14_ BK307.out) | (go_at_call 56; (with_reducible refine (hinterlandref10_Named.calls k a0_0 true _ A2.out).mono ?_); rintro e w' ⟨rfl, ⟨nd, rfl⟩⟩) | (go_at_call 35; (with_reducible refine (hinterlandref14_within.calls a0_1 0 3 true _ A4.out).mono ?_); rintro e w' ⟨rfl, ⟨nd, rfl⟩⟩) | (go_at_call 35; (with_reducible refine (hinterlandref14_within.calls a0_2 0 600 true _ A6.out).mono ?_); rintro e w' ⟨rfl, ⟨nd, rfl⟩⟩) | (go_at_call 35; (with_reducible refine (hinterlandref14_within.calls a0_3 0 20000 true _ A8.out).mono ?_); rintro e w' ⟨rfl, ⟨nd, rfl⟩⟩) | (go_at_call 35; (with_reducible refine (hinterlandref14_within.calls a0_4 1 1000 true _ A10.out).mono ?_); rintro e w' ⟨rfl, ⟨nd, rfl⟩⟩) | (go_at_call 35; (with_reducible refine (hinterlandref14_within.calls a0_5 0 2000 false _ A12.out).mono ?_); rintro e w' ⟨rfl, ⟨nd, rfl⟩⟩))
       go_ret
       exact ⟨tE_, dL1_ HB GE307⟩
     ·replace c11 := Bool.eq_false_iff.mpr c11; subst c11; rw [if_neg (show ¬ (false = true) by decide)] at H; obtain rfl := Option.some.inj H
      go_enter Try.func53, Try.ntmps53
      go_wp2_with (first | ((with_reducible refine gate_dst (N := 1) rfl ?_); refine bx_ (N := 1) (cs := #[.string a0_0, .int .i64 a0_1, .int .i64 a0_2, .int .i64 a0_3, .int .i64 a0_4, .int .i64 a0_5, .int .i64 a0_6, .int .i64 a0_7, .int .i64 a0_8, .int .i64 a0_9, .int .i64 a0_10, .int .i64 a0_11, .int .i64 a0_12, .bool a0_13]) (t := 52) ?_; intro gb307 hg w43 hbox hb; have BK307 := Aside0.mk (hbox); have GW307 := Aside0.mk ((dS_ hg (dL_ HB) : w.heap.size ≤ gb307)); have GE307 := GW307; replace HB := Aside0.mk (below_step (dL_ HB) hb); clear hb hbox hg; obtain ⟨hcz44_0, hcz44_1, hcz44_2, hcz44_3, hcz44_4, hcz44_5, hcz44_6, hcz44_7, hcz44_8, hcz44_9, hcz44_10, hcz44_11, hcz44_12, hcz44_13, hfz44_0, hfz44_1, hfz44_2, hfz44_3, hfz44_4, hfz44_5, hfz44_6, hfz44_7, hfz44_8, hfz44_9, hfz44_10, hfz44_11, hfz44_12, hfz44_13⟩ := cs14_ BK307.out) | (go_at_call 56; (with_reducible refine (hinterlandref10_Named.calls k a0_0 true _ A2.out).mono ?_); rintro e w' ⟨rfl, ⟨nd, rfl⟩⟩) | (go_at_call 35; (with_reducible refine (hinterlandref14_within.calls a0_1 0 3 true _ A4.out).mono ?_); rintro e w' ⟨rfl, ⟨nd, rfl⟩⟩) | (go_at_call 35; (with_reducible refine (hinterlandref14_within.calls a0_2 0 600 true _ A6.out).mono ?_); rintro e w' ⟨rfl, ⟨nd, rfl⟩⟩) | (go_at_call 35; (with_reducible refine (hinterlandref14_within.calls a0_3 0 20000 true _ A8.out).mono ?_); rintro e w' ⟨rfl, ⟨nd, rfl⟩⟩) | (go_at_call 35; (with_reducible refine (hinterlandref14_within.calls a0_4 1 1000 false _ A10.out).mono ?_); rintro e w' ⟨rfl, ⟨nd, rfl⟩⟩))
      go_ret
      exact ⟨tE_, dL1_ HB GE307⟩
    ·replace c9 := Bool.eq_false_iff.mpr c9; subst c9; rw [if_neg (show ¬ (false = true) by decide)] at H; obtain rfl := Option.some.inj H
     go_enter Try.func53, Try.ntmps53
     go_wp2_with (first | ((with_reducible refine gate_dst (N := 1) rfl ?_); refine bx_ (N := 1) (cs := #[.string a0_0, .int .i64 a0_1, .int .i64 a0_2, .int .i64 a0_3, .int .i64 a0_4, .int .i64 a0_5, .int .i64 a0_6, .int .i64 a0_7, .int .i64 a0_8, .int .i64 a0_9, .int .i64 a0_10, .int .i64 a0_11, .int .i64 a0_12, .bool a0_13]) (t := 52) ?_; intro gb307 hg w45 hbox hb; have BK307 := Aside0.mk (hbox); have GW307 := Aside0.mk ((dS_ hg (dL_ HB) : w.heap.size ≤ gb307)); have GE307 := GW307; replace HB := Aside0.mk (below_step (dL_ HB) hb); clear hb hbox hg; obtain ⟨hcz46_0, hcz46_1, hcz46_2, hcz46_3, hcz46_4, hcz46_5, hcz46_6, hcz46_7, hcz46_8, hcz46_9, hcz46_10, hcz46_11, hcz46_12, hcz46_13, hfz46_0, hfz46_1, hfz46_2, hfz46_3, hfz46_4, hfz46_5, hfz46_6, hfz46_7, hfz46_8, hfz46_9, hfz46_10, hfz46_11, hfz46_12, hfz46_13⟩ := cs14_ BK307.out) | (go_at_call 56; (with_reducible refine (hinterlandref10_Named.calls k a0_0 true _ A2.out).mono ?_); rintro e w' ⟨rfl, ⟨nd, rfl⟩⟩) | (go_at_call 35; (with_reducible refine (hinterlandref14_within.calls a0_1 0 3 true _ A4.out).mono ?_); rintro e w' ⟨rfl, ⟨nd, rfl⟩⟩) | (go_at_call 35; (with_reducible refine (hinterlandref14_within.calls a0_2 0 600 true _ A6.out).mono ?_); rintro e w' ⟨rfl, ⟨nd, rfl⟩⟩) | (go_at_call 35; (with_reducible refine (hinterlandref14_within.calls a0_3 0 20000 false _ A8.out).mono ?_); rintro e w' ⟨rfl, ⟨nd, rfl⟩⟩))
     go_ret
     exact ⟨tE_, dL1_ HB GE307⟩
   ·replace c7 := Bool.eq_false_iff.mpr c7; subst c7; rw [if_neg (show ¬ (false = true) by decide)] at H; obtain rfl := Option.some.inj H
    go_enter Try.func53, Try.ntmps53
    go_wp2_with (first | ((with_reducible refine gate_dst (N := 1) rfl ?_); refine bx_ (N := 1) (cs := #[.string a0_0, .int .i64 a0_1, .int .i64 a0_2, .int .i64 a0_3, .int .i64 a0_4, .int .i64 a0_5, .int .i64 a0_6, .int .i64 a0_7, .int .i64 a0_8, .int .i64 a0_9, .int .i64 a0_10, .int .i64 a0_11, .int .i64 a0_12, .bool a0_13]) (t := 52) ?_; intro gb307 hg w47 hbox hb; have BK307 := Aside0.mk (hbox); have GW307 := Aside0.mk ((dS_ hg (dL_ HB) : w.heap.size ≤ gb307)); have GE307 := GW307; replace HB := Aside0.mk (below_step (dL_ HB) hb); clear hb hbox hg; obtain ⟨hcz48_0, hcz48_1, hcz48_2, hcz48_3, hcz48_4, hcz48_5, hcz48_6, hcz48_7, hcz48_8, hcz48_9, hcz48_10, hcz48_11, hcz48_12, hcz48_13, hfz48_0, hfz48_1, hfz48_2, hfz48_3, hfz48_4, hfz48_5, hfz48_6, hfz48_7, hfz48_8, hfz48_9, hfz48_10, hfz48_11, hfz48_12, hfz48_13⟩ := cs14_ BK307.out) | (go_at_call 56; (with_reducible refine (hinterlandref10_Named.calls k a0_0 true _ A2.out).mono ?_); rintro e w' ⟨rfl, ⟨nd, rfl⟩⟩) | (go_at_call 35; (with_reducible refine (hinterlandref14_within.calls a0_1 0 3 true _ A4.out).mono ?_); rintro e w' ⟨rfl, ⟨nd, rfl⟩⟩) | (go_at_call 35; (with_reducible refine (hinterlandref14_within.calls a0_2 0 600 false _ A6.out).mono ?_); rintro e w' ⟨rfl, ⟨nd, rfl⟩⟩))
    go_ret
    exact ⟨tE_, dL1_ HB GE307⟩
  ·replace c5 := Bool.eq_false_iff.mpr c5; subst c5; rw [if_neg (show ¬ (false = true) by decide)] at H; obtain rfl := Option.some.inj H
   go_enter Try.func53, Try.ntmps53
   go_wp2_with (first | ((with_reducible refine gate_dst (N := 1) rfl ?_); refine bx_ (N := 1) (cs := #[.string a0_0, .int .i64 a0_1, .int .i64 a0_2, .int .i64 a0_3, .int .i64 a0_4, .int .i64 a0_5, .int .i64 a0_6, .int .i64 a0_7, .int .i64 a0_8, .int .i64 a0_9, .int .i64 a0_10, .int .i64 a0_11, .int .i64 a0_12, .bool a0_13]) (t := 52) ?_; intro gb307 hg w49 hbox hb; have BK307 := Aside0.mk (hbox); have GW307 := Aside0.mk ((dS_ hg (dL_ HB) : w.heap.size ≤ gb307)); have GE307 := GW307; replace HB := Aside0.mk (below_step (dL_ HB) hb); clear hb hbox hg; obtain ⟨hcz50_0, hcz50_1, hcz50_2, hcz50_3, hcz50_4, hcz50_5, hcz50_6, hcz50_7, hcz50_8, hcz50_9, hcz50_10, hcz50_11, hcz50_12, hcz50_13, hfz50_0, hfz50_1, hfz50_2, hfz50_3, hfz50_4, hfz50_5, hfz50_6, hfz50_7, hfz50_8, hfz50_9, hfz50_10, hfz50_11, hfz50_12, hfz50_13⟩ := cs14_ BK307.out) | (go_at_call 56; (with_reducible refine (hinterlandref10_Named.calls k a0_0 true _ A2.out).mono ?_); rintro e w' ⟨rfl, ⟨nd, rfl⟩⟩) | (go_at_call 35; (with_reducible refine (hinterlandref14_within.calls a0_1 0 3 false _ A4.out).mono ?_); rintro e w' ⟨rfl, ⟨nd, rfl⟩⟩))
   go_ret
   exact ⟨tE_, dL1_ HB GE307⟩
 ·replace c3 := Bool.eq_false_iff.mpr c3; subst c3; rw [if_neg (show ¬ (false = true) by decide)] at H; obtain rfl := Option.some.inj H
  go_enter Try.func53, Try.ntmps53
  go_wp2_with (first | ((with_reducible refine gate_dst (N := 1) rfl ?_); refine bx_ (N := 1) (cs := #[.string a0_0, .int .i64 a0_1, .int .i64 a0_2, .int .i64 a0_3, .int .i64 a0_4, .int .i64 a0_5, .int .i64 a0_6, .int .i64 a0_7, .int .i64 a0_8, .int .i64 a0_9, .int .i64 a0_10, .int .i64 a0_11, .int .i64 a0_12, .bool a0_13]) (t := 52) ?_; intro gb307 hg w51 hbox hb; have BK307 := Aside0.mk (hbox); have GW307 := Aside0.mk ((dS_ hg (dL_ HB) : w.heap.size ≤ gb307)); have GE307 := GW307; replace HB := Aside0.mk (below_step (dL_ HB) hb); clear hb hbox hg; obtain ⟨hcz52_0, hcz52_1, hcz52_2, hcz52_3, hcz52_4, hcz52_5, hcz52_6, hcz52_7, hcz52_8, hcz52_9, hcz52_10, hcz52_11, hcz52_12, hcz52_13, hfz52_0, hfz52_1, hfz52_2, hfz52_3, hfz52_4, hfz52_5, hfz52_6, hfz52_7, hfz52_8, hfz52_9, hfz52_10, hfz52_11, hfz52_12, hfz52_13⟩ := cs14_ BK307.out) | (go_at_call 56; (with_reducible refine (hinterlandref10_Named.calls k a0_0 false _ A2.out).mono ?_); rintro e w' ⟨rfl, ⟨nd, rfl⟩⟩))
  go_ret
  exact ⟨tE_, dL1_ HB GE307⟩

end Go.Proofs.Ytgnahbjpockdmab.Q
namespace Go.Proofs.Ytgnahbjpockdmab.Q
open Go.RowKit Go.Proofs.YtgnahbjpockdmabPrs Go.Proofs.YtgnahbjpockdmabOwn Go.Proofs.YtgnahbjpockdmabW.PrintWords Go.Proofs.YtgnahbjpockdmabW.PrintLast Go.Proofs.YtgnahbjpockdmabW.PrintMore
attribute [local go_sem] max2_int min2_int max_two min_two max_three min_three max_four min_four   -- for this text's walks alone
set_option linter.unusedVariables false
set_option linter.unusedSimpArgs false

/-! ### hinterlandref14_ValidateModels: function 44 -/
mutual
def hinterlandref14_ValidateModels.l0 : Nat → List (S52) → List (S52) → Int → Int → Option (Int)
  | 0, _, _, _, _ => none
  | k + 1, x0, x12, x13, x14 => if x14 < x13 then (if 0 ≤ x14 then (if x14 < (x12.length : Int) then ((hinterlandref14_right.f k ((rd_T52 x12 x14).f0) ((rd_T52 x12 x14).f1) ((rd_T52 x12 x14).f2) ((rd_T52 x12 x14).f3) ((rd_T52 x12 x14).f4) ((rd_T52 x12 x14).f5) ((rd_T52 x12 x14).f6) ((rd_T52 x12 x14).f7) ((rd_T52 x12 x14).f8) ((rd_T52 x12 x14).f9) ((rd_T52 x12 x14).f10) ((rd_T52 x12 x14).f11) ((rd_T52 x12 x14).f12) ((rd_T52 x12 x14).f13)).bind fun t323 => (if t323 = true then (hinterlandref14_ValidateModels.l0 k x0 x12 x13 (wrap64 (x14 + 1))) else (some 1))) else (none)) else (none)) else (hinterlandref14_ValidateModels.l1 k x0 x0 (x0.length : Int) 0)
def hinterlandref14_ValidateModels.l1 : Nat → List (S52) → List (S52) → Int → Int → Option (Int)
  | 0, _, _, _, _ => none
  | k + 1, x0, x22, x23, x24 => if x24 < x23 then (if 0 ≤ x24 then (if x24 < (x22.length : Int) then (if x24 ≤ (x0.length : Int) then ((some (x0.take (x24 : Int).toNat : List (S52))).bind fun y326 => (hinterlandref14_ValidateModels.l2 k x0 x22 x23 x24 y326 (y326.length : Int) 0 ((rd_T52 x22 x24).f0) ((rd_T52 x22 x24).f1) ((rd_T52 x22 x24).f2) ((rd_T52 x22 x24).f3) ((rd_T52 x22 x24).f4) ((rd_T52 x22 x24).f5) ((rd_T52 x22 x24).f6) ((rd_T52 x22 x24).f7) ((rd_T52 x22 x24).f8) ((rd_T52 x22 x24).f9) ((rd_T52 x22 x24).f10) ((rd_T52 x22 x24).f11) ((rd_T52 x22 x24).f12) ((rd_T52 x22 x24).f13))) else (none)) else (none)) else (none)) else (some 0)
def hinterlandref14_ValidateModels.l2 : Nat → List (S52) → List (S52) → Int → Int → List (S52) → Int → Int → ByteArray → Int → Int → Int → Int → Int → Int → Int → Int → Int → Int → Int → Int → Bool → Option (Int)
  | 0, _, _, _, _, _, _, _, _, _, _, _, _, _, _, _, _, _, _, _, _, _ => none
  | k + 1, x0, x22, x23, x24, x31, x32, x33, x326000, x326001, x326002, x326003, x326004, x326005, x326006, x326007, x326008, x326009, x326010, x326011, x326012, x326013 => if x33 < x32 then (if 0 ≤ x33 then (if x33 < (x31.length : Int) then (if ((rd_T52 x31 x33).f0).toList = x326000.toList then (some 3) else (hinterlandref14_ValidateModels.l2 k x0 x22 x23 x24 x31 x32 (wrap64 (x33 + 1)) x326000 x326001 x326002 x326003 x326004 x326005 x326006 x326007 x326008 x326009 x326010 x326011 x326012 x326013)) else (none)) else (none)) else (hinterlandref14_ValidateModels.l1 k x0 x22 x23 (wrap64 (x24 + 1)))
end
def hinterlandref14_ValidateModels.f (k : Nat) (l0 : List (S52)) : Option (Int) := if (l0.length : Int) > 40 then (some 4) else (hinterlandref14_ValidateModels.l0 k l0 l0 (l0.length : Int) 0)
theorem hinterlandref14_ValidateModels.mono_l : ∀ k, (∀ y0 y1 y2 y3, LeO (hinterlandref14_ValidateModels.l0 k y0 y1 y2 y3) (hinterlandref14_ValidateModels.l0 (k + 1) y0 y1 y2 y3)) ∧ (∀ y0 y1 y2 y3, LeO (hinterlandref14_ValidateModels.l1 k y0 y1 y2 y3) (hinterlandref14_ValidateModels.l1 (k + 1) y0 y1 y2 y3)) ∧ (∀ y0 y1 y2 y3 y4 y5 y6 y7 y8 y9 y10 y11 y12 y13 y14 y15 y16 y17 y18 y19 y20, LeO (hinterlandref14_ValidateModels.l2 k y0 y1 y2 y3 y4 y5 y6 y7 y8 y9 y10 y11 y12 y13 y14 y15 y16 y17 y18 y19 y20) (hinterlandref14_ValidateModels.l2 (k + 1) y0 y1 y2 y3 y4 y5 y6 y7 y8 y9 y10 y11 y12 y13 y14 y15 y16 y17 y18 y19 y20))
  | 0 => ⟨fun _ _ _ _ r h => by simp [hinterlandref14_ValidateModels.l0] at h, fun _ _ _ _ r h => by simp [hinterlandref14_ValidateModels.l1] at h, fun _ _ _ _ _ _ _ _ _ _ _ _ _ _ _ _ _ _ _ _ _ r h => by simp [hinterlandref14_ValidateModels.l2] at h⟩
  | k + 1 => by
    obtain ⟨ih0, ih1, ih2⟩ := hinterlandref14_ValidateModels.mono_l k; refine ⟨?_, ?_, ?_⟩
    · intro y0 y1 y2 y3
      unfold hinterlandref14_ValidateModels.l0
      repeat' first
      | (with_reducible first | apply ih0 | apply ih1 | apply ih2 | apply hinterlandref14_right.mono | exact LeO.refl _ | exact LeO.none _ | refine LeO.ite ?_ ?_ | refine LeO.bind ?_ (fun _ => ?_))
    · intro y0 y1 y2 y3
      unfold hinterlandref14_ValidateModels.l1
      repeat' first
      | (with_reducible first | apply ih0 | apply ih1 | apply ih2 | apply hinterlandref14_right.mono | exact LeO.refl _ | exact LeO.none _ | refine LeO.ite ?_ ?_ | refine LeO.bind ?_ (fun _ => ?_))
    · intro y0 y1 y2 y3 y4 y5 y6 y7 y8 y9 y10 y11 y12 y13 y14 y15 y16 y17 y18 y19 y20
      unfold hinterlandref14_ValidateModels.l2
      repeat' first
      | (with_reducible first | apply ih0 | apply ih1 | apply ih2 | apply hinterlandref14_right.mono | exact LeO.refl _ | exact LeO.none _ | refine LeO.ite ?_ ?_ | refine LeO.bind ?_ (fun _ => ?_))
theorem hinterlandref14_ValidateModels.mono : ∀ a0 k, LeO (hinterlandref14_ValidateModels.f k a0) (hinterlandref14_ValidateModels.f (k + 1) a0) := by
  intro a0 k; obtain ⟨ih0, ih1, ih2⟩ := hinterlandref14_ValidateModels.mono_l k
  unfold hinterlandref14_ValidateModels.f
  repeat' first
      | (with_reducible first | apply ih0 | apply ih1 | apply ih2 | apply hinterlandref14_right.mono | exact LeO.refl _ | exact LeO.none _ | refine LeO.ite ?_ ?_ | refine LeO.bind ?_ (fun _ => ?_))
set_option maxHeartbeats 8000000 in
set_option maxRecDepth 100000 in
theorem hinterlandref14_ValidateModels.calls (k : Nat) (A0 : Option Addr) (c0 : Nat) (l0 : List (S52)) (r : Int) (w : World) (hr0 : Kd.C k52 w A0 l0.length l0) (hc0 : l0.length ≤ c0) (h : hinterlandref14_ValidateModels.f k l0 = some r) :
    Calls Try.prog 44 #[.slice A0 l0.length c0] w fun e w' => e = .returned (.int .i64 r) ∧ Below w.heap.size w w' := by
 have hu52 := Try.underlying52; have HR0 := Aside0.mk hr0; have HC0 := Aside0.mk hc0; clear hr0 hc0; have HB := Aside0.mk (Below.refl w.heap.size w); have H : (if (l0.length : Int) > 40 then (some 4) else (hinterlandref14_ValidateModels.l0 k l0 l0 (l0.length : Int) 0)) = some r := h; clear h
 by_cases c2 : (l0.length : Int) > 40
 ·rw [if_pos c2] at H; have c2b0 : decide (40 < (l0.length : Int)) = true := decide_eq_true c2; have c2b1 : decide (40 < l0.length) = true := decide_eq_true (by omega); clear c2; obtain rfl := Option.some.inj H
  go_enter Try.func44, Try.ntmps44
  go_wp2
  go_ret
  exact ⟨tE_, dL_ HB⟩
 ·rw [if_neg c2] at H; have c2b0 : decide (40 < (l0.length : Int)) = false := decide_eq_false c2; have c2b1 : decide (40 < l0.length) = false := decide_eq_false (by omega); clear c2; have H' := Aside0.mk H; clear H
  go_enter Try.func44, Try.ntmps44
  go_wp2
  go_loopg [14] k (fun kq v14 w' => ∃ (x14_1 : Int), v14 = .int .i64 x14_1 ∧ Aside0 (hinterlandref14_ValidateModels.l0 kq l0 l0 (l0.length : Int) x14_1 = some r) ∧ Aside0 (kq ≤ k) ∧ Aside0 (Below w.heap.size w w'))
  case atStart => exact ⟨(0), tS_, H', ⟨Nat.le_refl _⟩, ⟨dL_ HB⟩⟩
  case round =>
   clear H'; (try clear c2); (try clear c2b0); (try clear c2b1); obtain ⟨x14_1, rfl, HA, HK1, HB⟩ := hrel
   cases gk with
   | zero => exact absurd HA.out (by simp [hinterlandref14_ValidateModels.l0])
   | succ k1 =>
    have H := HA.out; clear HA; simp only [hinterlandref14_ValidateModels.l0] at H
    by_cases c3 : x14_1 < (l0.length : Int)
    ·rw [if_pos c3] at H; have c3b0 : decide (x14_1 < (l0.length : Int)) = true := decide_eq_true c3; clear c3
     by_cases c4 : 0 ≤ x14_1
     ·rw [if_pos c4] at H; have c4b0 : decide (0 ≤ x14_1) = true := decide_eq_true c4; clear c4
      by_cases c5 : x14_1 < (l0.length : Int)
      ·rw [if_pos c5] at H; have c5b0 : decide (x14_1 < (l0.length : Int)) = true := decide_eq_true c5; clear c5; replace H := Option.bind_eq_some_iff.mp H; obtain ⟨t323, A60, H⟩ := H; have A6 := Aside0.mk A60; clear A60
       by_cases c7 : t323 = true
       ·subst c7; rw [if_pos rfl] at H; have H' := Aside0.mk H; clear H; have p321 : 0 ≤ (x14_1 : Int) := of_decide_eq_true tW_; have q321 : x14_1 < (l0.length : Int) := of_decide_eq_true tW_; obtain ⟨ad321, e321, hx321_0, hx321_1, hx321_2, hx321_3, hx321_4, hx321_5, hx321_6, hx321_7, hx321_8, hx321_9, hx321_10, hx321_11, hx321_12, hx321_13⟩ := at_T52 HR0.out x14_1 p321 q321; cases e321; replace hx321_0 := bc_ HB hx321_0; replace hx321_1 := bc_ HB hx321_1; replace hx321_2 := bc_ HB hx321_2; replace hx321_3 := bc_ HB hx321_3; replace hx321_4 := bc_ HB hx321_4; replace hx321_5 := bc_ HB hx321_5; replace hx321_6 := bc_ HB hx321_6; replace hx321_7 := bc_ HB hx321_7; replace hx321_8 := bc_ HB hx321_8; replace hx321_9 := bc_ HB hx321_9; replace hx321_10 := bc_ HB hx321_10; replace hx321_11 := bc_ HB hx321_11; replace hx321_12 := bc_ HB hx321_12; replace hx321_13 := bc_ HB hx321_13; replace p321 := eq_true p321; replace q321 := eq_true q321
        go_wp2_with (first | ((with_reducible refine gate_dst (N := 4) rfl ?_); refine bx_ (N := 4) (cs := #[.string (⟨#[]⟩ : ByteArray), .int .i64 0, .int .i64 0, .int .i64 0, .int .i64 0, .int .i64 0, .int .i64 0, .int .i64 0, .int .i64 0, .int .i64 0, .int .i64 0, .int .i64 0, .int .i64 0, .bool false]) (t := 52) ?_; intro gb322 hg w8 hbox hb; have BK322 := Aside0.mk (hbox); have GW322 := Aside0.mk ((dS_ hg (dL_ HB) : w.heap.size ≤ gb322)); have GE322 := GW322; replace HB := Aside0.mk (below_step (dL_ HB) hb); clear hb hbox hg; obtain ⟨hcz9_0, hcz9_1, hcz9_2, hcz9_3, hcz9_4, hcz9_5, hcz9_6, hcz9_7, hcz9_8, hcz9_9, hcz9_10, hcz9_11, hcz9_12, hcz9_13, hfz9_0, hfz9_1, hfz9_2, hfz9_3, hfz9_4, hfz9_5, hfz9_6, hfz9_7, hfz9_8, hfz9_9, hfz9_10, hfz9_11, hfz9_12, hfz9_13⟩ := cs14_ BK322.out) | ((with_reducible refine gate_callee (f := 53) rfl ?_); refine gL_ (some 19) Try.func53 #[.agg #[.string ((rd_T52 l0 x14_1).f0), .int .i64 ((rd_T52 l0 x14_1).f1), .int .i64 ((rd_T52 l0 x14_1).f2), .int .i64 ((rd_T52 l0 x14_1).f3), .int .i64 ((rd_T52 l0 x14_1).f4), .int .i64 ((rd_T52 l0 x14_1).f5), .int .i64 ((rd_T52 l0 x14_1).f6), .int .i64 ((rd_T52 l0 x14_1).f7), .int .i64 ((rd_T52 l0 x14_1).f8), .int .i64 ((rd_T52 l0 x14_1).f9), .int .i64 ((rd_T52 l0 x14_1).f10), .int .i64 ((rd_T52 l0 x14_1).f11), .int .i64 ((rd_T52 l0 x14_1).f12), .bool ((rd_T52 l0 x14_1).f13)]] ?_ rfl; (with_reducible refine (hinterlandref14_right.calls k1 ((rd_T52 l0 x14_1).f0) ((rd_T52 l0 x14_1).f1) ((rd_T52 l0 x14_1).f2) ((rd_T52 l0 x14_1).f3) ((rd_T52 l0 x14_1).f4) ((rd_T52 l0 x14_1).f5) ((rd_T52 l0 x14_1).f6) ((rd_T52 l0 x14_1).f7) ((rd_T52 l0 x14_1).f8) ((rd_T52 l0 x14_1).f9) ((rd_T52 l0 x14_1).f10) ((rd_T52 l0 x14_1).f11) ((rd_T52 l0 x14_1).f12) ((rd_T52 l0 x14_1).f13) true _ A6.out).mono ?_); rintro e w10 ⟨rfl, hb⟩; refine ⟨_, rfl, ?_⟩; replace BK322 := Aside0.mk (blk_below (g := gb322) (o := .cells #[.string ((rd_T52 l0 x14_1).f0), .int .i64 ((rd_T52 l0 x14_1).f1), .int .i64 ((rd_T52 l0 x14_1).f2), .int .i64 ((rd_T52 l0 x14_1).f3), .int .i64 ((rd_T52 l0 x14_1).f4), .int .i64 ((rd_T52 l0 x14_1).f5), .int .i64 ((rd_T52 l0 x14_1).f6), .int .i64 ((rd_T52 l0 x14_1).f7), .int .i64 ((rd_T52 l0 x14_1).f8), .int .i64 ((rd_T52 l0 x14_1).f9), .int .i64 ((rd_T52 l0 x14_1).f10), .int .i64 ((rd_T52 l0 x14_1).f11), .int .i64 ((rd_T52 l0 x14_1).f12), .bool ((rd_T52 l0 x14_1).f13)] 52 (0, 0)) (dP14_ BK322) hb); replace HB := Aside0.mk (below_step (dL1_ HB GE322) hb)))
        go_roundg k1
        case measure => have := HK1.out; omega
        case rel => exact ⟨(wrap64 (x14_1 + 1)), tS_, H', ⟨by have := HK1.out; omega⟩, ⟨dL1_ HB GE322⟩⟩
       ·replace c7 := Bool.eq_false_iff.mpr c7; subst c7; rw [if_neg (show ¬ (false = true) by decide)] at H; obtain rfl := Option.some.inj H; have p321 : 0 ≤ (x14_1 : Int) := of_decide_eq_true tW_; have q321 : x14_1 < (l0.length : Int) := of_decide_eq_true tW_; obtain ⟨ad321, e321, hx321_0, hx321_1, hx321_2, hx321_3, hx321_4, hx321_5, hx321_6, hx321_7, hx321_8, hx321_9, hx321_10, hx321_11, hx321_12, hx321_13⟩ := at_T52 HR0.out x14_1 p321 q321; cases e321; replace hx321_0 := bc_ HB hx321_0; replace hx321_1 := bc_ HB hx321_1; replace hx321_2 := bc_ HB hx321_2; replace hx321_3 := bc_ HB hx321_3; replace hx321_4 := bc_ HB hx321_4; replace hx321_5 := bc_ HB hx321_5; replace hx321_6 := bc_ HB hx321_6; replace hx321_7 := bc_ HB hx321_7; replace hx321_8 := bc_ HB hx321_8; replace hx321_9 := bc_ HB hx321_9; replace hx321_10 := bc_ HB hx321_10; replace hx321_11 := bc_ HB hx321_11; replace hx321_12 := bc_ HB hx321_12; replace hx321_13 := bc_ HB hx321_13; replace p321 := eq_true p321; replace q321 := eq_true q321
        go_wp2_with (first | ((with_reducible refine gate_dst (N := 4) rfl ?_); refine bx_ (N := 4) (cs := #[.string (⟨#[]⟩ : ByteArray), .int .i64 0, .int .i64 0, .int .i64 0, .int .i64 0, .int .i64 0, .int .i64 0, .int .i64 0, .int .i64 0, .int .i64 0, .int .i64 0, .int .i64 0, .int .i64 0, .bool false]) (t := 52) ?_; intro gb322 hg w11 hbox hb; have BK322 := Aside0.mk (hbox); have GW322 := Aside0.mk ((dS_ hg (dL_ HB) : w.heap.size ≤ gb322)); have GE322 := GW322; replace HB := Aside0.mk (below_step (dL_ HB) hb); clear hb hbox hg; obtain ⟨hcz12_0, hcz12_1, hcz12_2, hcz12_3, hcz12_4, hcz12_5, hcz12_6, hcz12_7, hcz12_8, hcz12_9, hcz12_10, hcz12_11, hcz12_12, hcz12_13, hfz12_0, hfz12_1, hfz12_2, hfz12_3, hfz12_4, hfz12_5, hfz12_6, hfz12_7, hfz12_8, hfz12_9, hfz12_10, hfz12_11, hfz12_12, hfz12_13⟩ := cs14_ BK322.out) | ((with_reducible refine gate_callee (f := 53) rfl ?_); refine gL_ (some 19) Try.func53 #[.agg #[.string ((rd_T52 l0 x14_1).f0), .int .i64 ((rd_T52 l0 x14_1).f1), .int .i64 ((rd_T52 l0 x14_1).f2), .int .i64 ((rd_T52 l0 x14_1).f3), .int .i64 ((rd_T52 l0 x14_1).f4), .int .i64 ((rd_T52 l0 x14_1).f5), .int .i64 ((rd_T52 l0 x14_1).f6), .int .i64 ((rd_T52 l0 x14_1).f7), .int .i64 ((rd_T52 l0 x14_1).f8), .int .i64 ((rd_T52 l0 x14_1).f9), .int .i64 ((rd_T52 l0 x14_1).f10), .int .i64 ((rd_T52 l0 x14_1).f11), .int .i64 ((rd_T52 l0 x14_1).f12), .bool ((rd_T52 l0 x14_1).f13)]] ?_ rfl; (with_reducible refine (hinterlandref14_right.calls k1 ((rd_T52 l0 x14_1).f0) ((rd_T52 l0 x14_1).f1) ((rd_T52 l0 x14_1).f2) ((rd_T52 l0 x14_1).f3) ((rd_T52 l0 x14_1).f4) ((rd_T52 l0 x14_1).f5) ((rd_T52 l0 x14_1).f6) ((rd_T52 l0 x14_1).f7) ((rd_T52 l0 x14_1).f8) ((rd_T52 l0 x14_1).f9) ((rd_T52 l0 x14_1).f10) ((rd_T52 l0 x14_1).f11) ((rd_T52 l0 x14_1).f12) ((rd_T52 l0 x14_1).f13) false _ A6.out).mono ?_); rintro e w13 ⟨rfl, hb⟩; refine ⟨_, rfl, ?_⟩; replace BK322 := Aside0.mk (blk_below (g := gb322) (o := .cells #[.string ((rd_T52 l0 x14_1).f0), .int .i64 ((rd_T52 l0 x14_1).f1), .int .i64 ((rd_T52 l0 x14_1).f2), .int .i64 ((rd_T52 l0 x14_1).f3), .int .i64 ((rd_T52 l0 x14_1).f4), .int .i64 ((rd_T52 l0 x14_1).f5), .int .i64 ((rd_T52 l0 x14_1).f6), .int .i64 ((rd_T52 l0 x14_1).f7), .int .i64 ((rd_T52 l0 x14_1).f8), .int .i64 ((rd_T52 l0 x14_1).f9), .int .i64 ((rd_T52 l0 x14_1).f10), .int .i64 ((rd_T52 l0 x14_1).f11), .int .i64 ((rd_T52 l0 x14_1).f12), .bool ((rd_T52 l0 x14_1).f13)] 52 (0, 0)) (dP14_ BK322) hb); replace HB := Aside0.mk (below_step (dL1_ HB GE322) hb)))
        go_ret
        exact ⟨tE_, dL1_ HB GE322⟩
      ·rw [if_neg c5] at H; exact absurd H (by simp)
     ·rw [if_neg c4] at H; exact absurd H (by simp)
    ·rw [if_neg c3] at H; have c3b0 : decide (x14_1 < (l0.length : Int)) = false := decide_eq_false c3; clear c3; have H' := Aside0.mk H; clear H; go_wp2
     go_loopg [24] k1 (fun kq v24 w' => ∃ (x24_2 : Int), v24 = .int .i64 x24_2 ∧ Aside0 (hinterlandref14_ValidateModels.l1 kq l0 l0 (l0.length : Int) x24_2 = some r) ∧ Aside0 (kq ≤ k1) ∧ Aside0 (Below w.heap.size w w'))
     case atStart => exact ⟨(0), tS_, H', ⟨Nat.le_refl _⟩, ⟨dL_ HB⟩⟩
     case round =>
      clear H'; (try clear c2); (try clear c2b0); (try clear c2b1); (try clear c3); (try clear c3b0); (try clear c4); (try clear c5); obtain ⟨x24_2, rfl, HA, HK2, HB⟩ := hrel
      cases gk with
      | zero => exact absurd HA.out (by simp [hinterlandref14_ValidateModels.l1])
      | succ k2 =>
       have H := HA.out; clear HA; simp only [hinterlandref14_ValidateModels.l1] at H
       by_cases c14 : x24_2 < (l0.length : Int)
       ·rw [if_pos c14] at H; have c14b0 : decide (x24_2 < (l0.length : Int)) = true := decide_eq_true c14; clear c14
        by_cases c15 : 0 ≤ x24_2
        ·rw [if_pos c15] at H; have c15b0 : decide (0 ≤ x24_2) = true := decide_eq_true c15; clear c15
         by_cases c16 : x24_2 < (l0.length : Int)
         ·rw [if_pos c16] at H; have c16b0 : decide (x24_2 < (l0.length : Int)) = true := decide_eq_true c16; clear c16; have c17b0 := eq_true (of_decide_eq_true tW_ : 0 ≤ x24_2)
          by_cases c18 : x24_2 ≤ (l0.length : Int)
          ·rw [if_pos c18] at H; have c18b0 := eq_true c18; have c18b1 : decide (x24_2 ≤ (l0.length : Int)) = true := decide_eq_true c18; clear c18; obtain ⟨y326, hy326⟩ : ∃ y_ : List (S52), y_ = (l0.take (x24_2 : Int).toNat) := ⟨_, rfl⟩; replace H : (hinterlandref14_ValidateModels.l2 k2 l0 l0 (l0.length : Int) x24_2 y326 (y326.length : Int) 0 ((rd_T52 l0 x24_2).f0) ((rd_T52 l0 x24_2).f1) ((rd_T52 l0 x24_2).f2) ((rd_T52 l0 x24_2).f3) ((rd_T52 l0 x24_2).f4) ((rd_T52 l0 x24_2).f5) ((rd_T52 l0 x24_2).f6) ((rd_T52 l0 x24_2).f7) ((rd_T52 l0 x24_2).f8) ((rd_T52 l0 x24_2).f9) ((rd_T52 l0 x24_2).f10) ((rd_T52 l0 x24_2).f11) ((rd_T52 l0 x24_2).f12) ((rd_T52 l0 x24_2).f13)) = some r := by first | (rw [hy326]; with_reducible exact H) | (have H2_ := (Option.bind_some _ _).symm.trans H; rw [hy326]; with_reducible exact H2_) | (have H2_ := (Option.bind_some _ _).symm.trans H; with_reducible exact H2_) | with_reducible exact H | (rw [hy326]; exact H) | exact H
           have Ny326 := Aside0.mk hy326; clear hy326; have H' := Aside0.mk H; clear H; have p324 : 0 ≤ (x24_2 : Int) := of_decide_eq_true tW_; have q324 : x24_2 < (l0.length : Int) := of_decide_eq_true tW_; obtain ⟨ad324, e324, hx324_0, hx324_1, hx324_2, hx324_3, hx324_4, hx324_5, hx324_6, hx324_7, hx324_8, hx324_9, hx324_10, hx324_11, hx324_12, hx324_13⟩ := at_T52 HR0.out x24_2 p324 q324; cases e324; replace hx324_0 := bc_ HB hx324_0; replace hx324_1 := bc_ HB hx324_1; replace hx324_2 := bc_ HB hx324_2; replace hx324_3 := bc_ HB hx324_3; replace hx324_4 := bc_ HB hx324_4; replace hx324_5 := bc_ HB hx324_5; replace hx324_6 := bc_ HB hx324_6; replace hx324_7 := bc_ HB hx324_7; replace hx324_8 := bc_ HB hx324_8; replace hx324_9 := bc_ HB hx324_9; replace hx324_10 := bc_ HB hx324_10; replace hx324_11 := bc_ HB hx324_11; replace hx324_12 := bc_ HB hx324_12; replace hx324_13 := bc_ HB hx324_13; replace p324 := eq_true p324; replace q324 := eq_true q324
           go_wp2_with (first | ((with_reducible refine gate_dst (N := 6) rfl ?_); refine bx_ (N := 6) (cs := #[.string (⟨#[]⟩ : ByteArray), .int .i64 0, .int .i64 0, .int .i64 0, .int .i64 0, .int .i64 0, .int .i64 0, .int .i64 0, .int .i64 0, .int .i64 0, .int .i64 0, .int .i64 0, .int .i64 0, .bool false]) (t := 52) ?_; intro gb325 hg w19 hbox hb; have BK325 := Aside0.mk (hbox); have GW325 := Aside0.mk ((dS_ hg (dL_ HB) : w.heap.size ≤ gb325)); have GE325 := GW325; replace HB := Aside0.mk (below_step (dL_ HB) hb); clear hb hbox hg; obtain ⟨hcz20_0, hcz20_1, hcz20_2, hcz20_3, hcz20_4, hcz20_5, hcz20_6, hcz20_7, hcz20_8, hcz20_9, hcz20_10, hcz20_11, hcz20_12, hcz20_13, hfz20_0, hfz20_1, hfz20_2, hfz20_3, hfz20_4, hfz20_5, hfz20_6, hfz20_7, hfz20_8, hfz20_9, hfz20_10, hfz20_11, hfz20_12, hfz20_13⟩ := cs14_ BK325.out) | ((with_reducible refine gate_store (t := 52) (p := 6) rfl ?_); refine store_event (t := 52) (p := 6) (v := ?vo_w21) (w1 := ((((((((((((((w19.setCell ⟨gb325, 0, none⟩ (.string ((rd_T52 l0 x24_2).f0))).setCell ⟨gb325, 1, none⟩ (.int .i64 ((rd_T52 l0 x24_2).f1))).setCell ⟨gb325, 2, none⟩ (.int .i64 ((rd_T52 l0 x24_2).f2))).setCell ⟨gb325, 3, none⟩ (.int .i64 ((rd_T52 l0 x24_2).f3))).setCell ⟨gb325, 4, none⟩ (.int .i64 ((rd_T52 l0 x24_2).f4))).setCell ⟨gb325, 5, none⟩ (.int .i64 ((rd_T52 l0 x24_2).f5))).setCell ⟨gb325, 6, none⟩ (.int .i64 ((rd_T52 l0 x24_2).f6))).setCell ⟨gb325, 7, none⟩ (.int .i64 ((rd_T52 l0 x24_2).f7))).setCell ⟨gb325, 8, none⟩ (.int .i64 ((rd_T52 l0 x24_2).f8))).setCell ⟨gb325, 9, none⟩ (.int .i64 ((rd_T52 l0 x24_2).f9))).setCell ⟨gb325, 10, none⟩ (.int .i64 ((rd_T52 l0 x24_2).f10))).setCell ⟨gb325, 11, none⟩ (.int .i64 ((rd_T52 l0 x24_2).f11))).setCell ⟨gb325, 12, none⟩ (.int .i64 ((rd_T52 l0 x24_2).f12))).setCell ⟨gb325, 13, none⟩ (.bool ((rd_T52 l0 x24_2).f13)))) ?hg ?ho ?hn ?hr ?_; (case ho => rfl); (case hg => rfl); (case hn => rfl); (case hr => first | (go_simp; done) | (go_simp; rfl)); intro w21 hw; have n0_ : Aside0 (w21.heap[gb325]? = some (.cells #[.string ((rd_T52 l0 x24_2).f0), .int .i64 ((rd_T52 l0 x24_2).f1), .int .i64 ((rd_T52 l0 x24_2).f2), .int .i64 ((rd_T52 l0 x24_2).f3), .int .i64 ((rd_T52 l0 x24_2).f4), .int .i64 ((rd_T52 l0 x24_2).f5), .int .i64 ((rd_T52 l0 x24_2).f6), .int .i64 ((rd_T52 l0 x24_2).f7), .int .i64 ((rd_T52 l0 x24_2).f8), .int .i64 ((rd_T52 l0 x24_2).f9), .int .i64 ((rd_T52 l0 x24_2).f10), .int .i64 ((rd_T52 l0 x24_2).f11), .int .i64 ((rd_T52 l0 x24_2).f12), .bool ((rd_T52 l0 x24_2).f13)] 52 (0, 0))) := ⟨(by rw [hw]; exact (dP14_ BK325))⟩; have n1_ : Aside0 (Below w.heap.size w w21) := ⟨(by rw [hw]; exact (dL1_ HB GE325))⟩; clear hw; clear BK325; clear HB; have BK325 := n0_; have HB := n1_; clear n0_ n1_; have q22 : (x24_2 : Int) ≤ ((l0.length : Int) : Int) := of_decide_eq_true tW_; obtain ⟨i022, hi022, _, hsz22, _⟩ := info_parts info52; have hroom22 : l0.length ≤ c0 := HC0.out; have hC22 : Kd.C k52 _ (some ad324) l0.length l0 := HR0.out; have hcut22 := cut_to (P := Try.prog) 22 52 .i64 Try.underlying22 hi022 (some ad324) l0.length c0 x24_2 (of_decide_eq_true tW_) q22 hroom22; have hr22 := Kd.C_take (m := (x24_2 : Int).toNat) hC22 (by omega); have hy22 : y326.length = (x24_2 : Int).toNat := (by rw [Ny326.out, List.length_take]; omega); rw [← Ny326.out] at hr22; rw [← hy22] at hcut22; have HR329 := Aside0.mk hr22; have HC329 := Aside0.mk (show y326.length ≤ c0 from by omega); clear hr22 hC22 hroom22 hi022 hsz22; have KY22 := Aside0.mk hy22; clear hy22; replace q22 := eq_true q22))
           go_loopg [33] k2 (fun kq v33 w' => ∃ (x33_3 : Int), v33 = .int .i64 x33_3 ∧ Aside0 (hinterlandref14_ValidateModels.l2 kq l0 l0 (l0.length : Int) x24_2 y326 (y326.length : Int) x33_3 ((rd_T52 l0 x24_2).f0) ((rd_T52 l0 x24_2).f1) ((rd_T52 l0 x24_2).f2) ((rd_T52 l0 x24_2).f3) ((rd_T52 l0 x24_2).f4) ((rd_T52 l0 x24_2).f5) ((rd_T52 l0 x24_2).f6) ((rd_T52 l0 x24_2).f7) ((rd_T52 l0 x24_2).f8) ((rd_T52 l0 x24_2).f9) ((rd_T52 l0 x24_2).f10) ((rd_T52 l0 x24_2).f11) ((rd_T52 l0 x24_2).f12) ((rd_T52 l0 x24_2).f13) = some r) ∧ Aside0 (kq ≤ k2) ∧ Aside0 (w'.heap[gb325]? = some (.cells #[.string ((rd_T52 l0 x24_2).f0), .int .i64 ((rd_T52 l0 x24_2).f1), .int .i64 ((rd_T52 l0 x24_2).f2), .int .i64 ((rd_T52 l0 x24_2).f3), .int .i64 ((rd_T52 l0 x24_2).f4), .int .i64 ((rd_T52 l0 x24_2).f5), .int .i64 ((rd_T52 l0 x24_2).f6), .int .i64 ((rd_T52 l0 x24_2).f7), .int .i64 ((rd_T52 l0 x24_2).f8), .int .i64 ((rd_T52 l0 x24_2).f9), .int .i64 ((rd_T52 l0 x24_2).f10), .int .i64 ((rd_T52 l0 x24_2).f11), .int .i64 ((rd_T52 l0 x24_2).f12), .bool ((rd_T52 l0 x24_2).f13)] 52 (0, 0))) ∧ Aside0 (Below w.heap.size w w'))
           case atStart => exact ⟨(0), tS_, H', ⟨Nat.le_refl _⟩, ⟨dB_ BK325⟩, ⟨dL1_ HB GE325⟩⟩
           case round =>
            clear H'; (try clear c2); (try clear c2b0); (try clear c2b1); (try clear c3); (try clear c3b0); (try clear c4); (try clear c5); (try clear c14); (try clear c14b0); (try clear c15); (try clear c15b0); (try clear c16); (try clear c16b0); (try clear c17b0); (try clear c18); (try clear c18b0); (try clear c18b1); (try clear q22); (try clear hcz20_0 hcz20_1 hcz20_10 hcz20_11 hcz20_12 hcz20_13 hcz20_2 hcz20_3 hcz20_4 hcz20_5 hcz20_6 hcz20_7 hcz20_8 hcz20_9 hfz20_0 hfz20_1 hfz20_10 hfz20_11 hfz20_12 hfz20_13 hfz20_2 hfz20_3 hfz20_4 hfz20_5 hfz20_6 hfz20_7 hfz20_8 hfz20_9); (try clear hx324_0); (try clear hx324_1); (try clear hx324_10); (try clear hx324_11); (try clear hx324_12); (try clear hx324_13); (try clear hx324_2); (try clear hx324_3); (try clear hx324_4); (try clear hx324_5); (try clear hx324_6); (try clear hx324_7); (try clear hx324_8); (try clear hx324_9); (try clear p324); (try clear q22); (try clear q324); obtain ⟨x33_3, rfl, HA, HK3, BK325, HB⟩ := hrel
            cases gk with
            | zero => exact absurd HA.out (by simp [hinterlandref14_ValidateModels.l2])
            | succ k3 =>
             have H := HA.out; clear HA; simp only [hinterlandref14_ValidateModels.l2] at H
             by_cases c23 : x33_3 < (y326.length : Int)
             ·rw [if_pos c23] at H; have c23b0 : decide (x33_3 < (y326.length : Int)) = true := decide_eq_true c23; clear c23
              by_cases c24 : 0 ≤ x33_3
              ·rw [if_pos c24] at H; have c24b0 : decide (0 ≤ x33_3) = true := decide_eq_true c24; clear c24
               by_cases c25 : x33_3 < (y326.length : Int)
               ·rw [if_pos c25] at H; have c25b0 : decide (x33_3 < (y326.length : Int)) = true := decide_eq_true c25; clear c25
                by_cases c26 : ((rd_T52 y326 x33_3).f0).toList = ((rd_T52 l0 x24_2).f0).toList
                ·rw [if_pos c26] at H; have c26b0 : (((rd_T52 y326 x33_3).f0).toList == ((rd_T52 l0 x24_2).f0).toList) = true := beq_iff_eq.mpr c26; have c26b1 : (((rd_T52 y326 x33_3).f0).toList != ((rd_T52 l0 x24_2).f0).toList) = false := bne_eq_false_iff_eq.mpr c26; clear c26; obtain rfl := Option.some.inj H; have p330 : 0 ≤ (x33_3 : Int) := of_decide_eq_true tW_; have q330 : x33_3 < (y326.length : Int) := of_decide_eq_true tW_; obtain ⟨ad330, e330, hx330_0, hx330_1, hx330_2, hx330_3, hx330_4, hx330_5, hx330_6, hx330_7, hx330_8, hx330_9, hx330_10, hx330_11, hx330_12, hx330_13⟩ := at_T52 HR329.out x33_3 p330 q330; obtain rfl : ad324 = ad330 := (by injection e330); replace hx330_0 := bc_ HB hx330_0; replace hx330_1 := bc_ HB hx330_1; replace hx330_2 := bc_ HB hx330_2; replace hx330_3 := bc_ HB hx330_3; replace hx330_4 := bc_ HB hx330_4; replace hx330_5 := bc_ HB hx330_5; replace hx330_6 := bc_ HB hx330_6; replace hx330_7 := bc_ HB hx330_7; replace hx330_8 := bc_ HB hx330_8; replace hx330_9 := bc_ HB hx330_9; replace hx330_10 := bc_ HB hx330_10; replace hx330_11 := bc_ HB hx330_11; replace hx330_12 := bc_ HB hx330_12; replace hx330_13 := bc_ HB hx330_13; replace p330 := eq_true p330; replace q330 := eq_true q330
                 go_wp2_with (first | ((with_reducible refine gate_dst (N := 8) rfl ?_); refine bx_ (N := 8) (cs := #[.string (⟨#[]⟩ : ByteArray), .int .i64 0, .int .i64 0, .int .i64 0, .int .i64 0, .int .i64 0, .int .i64 0, .int .i64 0, .int .i64 0, .int .i64 0, .int .i64 0, .int .i64 0, .int .i64 0, .bool false]) (t := 52) ?_; intro gb331 hg w27 hbox hb; have BK331 := Aside0.mk (hbox); have GW331 := Aside0.mk ((dS_ hg (dL1_ HB GE325) : w.heap.size ≤ gb331)); have GE331 := GW331; replace HB := Aside0.mk (below_step (dL1_ HB GE325) hb); have NB325_331 := nb_ hg BK325; have NB331_325 := nc_ hg BK325; replace BK325 := bk_ BK325 hb; clear hb hbox hg; have hnb28 := NB331_325.out; have hnc28 := NB325_331.out; obtain ⟨hcz29_0, hcz29_1, hcz29_2, hcz29_3, hcz29_4, hcz29_5, hcz29_6, hcz29_7, hcz29_8, hcz29_9, hcz29_10, hcz29_11, hcz29_12, hcz29_13, hfz29_0, hfz29_1, hfz29_2, hfz29_3, hfz29_4, hfz29_5, hfz29_6, hfz29_7, hfz29_8, hfz29_9, hfz29_10, hfz29_11, hfz29_12, hfz29_13⟩ := cs14_ BK331.out; obtain ⟨hcz30_0, hcz30_1, hcz30_2, hcz30_3, hcz30_4, hcz30_5, hcz30_6, hcz30_7, hcz30_8, hcz30_9, hcz30_10, hcz30_11, hcz30_12, hcz30_13, hfz30_0, hfz30_1, hfz30_2, hfz30_3, hfz30_4, hfz30_5, hfz30_6, hfz30_7, hfz30_8, hfz30_9, hfz30_10, hfz30_11, hfz30_12, hfz30_13⟩ := cs14_ BK325.out))
                 go_ret
                 exact ⟨tE_, dL2_ HB GE325 GE331⟩
                ·rw [if_neg c26] at H; have c26b0 : (((rd_T52 y326 x33_3).f0).toList == ((rd_T52 l0 x24_2).f0).toList) = false := beq_eq_false_iff_ne.mpr c26; have c26b1 : (((rd_T52 y326 x33_3).f0).toList != ((rd_T52 l0 x24_2).f0).toList) = true := bne_iff_ne.mpr c26; have H' := Aside0.mk H; clear H; have p330 : 0 ≤ (x33_3 : Int) := of_decide_eq_true tW_; have q330 : x33_3 < (y326.length : Int) := of_decide_eq_true tW_; obtain ⟨ad330, e330, hx330_0, hx330_1, hx330_2, hx330_3, hx330_4, hx330_5, hx330_6, hx330_7, hx330_8, hx330_9, hx330_10, hx330_11, hx330_12, hx330_13⟩ := at_T52 HR329.out x33_3 p330 q330; obtain rfl : ad324 = ad330 := (by injection e330); replace hx330_0 := bc_ HB hx330_0; replace hx330_1 := bc_ HB hx330_1; replace hx330_2 := bc_ HB hx330_2; replace hx330_3 := bc_ HB hx330_3; replace hx330_4 := bc_ HB hx330_4; replace hx330_5 := bc_ HB hx330_5; replace hx330_6 := bc_ HB hx330_6; replace hx330_7 := bc_ HB hx330_7; replace hx330_8 := bc_ HB hx330_8; replace hx330_9 := bc_ HB hx330_9; replace hx330_10 := bc_ HB hx330_10; replace hx330_11 := bc_ HB hx330_11; replace hx330_12 := bc_ HB hx330_12; replace hx330_13 := bc_ HB hx330_13; replace p330 := eq_true p330; replace q330 := eq_true q330
                 go_wp2_with (first | ((with_reducible refine gate_dst (N := 8) rfl ?_); refine bx_ (N := 8) (cs := #[.string (⟨#[]⟩ : ByteArray), .int .i64 0, .int .i64 0, .int .i64 0, .int .i64 0, .int .i64 0, .int .i64 0, .int .i64 0, .int .i64 0, .int .i64 0, .int .i64 0, .int .i64 0, .int .i64 0, .bool false]) (t := 52) ?_; intro gb331 hg w31 hbox hb; have BK331 := Aside0.mk (hbox); have GW331 := Aside0.mk ((dS_ hg (dL1_ HB GE325) : w.heap.size ≤ gb331)); have GE331 := GW331; replace HB := Aside0.mk (below_step (dL1_ HB GE325) hb); have NB325_331 := nb_ hg BK325; have NB331_325 := nc_ hg BK325; replace BK325 := bk_ BK325 hb; clear hb hbox hg; have hnb32 := NB331_325.out; have hnc32 := NB325_331.out; obtain ⟨hcz33_0, hcz33_1, hcz33_2, hcz33_3, hcz33_4, hcz33_5, hcz33_6, hcz33_7, hcz33_8, hcz33_9, hcz33_10, hcz33_11, hcz33_12, hcz33_13, hfz33_0, hfz33_1, hfz33_2, hfz33_3, hfz33_4, hfz33_5, hfz33_6, hfz33_7, hfz33_8, hfz33_9, hfz33_10, hfz33_11, hfz33_12, hfz33_13⟩ := cs14_ BK331.out; obtain ⟨hcz34_0, hcz34_1, hcz34_2, hcz34_3, hcz34_4, hcz34_5, hcz34_6, hcz34_7, hcz34_8, hcz34_9, hcz34_10, hcz34_11, hcz34_12, hcz34_13, hfz34_0, hfz34_1, hfz34_2, hfz34_3, hfz34_4, hfz34_5, hfz34_6, hfz34_7, hfz34_8, hfz34_9, hfz34_10, hfz34_11, hfz34_12, hfz34_13⟩ := cs14_ BK325.out))
                 go_roundg k3
                 case measure => have := HK1.out; have := HK2.out; have := HK3.out; omega
                 case rel => exact ⟨(wrap64 (x33_3 + 1)), tS_, H', ⟨by have := HK1.out; have := HK2.out; have := HK3.out; omega⟩, ⟨dF14_ BK325 NB325_331⟩, ⟨dL2_ HB GE325 GE331⟩⟩
               ·rw [if_neg c25] at H; exact absurd H (by simp)
              ·rw [if_neg c24] at H; exact absurd H (by simp)
             ·rw [if_neg c23] at H; have c23b0 : decide (x33_3 < (y326.length : Int)) = false := decide_eq_false c23; clear c23; have H' := Aside0.mk H; clear H; go_wp2
              go_roundg k3
              case measure => have := HK1.out; have := HK2.out; have := HK3.out; omega
              case rel => exact ⟨(wrap64 (x24_2 + 1)), tS_, H', ⟨by have := HK1.out; have := HK2.out; have := HK3.out; omega⟩, ⟨dL1_ HB GE325⟩⟩
          ·rw [if_neg c18] at H; exact absurd H (by simp)
         ·rw [if_neg c16] at H; exact absurd H (by simp)
        ·rw [if_neg c15] at H; exact absurd H (by simp)
       ·rw [if_neg c14] at H; have c14b0 : decide (x24_2 < (l0.length : Int)) = false := decide_eq_false c14; clear c14; obtain rfl := Option.some.inj H; go_wp2
        go_ret
        exact ⟨tE_, dL_ HB⟩

end Go.Proofs.Ytgnahbjpockdmab.Q
namespace Go.Proofs.Ytgnahbjpockdmab.Q
open Go.RowKit Go.Proofs.YtgnahbjpockdmabPrs Go.Proofs.YtgnahbjpockdmabOwn Go.Proofs.YtgnahbjpockdmabW.PrintWords Go.Proofs.YtgnahbjpockdmabW.PrintLast Go.Proofs.YtgnahbjpockdmabW.PrintMore
attribute [local go_sem] max2_int min2_int max_two min_two max_three min_three max_four min_four   -- for this text's walks alone
set_option linter.unusedVariables false
set_option linter.unusedSimpArgs false

/-! ### hinterlandref14_coupled: function 34 -/
mutual
def hinterlandref14_coupled.j0 : Nat → List (S52) → List Int → Bool → Option (Int)
  | 0, _, _, _ => none
  | k + 1, x0, x1, x23 => if x23 = true then (some 1) else (hinterlandref14_coupled.l0 k x0 x1 x1 (x1.length : Int) 0)
def hinterlandref14_coupled.l0 : Nat → List (S52) → List Int → List Int → Int → Int → Option (Int)
  | 0, _, _, _, _, _ => none
  | k + 1, x0, x1, x24, x25, x26 => if x26 < x25 then (if 0 ≤ x26 then (if x26 < (x24.length : Int) then (if (rd x24 x26) < 0 then (hinterlandref14_coupled.j2 k x0 x1 x24 x25 x26 true) else (hinterlandref14_coupled.j2 k x0 x1 x24 x25 x26 (decide ((rd x24 x26) ≥ (x0.length : Int))))) else (none)) else (none)) else (if 0 < (x1.length : Int) then (if 0 ≤ (rd x1 0) then (if (rd x1 0) < (x0.length : Int) then (hinterlandref14_coupled.l1 k x0 x1 ((rd_T52 x0 (rd x1 0)).f1) x1 (x1.length : Int) 0) else (none)) else (none)) else (none))
def hinterlandref14_coupled.j2 : Nat → List (S52) → List Int → List Int → Int → Int → Bool → Option (Int)
  | 0, _, _, _, _, _, _ => none
  | k + 1, x0, x1, x24, x25, x26, x37 => if x37 = true then (some 2) else (hinterlandref14_coupled.l0 k x0 x1 x24 x25 (wrap64 (x26 + 1)))
def hinterlandref14_coupled.l1 : Nat → List (S52) → List Int → Int → List Int → Int → Int → Option (Int)
  | 0, _, _, _, _, _, _ => none
  | k + 1, x0, x1, x8, x46, x47, x48 => if x48 < x47 then (if 0 ≤ x48 then (if x48 < (x46.length : Int) then (if 0 ≤ (rd x46 x48) then (if (rd x46 x48) < (x0.length : Int) then (if ((rd_T52 x0 (rd x46 x48)).f1) = x8 then (hinterlandref14_coupled.l1 k x0 x1 x8 x46 x47 (wrap64 (x48 + 1))) else (some 8)) else (none)) else (none)) else (none)) else (none)) else (if x8 = 0 then (if 0 < (x1.length : Int) then (if 0 ≤ (rd x1 0) then (if (rd x1 0) < (x0.length : Int) then (if ((rd_T52 x0 (rd x1 0)).f3) = 0 then (hinterlandref14_coupled.j4 k true) else (hinterlandref14_coupled.j4 k false)) else (none)) else (none)) else (none)) else (hinterlandref14_coupled.j4 k (decide ((x1.length : Int) > 1))))
def hinterlandref14_coupled.j4 : Nat → Bool → Option (Int)
  | 0, _ => none
  | k + 1, x80 => if x80 = true then (some 8) else (some 0)
end
def hinterlandref14_coupled.f (k : Nat) (l0 : List (S52)) (l1 : List Int) : Option (Int) := (hinterlandref14_ValidateModels.f k l0).bind fun t332 => (if t332 = 0 then (if (l1.length : Int) < 1 then (hinterlandref14_coupled.j0 k l0 l1 true) else (hinterlandref14_coupled.j0 k l0 l1 (decide ((l1.length : Int) > 10)))) else (some t332))
theorem hinterlandref14_coupled.mono_l : ∀ k, (∀ y0 y1 y2, LeO (hinterlandref14_coupled.j0 k y0 y1 y2) (hinterlandref14_coupled.j0 (k + 1) y0 y1 y2)) ∧ (∀ y0 y1 y2 y3 y4, LeO (hinterlandref14_coupled.l0 k y0 y1 y2 y3 y4) (hinterlandref14_coupled.l0 (k + 1) y0 y1 y2 y3 y4)) ∧ (∀ y0 y1 y2 y3 y4 y5, LeO (hinterlandref14_coupled.j2 k y0 y1 y2 y3 y4 y5) (hinterlandref14_coupled.j2 (k + 1) y0 y1 y2 y3 y4 y5)) ∧ (∀ y0 y1 y2 y3 y4 y5, LeO (hinterlandref14_coupled.l1 k y0 y1 y2 y3 y4 y5) (hinterlandref14_coupled.l1 (k + 1) y0 y1 y2 y3 y4 y5)) ∧ (∀ y0, LeO (hinterlandref14_coupled.j4 k y0) (hinterlandref14_coupled.j4 (k + 1) y0))
  | 0 => ⟨fun _ _ _ r h => by simp [hinterlandref14_coupled.j0] at h, fun _ _ _ _ _ r h => by simp [hinterlandref14_coupled.l0] at h, fun _ _ _ _ _ _ r h => by simp [hinterlandref14_coupled.j2] at h, fun _ _ _ _ _ _ r h => by simp [hinterlandref14_coupled.l1] at h, fun _ r h => by simp [hinterlandref14_coupled.j4] at h⟩
  | k + 1 => by
    obtain ⟨ih0, ih1, ih2, ih3, ih4⟩ := hinterlandref14_coupled.mono_l k; refine ⟨?_, ?_, ?_, ?_, ?_⟩
    · intro y0 y1 y2
      unfold hinterlandref14_coupled.j0
      repeat' first
      | (with_reducible first | apply ih0 | apply ih1 | apply ih2 | apply ih3 | apply ih4 | apply hinterlandref14_ValidateModels.mono | exact LeO.refl _ | exact LeO.none _ | refine LeO.ite ?_ ?_ | refine LeO.bind ?_ (fun _ => ?_))
    · intro y0 y1 y2 y3 y4
      unfold hinterlandref14_coupled.l0
      repeat' first
      | (with_reducible first | apply ih0 | apply ih1 | apply ih2 | apply ih3 | apply ih4 | apply hinterlandref14_ValidateModels.mono | exact LeO.refl _ | exact LeO.none _ | refine LeO.ite ?_ ?_ | refine LeO.bind ?_ (fun _ => ?_))
    · intro y0 y1 y2 y3 y4 y5
      unfold hinterlandref14_coupled.j2
      repeat' first
      | (with_reducible first | apply ih0 | apply ih1 | apply ih2 | apply ih3 | apply ih4 | apply hinterlandref14_ValidateModels.mono | exact LeO.refl _ | exact LeO.none _ | refine LeO.ite ?_ ?_ | refine LeO.bind ?_ (fun _ => ?_))
    · intro y0 y1 y2 y3 y4 y5
      unfold hinterlandref14_coupled.l1
      repeat' first
      | (with_reducible first | apply ih0 | apply ih1 | apply ih2 | apply ih3 | apply ih4 | apply hinterlandref14_ValidateModels.mono | exact LeO.refl _ | exact LeO.none _ | refine LeO.ite ?_ ?_ | refine LeO.bind ?_ (fun _ => ?_))
    · intro y0
      unfold hinterlandref14_coupled.j4
      repeat' first
      | (with_reducible first | apply ih0 | apply ih1 | apply ih2 | apply ih3 | apply ih4 | apply hinterlandref14_ValidateModels.mono | exact LeO.refl _ | exact LeO.none _ | refine LeO.ite ?_ ?_ | refine LeO.bind ?_ (fun _ => ?_))
theorem hinterlandref14_coupled.mono : ∀ a0 a1 k, LeO (hinterlandref14_coupled.f k a0 a1) (hinterlandref14_coupled.f (k + 1) a0 a1) := by
  intro a0 a1 k; obtain ⟨ih0, ih1, ih2, ih3, ih4⟩ := hinterlandref14_coupled.mono_l k
  unfold hinterlandref14_coupled.f
  repeat' first
      | (with_reducible first | apply ih0 | apply ih1 | apply ih2 | apply ih3 | apply ih4 | apply hinterlandref14_ValidateModels.mono | exact LeO.refl _ | exact LeO.none _ | refine LeO.ite ?_ ?_ | refine LeO.bind ?_ (fun _ => ?_))
set_option maxHeartbeats 8000000 in
set_option maxRecDepth 100000 in
theorem hinterlandref14_coupled.calls (k : Nat) (A0 : Option Addr) (c0 : Nat) (l0 : List (S52)) (A1 : Option Addr) (c1 : Nat) (l1 : List Int) (r : Int) (w : World) (hr0 : Kd.C k52 w A0 l0.length l0) (hc0 : l0.length ≤ c0) (hr1 : Kd.C (Kd.int .i64) w A1 l1.length l1) (hc1 : l1.length ≤ c1) (h : hinterlandref14_coupled.f k l0 l1 = some r) :
    Calls Try.prog 34 #[.slice A0 l0.length c0, .slice A1 l1.length c1] w fun e w' => e = .returned (.int .i64 r) ∧ Below w.heap.size w w' := by
 have HR0 := Aside0.mk hr0; have HC0 := Aside0.mk hc0; clear hr0 hc0; have HR1 := Aside0.mk hr1; have HC1 := Aside0.mk hc1; clear hr1 hc1; have HB := Aside0.mk (Below.refl w.heap.size w); have H : ((hinterlandref14_ValidateModels.f k l0).bind fun t332 => (if t332 = 0 then (if (l1.length : Int) < 1 then (hinterlandref14_coupled.j0 k l0 l1 true) else (hinterlandref14_coupled.j0 k l0 l1 (decide ((l1.length : Int) > 10)))) else (some t332))) = some r := h; clear h; replace H := Option.bind_eq_some_iff.mp H; obtain ⟨t332, A30, H⟩ := H; have A3 := Aside0.mk A30; clear A30
 by_cases c4 : t332 = 0
 ·rw [if_pos c4] at H; have c4b0 : (t332 == 0) = true := beq_iff_eq.mpr c4; have c4b1 : (t332 != 0) = false := bne_eq_false_iff_eq.mpr c4; clear c4; have HC5 := Aside0.mk H; clear H
  go_enter Try.func34, Try.ntmps34
  go_upto_region 4 with (first | ((with_reducible refine gate_callee (f := 44) rfl ?_); refine gL_ (some 12) Try.func44 #[.slice A0 l0.length c0] ?_ rfl; (with_reducible refine (hinterlandref14_ValidateModels.calls k _ _ l0 t332 _ ?side1 ?side2 A3.out).mono ?_); (case side1 => exact rC_ HR0.out); (case side2 => exact HC0.out); rintro e w6 ⟨rfl, hb⟩; refine ⟨_, rfl, ?_⟩; replace HB := Aside0.mk (below_step (dL_ HB) hb)))
  (try simp only [Act.put, List.setIfInBounds_toArray, List.set_cons_zero, List.set_cons_succ])
  go_cut [23] (fun v23 wc => ∃ (kq : Nat) (x23_4 : Bool), v23 = .bool x23_4 ∧ Aside0 (hinterlandref14_coupled.j0 kq l0 l1 x23_4 = some r) ∧ Aside0 (kq ≤ k) ∧ Aside0 (Below w.heap.size w wc))
  case first =>
   have H := HC5.out; clear HC5
   by_cases c7 : (l1.length : Int) < 1
   ·rw [if_pos c7] at H; have c7b0 : decide ((l1.length : Int) < 1) = true := decide_eq_true c7; have c7b1 : decide (l1.length < 1) = true := decide_eq_true (by omega); clear c7
    (first | rw [c7b0] | (simp only [i64_w, i32_w]; rw [c7b0]) | skip)
    have H' := Aside0.mk H; clear H; go_wp2
    go_meet
    case rel => exact ⟨_, (true), tS_, H', ⟨by first | omega | exact Nat.le_refl _⟩, ⟨dL_ HB⟩⟩
   ·rw [if_neg c7] at H; have c7b0 : decide ((l1.length : Int) < 1) = false := decide_eq_false c7; have c7b1 : decide (l1.length < 1) = false := decide_eq_false (by omega); clear c7
    (first | rw [c7b0] | (simp only [i64_w, i32_w]; rw [c7b0]) | skip)
    have H' := Aside0.mk H; clear H; go_wp2
    go_meet
    case rel => exact ⟨_, (decide ((l1.length : Int) > 10)), tS_, H', ⟨by first | omega | exact Nat.le_refl _⟩, ⟨dL_ HB⟩⟩
  case rest =>
   clear HC5; (try clear c1); (try clear c4); (try clear c4b0); (try clear c4b1); (try clear c7); obtain ⟨kq, x23_4, rfl, HA, HJ4, HB⟩ := hcut
   cases kq with
   | zero => exact absurd HA.out (by simp [hinterlandref14_coupled.j0])
   | succ kj4 =>
    have H := HA.out; clear HA; simp only [hinterlandref14_coupled.j0] at H
    by_cases c8 : x23_4 = true
    ·subst c8; rw [if_pos rfl] at H; obtain rfl := Option.some.inj H; go_wp2
     go_ret
     exact ⟨tE_, dL_ HB⟩
    ·replace c8 := Bool.eq_false_iff.mpr c8; subst c8; rw [if_neg (show ¬ (false = true) by decide)] at H; have H' := Aside0.mk H; clear H; go_wp2
     go_loopg [26] kj4 (fun kq v26 w' => ∃ (x26_2 : Int), v26 = .int .i64 x26_2 ∧ Aside0 (hinterlandref14_coupled.l0 kq l0 l1 l1 (l1.length : Int) x26_2 = some r) ∧ Aside0 (kq ≤ kj4) ∧ Aside0 (Below w.heap.size w w'))
     case atStart => exact ⟨(0), tS_, H', ⟨Nat.le_refl _⟩, ⟨dL_ HB⟩⟩
     case round =>
      clear H'; (try clear c1); (try clear c4); (try clear c4b0); (try clear c4b1); (try clear c7); (try clear c8); obtain ⟨x26_2, rfl, HA, HK2, HB⟩ := hrel
      cases gk with
      | zero => exact absurd HA.out (by simp [hinterlandref14_coupled.l0])
      | succ k2 =>
       have H := HA.out; clear HA; simp only [hinterlandref14_coupled.l0] at H
       by_cases c9 : x26_2 < (l1.length : Int)
       ·rw [if_pos c9] at H; have c9b0 : decide (x26_2 < (l1.length : Int)) = true := decide_eq_true c9; clear c9
        by_cases c10 : 0 ≤ x26_2
        ·rw [if_pos c10] at H; have c10b0 : decide (0 ≤ x26_2) = true := decide_eq_true c10; clear c10
         by_cases c11 : x26_2 < (l1.length : Int)
         ·rw [if_pos c11] at H; have c11b0 : decide (x26_2 < (l1.length : Int)) = true := decide_eq_true c11; clear c11; have HC12 := Aside0.mk H; clear H; have p333 : 0 ≤ (x26_2 : Int) := of_decide_eq_true tW_; have q333 : x26_2 < (l1.length : Int) := of_decide_eq_true tW_; obtain ⟨ad333, e333, hx333_0⟩ := Kd.at_int HR1.out x26_2 p333 q333; cases e333; replace hx333_0 := bc_ HB hx333_0; replace p333 := eq_true p333; replace q333 := eq_true q333
          go_upto_region 9 with (fail)
          go_cut [37] (fun v37 wc => ∃ (kq : Nat) (x37_11 : Bool), v37 = .bool x37_11 ∧ Aside0 (hinterlandref14_coupled.j2 kq l0 l1 l1 (l1.length : Int) x26_2 x37_11 = some r) ∧ Aside0 (kq ≤ k2) ∧ Aside0 (Below w.heap.size w wc))
          case first =>
           have H := HC12.out; clear HC12
           by_cases c13 : (rd l1 x26_2) < 0
           ·rw [if_pos c13] at H; have c13b0 : decide ((rd l1 x26_2) < 0) = true := decide_eq_true c13; clear c13
            (first | rw [c13b0] | (simp only [i64_w, i32_w]; rw [c13b0]) | skip)
            have H' := Aside0.mk H; clear H; go_wp2
            go_meet
            case rel => exact ⟨_, (true), tS_, H', ⟨by have := HJ4.out; have := HK2.out; first | omega | exact Nat.le_refl _⟩, ⟨dL_ HB⟩⟩
           ·rw [if_neg c13] at H; have c13b0 : decide ((rd l1 x26_2) < 0) = false := decide_eq_false c13; clear c13
            (first | rw [c13b0] | (simp only [i64_w, i32_w]; rw [c13b0]) | skip)
            have H' := Aside0.mk H; clear H; go_wp2
            go_meet
            case rel => exact ⟨_, (decide ((rd l1 x26_2) ≥ (l0.length : Int))), tS_, H', ⟨by have := HJ4.out; have := HK2.out; first | omega | exact Nat.le_refl _⟩, ⟨dL_ HB⟩⟩
          case rest =>
           clear HC12; (try clear c1); (try clear c4); (try clear c4b0); (try clear c4b1); (try clear c7); (try clear c8); (try clear c9); (try clear c9b0); (try clear c10); (try clear c10b0); (try clear c11); (try clear c11b0); (try clear c13); (try clear hx333_0); (try clear p333); (try clear q333); obtain ⟨kq, x37_11, rfl, HA, HJ11, HB⟩ := hcut
           cases kq with
           | zero => exact absurd HA.out (by simp [hinterlandref14_coupled.j2])
           | succ kj11 =>
            have H := HA.out; clear HA; simp only [hinterlandref14_coupled.j2] at H
            by_cases c14 : x37_11 = true
            ·subst c14; rw [if_pos rfl] at H; obtain rfl := Option.some.inj H; go_wp2
             go_ret
             exact ⟨tE_, dL_ HB⟩
            ·replace c14 := Bool.eq_false_iff.mpr c14; subst c14; rw [if_neg (show ¬ (false = true) by decide)] at H; have H' := Aside0.mk H; clear H; go_wp2
             go_roundg kj11
             case measure => have := HJ4.out; have := HK2.out; have := HJ11.out; omega
             case rel => exact ⟨(wrap64 (x26_2 + 1)), tS_, H', ⟨by have := HJ4.out; have := HK2.out; have := HJ11.out; omega⟩, ⟨dL_ HB⟩⟩
         ·rw [if_neg c11] at H; exact absurd H (by simp)
        ·rw [if_neg c10] at H; exact absurd H (by simp)
       ·rw [if_neg c9] at H; have c9b0 : decide (x26_2 < (l1.length : Int)) = false := decide_eq_false c9; clear c9
        by_cases c15 : 0 < (l1.length : Int)
        ·rw [if_pos c15] at H; have c15b0 : decide (0 < (l1.length : Int)) = true := decide_eq_true c15; have c15b1 : decide (0 < l1.length) = true := decide_eq_true (by omega); clear c15
         by_cases c16 : 0 ≤ (rd l1 0)
         ·rw [if_pos c16] at H; have c16b0 : decide (0 ≤ (rd l1 0)) = true := decide_eq_true c16; clear c16
          by_cases c17 : (rd l1 0) < (l0.length : Int)
          ·rw [if_pos c17] at H; have c17b0 : decide ((rd l1 0) < (l0.length : Int)) = true := decide_eq_true c17; clear c17; have H' := Aside0.mk H; clear H; have p334 : 0 ≤ (0 : Int) := (by omega); have q334 : 0 < (l1.length : Int) := of_decide_eq_true tW_; obtain ⟨ad334, e334, hx334_0⟩ := Kd.at_int HR1.out 0 p334 q334; cases e334; have qi334 : (0 < l1.length) = True := eq_true (by omega); (try rw [show ((0 : Int)).toNat = 0 from rfl] at hx334_0); (try rw [Addr.add_zero'] at hx334_0); replace hx334_0 := bc_ HB hx334_0; replace p334 := eq_true p334; replace q334 := eq_true q334; have p335 : 0 ≤ ((rd l1 0) : Int) := of_decide_eq_true tW_; have q335 : (rd l1 0) < (l0.length : Int) := of_decide_eq_true tW_; obtain ⟨ad335, e335, hx335_0, hx335_1, hx335_2, hx335_3, hx335_4, hx335_5, hx335_6, hx335_7, hx335_8, hx335_9, hx335_10, hx335_11, hx335_12, hx335_13⟩ := at_T52 HR0.out (rd l1 0) p335 q335; cases e335; replace hx335_0 := bc_ HB hx335_0; replace hx335_1 := bc_ HB hx335_1; replace hx335_2 := bc_ HB hx335_2; replace hx335_3 := bc_ HB hx335_3; replace hx335_4 := bc_ HB hx335_4; replace hx335_5 := bc_ HB hx335_5; replace hx335_6 := bc_ HB hx335_6; replace hx335_7 := bc_ HB hx335_7; replace hx335_8 := bc_ HB hx335_8; replace hx335_9 := bc_ HB hx335_9; replace hx335_10 := bc_ HB hx335_10; replace hx335_11 := bc_ HB hx335_11; replace hx335_12 := bc_ HB hx335_12; replace hx335_13 := bc_ HB hx335_13; replace p335 := eq_true p335; replace q335 := eq_true q335; go_wp2
           go_loopg [48] k2 (fun kq v48 w' => ∃ (x48_3 : Int), v48 = .int .i64 x48_3 ∧ Aside0 (hinterlandref14_coupled.l1 kq l0 l1 ((rd_T52 l0 (rd l1 0)).f1) l1 (l1.length : Int) x48_3 = some r) ∧ Aside0 (kq ≤ k2) ∧ Aside0 (Below w.heap.size w w'))
           case atStart => exact ⟨(0), tS_, H', ⟨Nat.le_refl _⟩, ⟨dL_ HB⟩⟩
           case round =>
            clear H'; (try clear c1); (try clear c4); (try clear c4b0); (try clear c4b1); (try clear c7); (try clear c8); (try clear c9); (try clear c9b0); (try clear c10); (try clear c11); (try clear c13); (try clear c15); (try clear c15b0); (try clear c15b1); (try clear c16); (try clear c16b0); (try clear c17); (try clear c17b0); (try clear hx334_0); (try clear hx335_0); (try clear hx335_1); (try clear hx335_10); (try clear hx335_11); (try clear hx335_12); (try clear hx335_13); (try clear hx335_2); (try clear hx335_3); (try clear hx335_4); (try clear hx335_5); (try clear hx335_6); (try clear hx335_7); (try clear hx335_8); (try clear hx335_9); (try clear p334); (try clear p335); (try clear q334); (try clear q335); obtain ⟨x48_3, rfl, HA, HK3, HB⟩ := hrel
            cases gk with
            | zero => exact absurd HA.out (by simp [hinterlandref14_coupled.l1])
            | succ k3 =>
             have H := HA.out; clear HA; simp only [hinterlandref14_coupled.l1] at H
             by_cases c18 : x48_3 < (l1.length : Int)
             ·rw [if_pos c18] at H; have c18b0 : decide (x48_3 < (l1.length : Int)) = true := decide_eq_true c18; clear c18
              by_cases c19 : 0 ≤ x48_3
              ·rw [if_pos c19] at H; have c19b0 : decide (0 ≤ x48_3) = true := decide_eq_true c19; clear c19
               by_cases c20 : x48_3 < (l1.length : Int)
               ·rw [if_pos c20] at H; have c20b0 : decide (x48_3 < (l1.length : Int)) = true := decide_eq_true c20; clear c20
                by_cases c21 : 0 ≤ (rd l1 x48_3)
                ·rw [if_pos c21] at H; have c21b0 : decide (0 ≤ (rd l1 x48_3)) = true := decide_eq_true c21; clear c21
                 by_cases c22 : (rd l1 x48_3) < (l0.length : Int)
                 ·rw [if_pos c22] at H; have c22b0 : decide ((rd l1 x48_3) < (l0.length : Int)) = true := decide_eq_true c22; clear c22
                  by_cases c23 : ((rd_T52 l0 (rd l1 x48_3)).f1) = ((rd_T52 l0 (rd l1 0)).f1)
                  ·rw [if_pos c23] at H; have c23b0 : (((rd_T52 l0 (rd l1 x48_3)).f1) == ((rd_T52 l0 (rd l1 0)).f1)) = true := beq_iff_eq.mpr c23; have c23b1 : (((rd_T52 l0 (rd l1 x48_3)).f1) != ((rd_T52 l0 (rd l1 0)).f1)) = false := bne_eq_false_iff_eq.mpr c23; clear c23; have H' := Aside0.mk H; clear H; have p336 : 0 ≤ (x48_3 : Int) := of_decide_eq_true tW_; have q336 : x48_3 < (l1.length : Int) := of_decide_eq_true tW_; obtain ⟨ad336, e336, hx336_0⟩ := Kd.at_int HR1.out x48_3 p336 q336; obtain rfl : ad334 = ad336 := (by injection e336); replace hx336_0 := bc_ HB hx336_0; replace p336 := eq_true p336; replace q336 := eq_true q336; have p337 : 0 ≤ ((rd l1 x48_3) : Int) := of_decide_eq_true tW_; have q337 : (rd l1 x48_3) < (l0.length : Int) := of_decide_eq_true tW_; obtain ⟨ad337, e337, hx337_0, hx337_1, hx337_2, hx337_3, hx337_4, hx337_5, hx337_6, hx337_7, hx337_8, hx337_9, hx337_10, hx337_11, hx337_12, hx337_13⟩ := at_T52 HR0.out (rd l1 x48_3) p337 q337; obtain rfl : ad335 = ad337 := (by injection e337); replace hx337_0 := bc_ HB hx337_0; replace hx337_1 := bc_ HB hx337_1; replace hx337_2 := bc_ HB hx337_2; replace hx337_3 := bc_ HB hx337_3; replace hx337_4 := bc_ HB hx337_4; replace hx337_5 := bc_ HB hx337_5; replace hx337_6 := bc_ HB hx337_6; replace hx337_7 := bc_ HB hx337_7; replace hx337_8 := bc_ HB hx337_8; replace hx337_9 := bc_ HB hx337_9; replace hx337_10 := bc_ HB hx337_10; replace hx337_11 := bc_ HB hx337_11; replace hx337_12 := bc_ HB hx337_12; replace hx337_13 := bc_ HB hx337_13; replace p337 := eq_true p337; replace q337 := eq_true q337; go_wp2
                   go_roundg k3
                   case measure => have := HJ4.out; have := HK2.out; have := HK3.out; omega
                   case rel => exact ⟨(wrap64 (x48_3 + 1)), tS_, H', ⟨by have := HJ4.out; have := HK2.out; have := HK3.out; omega⟩, ⟨dL_ HB⟩⟩
                  ·rw [if_neg c23] at H; have c23b0 : (((rd_T52 l0 (rd l1 x48_3)).f1) == ((rd_T52 l0 (rd l1 0)).f1)) = false := beq_eq_false_iff_ne.mpr c23; have c23b1 : (((rd_T52 l0 (rd l1 x48_3)).f1) != ((rd_T52 l0 (rd l1 0)).f1)) = true := bne_iff_ne.mpr c23; obtain rfl := Option.some.inj H; have p336 : 0 ≤ (x48_3 : Int) := of_decide_eq_true tW_; have q336 : x48_3 < (l1.length : Int) := of_decide_eq_true tW_; obtain ⟨ad336, e336, hx336_0⟩ := Kd.at_int HR1.out x48_3 p336 q336; obtain rfl : ad334 = ad336 := (by injection e336); replace hx336_0 := bc_ HB hx336_0; replace p336 := eq_true p336; replace q336 := eq_true q336; have p337 : 0 ≤ ((rd l1 x48_3) : Int) := of_decide_eq_true tW_; have q337 : (rd l1 x48_3) < (l0.length : Int) := of_decide_eq_true tW_; obtain ⟨ad337, e337, hx337_0, hx337_1, hx337_2, hx337_3, hx337_4, hx337_5, hx337_6, hx337_7, hx337_8, hx337_9, hx337_10, hx337_11, hx337_12, hx337_13⟩ := at_T52 HR0.out (rd l1 x48_3) p337 q337; obtain rfl : ad335 = ad337 := (by injection e337); replace hx337_0 := bc_ HB hx337_0; replace hx337_1 := bc_ HB hx337_1; replace hx337_2 := bc_ HB hx337_2; replace hx337_3 := bc_ HB hx337_3; replace hx337_4 := bc_ HB hx337_4; replace hx337_5 := bc_ HB hx337_5; replace hx337_6 := bc_ HB hx337_6; replace hx337_7 := bc_ HB hx337_7; replace hx337_8 := bc_ HB hx337_8; replace hx337_9 := bc_ HB hx337_9; replace hx337_10 := bc_ HB hx337_10; replace hx337_11 := bc_ HB hx337_11; replace hx337_12 := bc_ HB hx337_12; replace hx337_13 := bc_ HB hx337_13; replace p337 := eq_true p337; replace q337 := eq_true q337; go_wp2
                   go_ret
                   exact ⟨tE_, dL_ HB⟩
                 ·rw [if_neg c22] at H; exact absurd H (by simp)
                ·rw [if_neg c21] at H; exact absurd H (by simp)
               ·rw [if_neg c20] at H; exact absurd H (by simp)
              ·rw [if_neg c19] at H; exact absurd H (by simp)
             ·rw [if_neg c18] at H; have c18b0 : decide (x48_3 < (l1.length : Int)) = false := decide_eq_false c18; clear c18; have HC24 := Aside0.mk H; clear H
              go_upto_region 19 with (fail)
              go_cut [80] (fun v80 wc => ∃ (kq : Nat) (x80_23 : Bool), v80 = .bool x80_23 ∧ Aside0 (hinterlandref14_coupled.j4 kq x80_23 = some r) ∧ Aside0 (kq ≤ k3) ∧ Aside0 (Below w.heap.size w wc))
              case first =>
               have H := HC24.out; clear HC24
               by_cases c25 : ((rd_T52 l0 (rd l1 0)).f1) = 0
               ·rw [if_pos c25] at H; have c25b0 : (((rd_T52 l0 (rd l1 0)).f1) == 0) = true := beq_iff_eq.mpr c25; have c25b1 : (((rd_T52 l0 (rd l1 0)).f1) != 0) = false := bne_eq_false_iff_eq.mpr c25; clear c25
                (first | rw [c25b0] | (simp only [i64_w, i32_w]; rw [c25b0]) | skip)
                by_cases c26 : 0 < (l1.length : Int)
                ·rw [if_pos c26] at H; have c26b0 : decide (0 < (l1.length : Int)) = true := decide_eq_true c26; have c26b1 : decide (0 < l1.length) = true := decide_eq_true (by omega); clear c26
                 by_cases c27 : 0 ≤ (rd l1 0)
                 ·rw [if_pos c27] at H; have c27b0 : decide (0 ≤ (rd l1 0)) = true := decide_eq_true c27; clear c27
                  by_cases c28 : (rd l1 0) < (l0.length : Int)
                  ·rw [if_pos c28] at H; have c28b0 : decide ((rd l1 0) < (l0.length : Int)) = true := decide_eq_true c28; clear c28
                   by_cases c29 : ((rd_T52 l0 (rd l1 0)).f3) = 0
                   ·rw [if_pos c29] at H; have c29b0 : (((rd_T52 l0 (rd l1 0)).f3) == 0) = true := beq_iff_eq.mpr c29; have c29b1 : (((rd_T52 l0 (rd l1 0)).f3) != 0) = false := bne_eq_false_iff_eq.mpr c29; clear c29; have H' := Aside0.mk H; clear H; have p338 : 0 ≤ (0 : Int) := (by omega); have q338 : 0 < (l1.length : Int) := of_decide_eq_true tW_; obtain ⟨ad338, e338, hx338_0⟩ := Kd.at_int HR1.out 0 p338 q338; obtain rfl : ad334 = ad338 := (by injection e338); have qi338 : (0 < l1.length) = True := eq_true (by omega); (try rw [show ((0 : Int)).toNat = 0 from rfl] at hx338_0); (try rw [Addr.add_zero'] at hx338_0); replace hx338_0 := bc_ HB hx338_0; replace p338 := eq_true p338; replace q338 := eq_true q338; have p339 : 0 ≤ ((rd l1 0) : Int) := of_decide_eq_true tW_; have q339 : (rd l1 0) < (l0.length : Int) := of_decide_eq_true tW_; obtain ⟨ad339, e339, hx339_0, hx339_1, hx339_2, hx339_3, hx339_4, hx339_5, hx339_6, hx339_7, hx339_8, hx339_9, hx339_10, hx339_11, hx339_12, hx339_13⟩ := at_T52 HR0.out (rd l1 0) p339 q339; obtain rfl : ad335 = ad339 := (by injection e339); replace hx339_0 := bc_ HB hx339_0; replace hx339_1 := bc_ HB hx339_1; replace hx339_2 := bc_ HB hx339_2; replace hx339_3 := bc_ HB hx339_3; replace hx339_4 := bc_ HB hx339_4; replace hx339_5 := bc_ HB hx339_5; replace hx339_6 := bc_ HB hx339_6; replace hx339_7 := bc_ HB hx339_7; replace hx339_8 := bc_ HB hx339_8; replace hx339_9 := bc_ HB hx339_9; replace hx339_10 := bc_ HB hx339_10; replace hx339_11 := bc_ HB hx339_11; replace hx339_12 := bc_ HB hx339_12; replace hx339_13 := bc_ HB hx339_13; replace p339 := eq_true p339; replace q339 := eq_true q339; go_wp2
                    go_meet
                    case rel => exact ⟨_, (true), tS_, H', ⟨by have := HJ4.out; have := HK2.out; have := HK3.out; first | omega | exact Nat.le_refl _⟩, ⟨dL_ HB⟩⟩
                   ·rw [if_neg c29] at H; have c29b0 : (((rd_T52 l0 (rd l1 0)).f3) == 0) = false := beq_eq_false_iff_ne.mpr c29; have c29b1 : (((rd_T52 l0 (rd l1 0)).f3) != 0) = true := bne_iff_ne.mpr c29; have H' := Aside0.mk H; clear H; have p338 : 0 ≤ (0 : Int) := (by omega); have q338 : 0 < (l1.length : Int) := of_decide_eq_true tW_; obtain ⟨ad338, e338, hx338_0⟩ := Kd.at_int HR1.out 0 p338 q338; obtain rfl : ad334 = ad338 := (by injection e338); have qi338 : (0 < l1.length) = True := eq_true (by omega); (try rw [show ((0 : Int)).toNat = 0 from rfl] at hx338_0); (try rw [Addr.add_zero'] at hx338_0); replace hx338_0 := bc_ HB hx338_0; replace p338 := eq_true p338; replace q338 := eq_true q338; have p339 : 0 ≤ ((rd l1 0) : Int) := of_decide_eq_true tW_; have q339 : (rd l1 0) < (l0.length : Int) := of_decide_eq_true tW_; obtain ⟨ad339, e339, hx339_0, hx339_1, hx339_2, hx339_3, hx339_4, hx339_5, hx339_6, hx339_7, hx339_8, hx339_9, hx339_10, hx339_11, hx339_12, hx339_13⟩ := at_T52 HR0.out (rd l1 0) p339 q339; obtain rfl : ad335 = ad339 := (by injection e339); replace hx339_0 := bc_ HB hx339_0; replace hx339_1 := bc_ HB hx339_1; replace hx339_2 := bc_ HB hx339_2; replace hx339_3 := bc_ HB hx339_3; replace hx339_4 := bc_ HB hx339_4; replace hx339_5 := bc_ HB hx339_5; replace hx339_6 := bc_ HB hx339_6; replace hx339_7 := bc_ HB hx339_7; replace hx339_8 := bc_ HB hx339_8; replace hx339_9 := bc_ HB hx339_9; replace hx339_10 := bc_ HB hx339_10; replace hx339_11 := bc_ HB hx339_11; replace hx339_12 := bc_ HB hx339_12; replace hx339_13 := bc_ HB hx339_13; replace p339 := eq_true p339; replace q339 := eq_true q339; go_wp2
                    go_meet
                    case rel => exact ⟨_, (false), tS_, H', ⟨by have := HJ4.out; have := HK2.out; have := HK3.out; first | omega | exact Nat.le_refl _⟩, ⟨dL_ HB⟩⟩
                  ·rw [if_neg c28] at H; exact absurd H (by simp)
                 ·rw [if_neg c27] at H; exact absurd H (by simp)
                ·rw [if_neg c26] at H; exact absurd H (by simp)
               ·rw [if_neg c25] at H; have c25b0 : (((rd_T52 l0 (rd l1 0)).f1) == 0) = false := beq_eq_false_iff_ne.mpr c25; have c25b1 : (((rd_T52 l0 (rd l1 0)).f1) != 0) = true := bne_iff_ne.mpr c25
                (first | rw [c25b0] | (simp only [i64_w, i32_w]; rw [c25b0]) | skip)
                have H' := Aside0.mk H; clear H; go_wp2
                go_meet
                case rel => exact ⟨_, (decide ((l1.length : Int) > 1)), tS_, H', ⟨by have := HJ4.out; have := HK2.out; have := HK3.out; first | omega | exact Nat.le_refl _⟩, ⟨dL_ HB⟩⟩
              case rest =>
               clear HC24; (try clear c1); (try clear c4); (try clear c4b0); (try clear c4b1); (try clear c7); (try clear c8); (try clear c9); (try clear c9b0); (try clear c10); (try clear c11); (try clear c13); (try clear c15); (try clear c15b0); (try clear c15b1); (try clear c16); (try clear c16b0); (try clear c17); (try clear c17b0); (try clear c18); (try clear c18b0); (try clear c19); (try clear c20); (try clear c21); (try clear c22); (try clear c23); (try clear c25); (try clear c26); (try clear c27); (try clear c28); (try clear c29); (try clear hx334_0); (try clear hx335_0); (try clear hx335_1); (try clear hx335_10); (try clear hx335_11); (try clear hx335_12); (try clear hx335_13); (try clear hx335_2); (try clear hx335_3); (try clear hx335_4); (try clear hx335_5); (try clear hx335_6); (try clear hx335_7); (try clear hx335_8); (try clear hx335_9); (try clear p334); (try clear p335); (try clear q334); (try clear q335); obtain ⟨kq, x80_23, rfl, HA, HJ23, HB⟩ := hcut
               cases kq with
               | zero => exact absurd HA.out (by simp [hinterlandref14_coupled.j4])
               | succ kj23 =>
                have H := HA.out; clear HA; simp only [hinterlandref14_coupled.j4] at H
                by_cases c30 : x80_23 = true
                ·subst c30; rw [if_pos rfl] at H; obtain rfl := Option.some.inj H; go_wp2
                 go_ret
                 exact ⟨tE_, dL_ HB⟩
                ·replace c30 := Bool.eq_false_iff.mpr c30; subst c30; rw [if_neg (show ¬ (false = true) by decide)] at H; obtain rfl := Option.some.inj H; go_wp2
                 go_ret
                 exact ⟨tE_, dL_ HB⟩
          ·rw [if_neg c17] at H; exact absurd H (by simp)
         ·rw [if_neg c16] at H; exact absurd H (by simp)
        ·rw [if_neg c15] at H; exact absurd H (by simp)
 ·rw [if_neg c4] at H; have c4b0 : (t332 == 0) = false := beq_eq_false_iff_ne.mpr c4; have c4b1 : (t332 != 0) = true := bne_iff_ne.mpr c4; obtain rfl := Option.some.inj H
  go_enter Try.func34, Try.ntmps34
  go_wp2_with (first | ((with_reducible refine gate_callee (f := 44) rfl ?_); refine gL_ (some 12) Try.func44 #[.slice A0 l0.length c0] ?_ rfl; (with_reducible refine (hinterlandref14_ValidateModels.calls k _ _ l0 t332 _ ?side1 ?side2 A3.out).mono ?_); (case side1 => exact rC_ HR0.out); (case side2 => exact HC0.out); rintro e w31 ⟨rfl, hb⟩; refine ⟨_, rfl, ?_⟩; replace HB := Aside0.mk (below_step (dL_ HB) hb)))
  go_ret
  exact ⟨tE_, dL_ HB⟩

end Go.Proofs.Ytgnahbjpockdmab.Q
namespace Go.Proofs.Ytgnahbjpockdmab.Q
open Go.RowKit Go.Proofs.YtgnahbjpockdmabPrs Go.Proofs.YtgnahbjpockdmabOwn Go.Proofs.YtgnahbjpockdmabW.PrintWords Go.Proofs.YtgnahbjpockdmabW.PrintLast Go.Proofs.YtgnahbjpockdmabW.PrintMore
attribute [local go_sem] max2_int min2_int max_two min_two max_three min_three max_four min_four   -- for this text's walks alone
set_option linter.unusedVariables false
set_option linter.unusedSimpArgs false

/-! ### hinterlandref09_less: function 45 -/
def hinterlandref09_less.f (a0_0 : Int) (a0_1 : Int) (a0_2 : Int) (a0_3 : Int) (a0_4 : Int) (a0_5 : Int) (a1_0 : Int) (a1_1 : Int) (a1_2 : Int) (a1_3 : Int) (a1_4 : Int) (a1_5 : Int) : Option (Bool) := if a0_0 = a1_0 then (if a0_1 = a1_1 then (if a0_2 = a1_2 then (some (decide (a0_3 < a1_3))) else (some (decide (a0_2 < a1_2)))) else (some (decide (a0_1 < a1_1)))) else (some (decide (a0_0 < a1_0)))
set_option maxHeartbeats 8000000 in
set_option maxRecDepth 100000 in
theorem hinterlandref09_less.calls (a0_0 : Int) (a0_1 : Int) (a0_2 : Int) (a0_3 : Int) (a0_4 : Int) (a0_5 : Int) (a1_0 : Int) (a1_1 : Int) (a1_2 : Int) (a1_3 : Int) (a1_4 : Int) (a1_5 : Int) (r : Bool) (w : World) (h : hinterlandref09_less.f a0_0 a0_1 a0_2 a0_3 a0_4 a0_5 a1_0 a1_1 a1_2 a1_3 a1_4 a1_5 = some r) :
    Calls Try.prog 45 #[.agg #[.int .i64 a0_0, .int .i64 a0_1, .int .i64 a0_2, .int .i64 a0_3, .int .i64 a0_4, .int .i64 a0_5], .agg #[.int .i64 a1_0, .int .i64 a1_1, .int .i64 a1_2, .int .i64 a1_3, .int .i64 a1_4, .int .i64 a1_5]] w fun e w' => e = .returned (.bool r) ∧ Below w.heap.size w w' := by
 have hu49 := Try.underlying49; have HB := Aside0.mk (Below.refl w.heap.size w); have H : (if a0_0 = a1_0 then (if a0_1 = a1_1 then (if a0_2 = a1_2 then (some (decide (a0_3 < a1_3))) else (some (decide (a0_2 < a1_2)))) else (some (decide (a0_1 < a1_1)))) else (some (decide (a0_0 < a1_0)))) = some r := h; clear h
 by_cases c3 : a0_0 = a1_0
 ·rw [if_pos c3] at H; have c3b0 : (a0_0 == a1_0) = true := beq_iff_eq.mpr c3; have c3b1 : (a0_0 != a1_0) = false := bne_eq_false_iff_eq.mpr c3; clear c3
  by_cases c4 : a0_1 = a1_1
  ·rw [if_pos c4] at H; have c4b0 : (a0_1 == a1_1) = true := beq_iff_eq.mpr c4; have c4b1 : (a0_1 != a1_1) = false := bne_eq_false_iff_eq.mpr c4; clear c4
   by_cases c5 : a0_2 = a1_2
   ·rw [if_pos c5] at H; have c5b0 : (a0_2 == a1_2) = true := beq_iff_eq.mpr c5; have c5b1 : (a0_2 != a1_2) = false := bne_eq_false_iff_eq.mpr c5; clear c5; obtain rfl := Option.some.inj H
    go_enter Try.func45, Try.ntmps45
    go_wp2_with (first | ((with_reducible refine gate_dst (N := 2) rfl ?_); refine bx_ (N := 2) (cs := #[.int .i64 a0_0, .int .i64 a0_1, .int .i64 a0_2, .int .i64 a0_3, .int .i64 a0_4, .int .i64 a0_5]) (t := 49) ?_; intro gb340 hg w6 hbox hb; have BK340 := Aside0.mk (hbox); have GW340 := Aside0.mk ((dS_ hg (dL_ HB) : w.heap.size ≤ gb340)); have GE340 := GW340; replace HB := Aside0.mk (below_step (dL_ HB) hb); clear hb hbox hg) | ((with_reducible refine gate_dst (N := 3) rfl ?_); refine bx_ (N := 3) (cs := #[.int .i64 a1_0, .int .i64 a1_1, .int .i64 a1_2, .int .i64 a1_3, .int .i64 a1_4, .int .i64 a1_5]) (t := 49) ?_; intro gb341 hg w7 hbox hb; have BK341 := Aside0.mk (hbox); have GW341 := Aside0.mk ((dS_ hg (dL1_ HB GE340) : w.heap.size ≤ gb341)); have GE341 := GW341; replace HB := Aside0.mk (below_step (dL1_ HB GE340) hb); have NB340_341 := nb_ hg BK340; have NB341_340 := nc_ hg BK340; replace BK340 := bk_ BK340 hb; clear hb hbox hg; have hnb8 := NB340_341.out; have hnc8 := NB341_340.out; obtain ⟨hcz9_0, hcz9_1, hcz9_2, hcz9_3, hcz9_4, hcz9_5, hfz9_0, hfz9_1, hfz9_2, hfz9_3, hfz9_4, hfz9_5⟩ := cs6_ BK340.out; obtain ⟨hcz10_0, hcz10_1, hcz10_2, hcz10_3, hcz10_4, hcz10_5, hfz10_0, hfz10_1, hfz10_2, hfz10_3, hfz10_4, hfz10_5⟩ := cs6_ BK341.out))
    go_ret
    exact ⟨tE_, dL2_ HB GE340 GE341⟩
   ·rw [if_neg c5] at H; have c5b0 : (a0_2 == a1_2) = false := beq_eq_false_iff_ne.mpr c5; have c5b1 : (a0_2 != a1_2) = true := bne_iff_ne.mpr c5; obtain rfl := Option.some.inj H
    go_enter Try.func45, Try.ntmps45
    go_wp2_with (first | ((with_reducible refine gate_dst (N := 2) rfl ?_); refine bx_ (N := 2) (cs := #[.int .i64 a0_0, .int .i64 a0_1, .int .i64 a0_2, .int .i64 a0_3, .int .i64 a0_4, .int .i64 a0_5]) (t := 49) ?_; intro gb340 hg w11 hbox hb; have BK340 := Aside0.mk (hbox); have GW340 := Aside0.mk ((dS_ hg (dL_ HB) : w.heap.size ≤ gb340)); have GE340 := GW340; replace HB := Aside0.mk (below_step (dL_ HB) hb); clear hb hbox hg) | ((with_reducible refine gate_dst (N := 3) rfl ?_); refine bx_ (N := 3) (cs := #[.int .i64 a1_0, .int .i64 a1_1, .int .i64 a1_2, .int .i64 a1_3, .int .i64 a1_4, .int .i64 a1_5]) (t := 49) ?_; intro gb341 hg w12 hbox hb; have BK341 := Aside0.mk (hbox); have GW341 := Aside0.mk ((dS_ hg (dL1_ HB GE340) : w.heap.size ≤ gb341)); have GE341 := GW341; replace HB := Aside0.mk (below_step (dL1_ HB GE340) hb); have NB340_341 := nb_ hg BK340; have NB341_340 := nc_ hg BK340; replace BK340 := bk_ BK340 hb; clear hb hbox hg; have hnb13 := NB340_341.out; have hnc13 := NB341_340.out; obtain ⟨hcz14_0, hcz14_1, hcz14_2, hcz14_3, hcz14_4, hcz14_5, hfz14_0, hfz14_1, hfz14_2, hfz14_3, hfz14_4, hfz14_5⟩ := cs6_ BK340.out; obtain ⟨hcz15_0, hcz15_1, hcz15_2, hcz15_3, hcz15_4, hcz15_5, hfz15_0, hfz15_1, hfz15_2, hfz15_3, hfz15_4, hfz15_5⟩ := cs6_ BK341.out))
    go_ret
    exact ⟨tE_, dL2_ HB GE340 GE341⟩
  ·rw [if_neg c4] at H; have c4b0 : (a0_1 == a1_1) = false := beq_eq_false_iff_ne.mpr c4; have c4b1 : (a0_1 != a1_1) = true := bne_iff_ne.mpr c4; obtain rfl := Option.some.inj H
   go_enter Try.func45, Try.ntmps45
   go_wp2_with (first | ((with_reducible refine gate_dst (N := 2) rfl ?_); refine bx_ (N := 2) (cs := #[.int .i64 a0_0, .int .i64 a0_1, .int .i64 a0_2, .int .i64 a0_3, .int .i64 a0_4, .int .i64 a0_5]) (t := 49) ?_; intro gb340 hg w16 hbox hb; have BK340 := Aside0.mk (hbox); have GW340 := Aside0.mk ((dS_ hg (dL_ HB) : w.heap.size ≤ gb340)); have GE340 := GW340; replace HB := Aside0.mk (below_step (dL_ HB) hb); clear hb hbox hg) | ((with_reducible refine gate_dst (N := 3) rfl ?_); refine bx_ (N := 3) (cs := #[.int .i64 a1_0, .int .i64 a1_1, .int .i64 a1_2, .int .i64 a1_3, .int .i64 a1_4, .int .i64 a1_5]) (t := 49) ?_; intro gb341 hg w17 hbox hb; have BK341 := Aside0.mk (hbox); have GW341 := Aside0.mk ((dS_ hg (dL1_ HB GE340) : w.heap.size ≤ gb341)); have GE341 := GW341; replace HB := Aside0.mk (below_step (dL1_ HB GE340) hb); have NB340_341 := nb_ hg BK340; have NB341_340 := nc_ hg BK340; replace BK340 := bk_ BK340 hb; clear hb hbox hg; have hnb18 := NB340_341.out; have hnc18 := NB341_340.out; obtain ⟨hcz19_0, hcz19_1, hcz19_2, hcz19_3, hcz19_4, hcz19_5, hfz19_0, hfz19_1, hfz19_2, hfz19_3, hfz19_4, hfz19_5⟩ := cs6_ BK340.out; obtain ⟨hcz20_0, hcz20_1, hcz20_2, hcz20_3, hcz20_4, hcz20_5, hfz20_0, hfz20_1, hfz20_2, hfz20_3, hfz20_4, hfz20_5⟩ := cs6_ BK341.out))
   go_ret
   exact ⟨tE_, dL2_ HB GE340 GE341⟩
 ·rw [if_neg c3] at H; have c3b0 : (a0_0 == a1_0) = false := beq_eq_false_iff_ne.mpr c3; have c3b1 : (a0_0 != a1_0) = true := bne_iff_ne.mpr c3; obtain rfl := Option.some.inj H
  go_enter Try.func45, Try.ntmps45
  go_wp2_with (first | ((with_reducible refine gate_dst (N := 2) rfl ?_); refine bx_ (N := 2) (cs := #[.int .i64 a0_0, .int .i64 a0_1, .int .i64 a0_2, .int .i64 a0_3, .int .i64 a0_4, .int .i64 a0_5]) (t := 49) ?_; intro gb340 hg w21 hbox hb; have BK340 := Aside0.mk (hbox); have GW340 := Aside0.mk ((dS_ hg (dL_ HB) : w.heap.size ≤ gb340)); have GE340 := GW340; replace HB := Aside0.mk (below_step (dL_ HB) hb); clear hb hbox hg) | ((with_reducible refine gate_dst (N := 3) rfl ?_); refine bx_ (N := 3) (cs := #[.int .i64 a1_0, .int .i64 a1_1, .int .i64 a1_2, .int .i64 a1_3, .int .i64 a1_4, .int .i64 a1_5]) (t := 49) ?_; intro gb341 hg w22 hbox hb; have BK341 := Aside0.mk (hbox); have GW341 := Aside0.mk ((dS_ hg (dL1_ HB GE340) : w.heap.size ≤ gb341)); have GE341 := GW341; replace HB := Aside0.mk (below_step (dL1_ HB GE340) hb); have NB340_341 := nb_ hg BK340; have NB341_340 := nc_ hg BK340; replace BK340 := bk_ BK340 hb; clear hb hbox hg; have hnb23 := NB340_341.out; have hnc23 := NB341_340.out; obtain ⟨hcz24_0, hcz24_1, hcz24_2, hcz24_3, hcz24_4, hcz24_5, hfz24_0, hfz24_1, hfz24_2, hfz24_3, hfz24_4, hfz24_5⟩ := cs6_ BK340.out; obtain ⟨hcz25_0, hcz25_1, hcz25_2, hcz25_3, hcz25_4, hcz25_5, hfz25_0, hfz25_1, hfz25_2, hfz25_3, hfz25_4, hfz25_5⟩ := cs6_ BK341.out))
  go_ret
  exact ⟨tE_, dL2_ HB GE340 GE341⟩

end Go.Proofs.Ytgnahbjpockdmab.Q
namespace Go.Proofs.Ytgnahbjpockdmab.Q
open Go.RowKit Go.Proofs.YtgnahbjpockdmabPrs Go.Proofs.YtgnahbjpockdmabOwn Go.Proofs.YtgnahbjpockdmabW.PrintWords Go.Proofs.YtgnahbjpockdmabW.PrintLast Go.Proofs.YtgnahbjpockdmabW.PrintMore
attribute [local go_sem] max2_int min2_int max_two min_two max_three min_three max_four min_four   -- for this text's walks alone
set_option linter.unusedVariables false
set_option linter.unusedSimpArgs false

/-! ### hinterlandref09_Out: function 46 -/
def hinterlandref09_Out.f (a0 : Int) (a1 : Int) : Option (Bool) := if a0 < 0 then (some true) else (some (decide (a0 > a1)))
set_option maxHeartbeats 8000000 in
set_option maxRecDepth 100000 in
theorem hinterlandref09_Out.calls (a0 : Int) (a1 : Int) (r : Bool) (w : World) (h : hinterlandref09_Out.f a0 a1 = some r) :
    Calls Try.prog 46 #[.int .i64 a0, .int .i64 a1] w fun e w' => e = .returned (.bool r) ∧ Drawn0 w w' := by
 have H : (if a0 < 0 then (some true) else (some (decide (a0 > a1)))) = some r := h; clear h
 by_cases c3 : a0 < 0
 ·rw [if_pos c3] at H; have c3b0 : decide (a0 < 0) = true := decide_eq_true c3; clear c3; obtain rfl := Option.some.inj H
  go_enter Try.func46, Try.ntmps46
  go_wp2
  go_ret
  exact ⟨tS_, by repeat (first | exact Drawn0.refl _ | apply Drawn0.step)⟩
 ·rw [if_neg c3] at H; have c3b0 : decide (a0 < 0) = false := decide_eq_false c3; clear c3; obtain rfl := Option.some.inj H
  go_enter Try.func46, Try.ntmps46
  go_wp2
  go_ret
  exact ⟨tS_, by repeat (first | exact Drawn0.refl _ | apply Drawn0.step)⟩

end Go.Proofs.Ytgnahbjpockdmab.Q

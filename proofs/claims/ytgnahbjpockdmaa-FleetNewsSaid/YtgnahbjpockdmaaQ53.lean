-- PRINTED by print.py out of the translation. Not trusted: Lean checks it.
import Derived.Test.YtgnahbjpockdmaaPrs
import Derived.Test.YtgnahbjpockdmaaQ0
namespace Go.Proofs.Ytgnahbjpockdmaa.Q
open Go.RowKit Go.Proofs.YtgnahbjpockdmaaPrs Go.Proofs.YtgnahbjpockdmaaOwn Go.Proofs.YtgnahbjpockdmaaW.PrintWords Go.Proofs.YtgnahbjpockdmaaW.PrintLast Go.Proofs.YtgnahbjpockdmaaW.PrintMore
attribute [local go_sem] max2_int min2_int max_two min_two max_three min_three max_four min_four   -- for this text's walks alone
set_option linter.unusedVariables false
set_option linter.unusedSimpArgs false

/-! ### fleet_fit: function 49 -/
def fleet_fit.f (a0_0 : ByteArray) (a0_1 : Int) (a0_2 : Int) (a0_3 : Int) (a0_4 : Int) (a0_5 : Int) (a0_6 : Int) (a0_7 : Int) (a0_8 : Int) (a0_9 : Int) (a0_10 : Int) (a0_11 : Int) (a0_12 : Int) (a0_13 : Bool) : Option (Int) := if a0_7 = 0 then (some (-1)) else (some a0_6)
set_option maxHeartbeats 8000000 in
set_option maxRecDepth 100000 in
theorem fleet_fit.calls (a0_0 : ByteArray) (a0_1 : Int) (a0_2 : Int) (a0_3 : Int) (a0_4 : Int) (a0_5 : Int) (a0_6 : Int) (a0_7 : Int) (a0_8 : Int) (a0_9 : Int) (a0_10 : Int) (a0_11 : Int) (a0_12 : Int) (a0_13 : Bool) (r : Int) (w : World) (h : fleet_fit.f a0_0 a0_1 a0_2 a0_3 a0_4 a0_5 a0_6 a0_7 a0_8 a0_9 a0_10 a0_11 a0_12 a0_13 = some r) :
    Calls Try.prog 49 #[.agg #[.string a0_0, .int .i64 a0_1, .int .i64 a0_2, .int .i64 a0_3, .int .i64 a0_4, .int .i64 a0_5, .int .i64 a0_6, .int .i64 a0_7, .int .i64 a0_8, .int .i64 a0_9, .int .i64 a0_10, .int .i64 a0_11, .int .i64 a0_12, .bool a0_13]] w fun e w' => e = .returned (.int .i64 r) ∧ Below w.heap.size w w' := by
 have hu54 := Try.underlying54
 have HB := Aside0.mk (Below.refl w.heap.size w)
 have H : (if a0_7 = 0 then (some (-1)) else (some a0_6)) = some r := h
 clear h
 by_cases c2 : a0_7 = 0
 ·rw [if_pos c2] at H
  have c2b0 : (a0_7 == 0) = true := beq_iff_eq.mpr c2
  have c2b1 : (a0_7 != 0) = false := bne_eq_false_iff_eq.mpr c2
  clear c2
  obtain rfl := Option.some.inj H
  go_enter Try.func49, Try.ntmps49
  go_wp2_with (first | ((with_reducible refine gate_dst (N := 1) rfl ?_); refine box_event ?hg (N := 1) ?hd (cs := #[.string a0_0, .int .i64 a0_1, .int .i64 a0_2, .int .i64 a0_3, .int .i64 a0_4, .int .i64 a0_5, .int .i64 a0_6, .int .i64 a0_7, .int .i64 a0_8, .int .i64 a0_9, .int .i64 a0_10, .int .i64 a0_11, .int .i64 a0_12, .bool a0_13]) (t := 54) ?hr ?_; (case hd => rfl); (case hg => rfl); (case hr => first | (go_simp; done) | (go_simp; rfl)); intro gb486 hg w3 hbox hb; have n0_ := Aside0.mk (below_step (dL_ HB) hb); have n1_ := Aside0.mk (hbox); have n2_ := Aside0.mk ((dS_ hg (dL_ HB) : w.heap.size ≤ gb486)); have n3_ := Aside0.mk ((dS_ hg (dL_ HB) : w.heap.size ≤ gb486)); clear HB; have HB := n0_; have BK486 := n1_; have GW486 := n2_; have GE486 := n3_; clear n0_ n1_ n2_ n3_; clear hb hbox hg; obtain ⟨hcz4_0, hcz4_1, hcz4_2, hcz4_3, hcz4_4, hcz4_5, hcz4_6, hcz4_7, hcz4_8, hcz4_9, hcz4_10, hcz4_11, hcz4_12, hcz4_13, hfz4_0, hfz4_1, hfz4_2, hfz4_3, hfz4_4, hfz4_5, hfz4_6, hfz4_7, hfz4_8, hfz4_9, hfz4_10, hfz4_11, hfz4_12, hfz4_13⟩ := cs14_ BK486.out))
  go_ret
  exact ⟨tE_, dL1_ HB GE486⟩
 ·rw [if_neg c2] at H
  have c2b0 : (a0_7 == 0) = false := beq_eq_false_iff_ne.mpr c2
  have c2b1 : (a0_7 != 0) = true := bne_iff_ne.mpr c2
  obtain rfl := Option.some.inj H
  go_enter Try.func49, Try.ntmps49
  go_wp2_with (first | ((with_reducible refine gate_dst (N := 1) rfl ?_); refine box_event ?hg (N := 1) ?hd (cs := #[.string a0_0, .int .i64 a0_1, .int .i64 a0_2, .int .i64 a0_3, .int .i64 a0_4, .int .i64 a0_5, .int .i64 a0_6, .int .i64 a0_7, .int .i64 a0_8, .int .i64 a0_9, .int .i64 a0_10, .int .i64 a0_11, .int .i64 a0_12, .bool a0_13]) (t := 54) ?hr ?_; (case hd => rfl); (case hg => rfl); (case hr => first | (go_simp; done) | (go_simp; rfl)); intro gb486 hg w5 hbox hb; have n0_ := Aside0.mk (below_step (dL_ HB) hb); have n1_ := Aside0.mk (hbox); have n2_ := Aside0.mk ((dS_ hg (dL_ HB) : w.heap.size ≤ gb486)); have n3_ := Aside0.mk ((dS_ hg (dL_ HB) : w.heap.size ≤ gb486)); clear HB; have HB := n0_; have BK486 := n1_; have GW486 := n2_; have GE486 := n3_; clear n0_ n1_ n2_ n3_; clear hb hbox hg; obtain ⟨hcz6_0, hcz6_1, hcz6_2, hcz6_3, hcz6_4, hcz6_5, hcz6_6, hcz6_7, hcz6_8, hcz6_9, hcz6_10, hcz6_11, hcz6_12, hcz6_13, hfz6_0, hfz6_1, hfz6_2, hfz6_3, hfz6_4, hfz6_5, hfz6_6, hfz6_7, hfz6_8, hfz6_9, hfz6_10, hfz6_11, hfz6_12, hfz6_13⟩ := cs14_ BK486.out))
  go_ret
  exact ⟨tE_, dL1_ HB GE486⟩

end Go.Proofs.Ytgnahbjpockdmaa.Q
namespace Go.Proofs.Ytgnahbjpockdmaa.Q
open Go.RowKit Go.Proofs.YtgnahbjpockdmaaPrs Go.Proofs.YtgnahbjpockdmaaOwn Go.Proofs.YtgnahbjpockdmaaW.PrintWords Go.Proofs.YtgnahbjpockdmaaW.PrintLast Go.Proofs.YtgnahbjpockdmaaW.PrintMore
attribute [local go_sem] max2_int min2_int max_two min_two max_three min_three max_four min_four   -- for this text's walks alone
set_option linter.unusedVariables false
set_option linter.unusedSimpArgs false

/-! ### hinterlandref14_carries: function 50 -/
def hinterlandref14_carries.f (a0_0 : ByteArray) (a0_1 : Int) (a0_2 : Int) (a0_3 : Int) (a0_4 : Int) (a0_5 : Int) (a0_6 : Int) (a0_7 : Int) (a0_8 : Int) (a0_9 : Int) (a0_10 : Int) (a0_11 : Int) (a0_12 : Int) (a0_13 : Bool) : Option (Int) := if a0_7 = 0 then (some (-1)) else (some a0_6)
set_option maxHeartbeats 8000000 in
set_option maxRecDepth 100000 in
theorem hinterlandref14_carries.calls (a0_0 : ByteArray) (a0_1 : Int) (a0_2 : Int) (a0_3 : Int) (a0_4 : Int) (a0_5 : Int) (a0_6 : Int) (a0_7 : Int) (a0_8 : Int) (a0_9 : Int) (a0_10 : Int) (a0_11 : Int) (a0_12 : Int) (a0_13 : Bool) (r : Int) (w : World) (h : hinterlandref14_carries.f a0_0 a0_1 a0_2 a0_3 a0_4 a0_5 a0_6 a0_7 a0_8 a0_9 a0_10 a0_11 a0_12 a0_13 = some r) :
    Calls Try.prog 50 #[.agg #[.string a0_0, .int .i64 a0_1, .int .i64 a0_2, .int .i64 a0_3, .int .i64 a0_4, .int .i64 a0_5, .int .i64 a0_6, .int .i64 a0_7, .int .i64 a0_8, .int .i64 a0_9, .int .i64 a0_10, .int .i64 a0_11, .int .i64 a0_12, .bool a0_13]] w fun e w' => e = .returned (.int .i64 r) ∧ Below w.heap.size w w' := by
 have hu54 := Try.underlying54
 have HB := Aside0.mk (Below.refl w.heap.size w)
 have H : (if a0_7 = 0 then (some (-1)) else (some a0_6)) = some r := h
 clear h
 by_cases c2 : a0_7 = 0
 ·rw [if_pos c2] at H
  have c2b0 : (a0_7 == 0) = true := beq_iff_eq.mpr c2
  have c2b1 : (a0_7 != 0) = false := bne_eq_false_iff_eq.mpr c2
  clear c2
  obtain rfl := Option.some.inj H
  go_enter Try.func50, Try.ntmps50
  go_wp2_with (first | ((with_reducible refine gate_dst (N := 1) rfl ?_); refine box_event ?hg (N := 1) ?hd (cs := #[.string a0_0, .int .i64 a0_1, .int .i64 a0_2, .int .i64 a0_3, .int .i64 a0_4, .int .i64 a0_5, .int .i64 a0_6, .int .i64 a0_7, .int .i64 a0_8, .int .i64 a0_9, .int .i64 a0_10, .int .i64 a0_11, .int .i64 a0_12, .bool a0_13]) (t := 54) ?hr ?_; (case hd => rfl); (case hg => rfl); (case hr => first | (go_simp; done) | (go_simp; rfl)); intro gb509 hg w3 hbox hb; have n0_ := Aside0.mk (below_step (dL_ HB) hb); have n1_ := Aside0.mk (hbox); have n2_ := Aside0.mk ((dS_ hg (dL_ HB) : w.heap.size ≤ gb509)); have n3_ := Aside0.mk ((dS_ hg (dL_ HB) : w.heap.size ≤ gb509)); clear HB; have HB := n0_; have BK509 := n1_; have GW509 := n2_; have GE509 := n3_; clear n0_ n1_ n2_ n3_; clear hb hbox hg; obtain ⟨hcz4_0, hcz4_1, hcz4_2, hcz4_3, hcz4_4, hcz4_5, hcz4_6, hcz4_7, hcz4_8, hcz4_9, hcz4_10, hcz4_11, hcz4_12, hcz4_13, hfz4_0, hfz4_1, hfz4_2, hfz4_3, hfz4_4, hfz4_5, hfz4_6, hfz4_7, hfz4_8, hfz4_9, hfz4_10, hfz4_11, hfz4_12, hfz4_13⟩ := cs14_ BK509.out))
  go_ret
  exact ⟨tE_, dL1_ HB GE509⟩
 ·rw [if_neg c2] at H
  have c2b0 : (a0_7 == 0) = false := beq_eq_false_iff_ne.mpr c2
  have c2b1 : (a0_7 != 0) = true := bne_iff_ne.mpr c2
  obtain rfl := Option.some.inj H
  go_enter Try.func50, Try.ntmps50
  go_wp2_with (first | ((with_reducible refine gate_dst (N := 1) rfl ?_); refine box_event ?hg (N := 1) ?hd (cs := #[.string a0_0, .int .i64 a0_1, .int .i64 a0_2, .int .i64 a0_3, .int .i64 a0_4, .int .i64 a0_5, .int .i64 a0_6, .int .i64 a0_7, .int .i64 a0_8, .int .i64 a0_9, .int .i64 a0_10, .int .i64 a0_11, .int .i64 a0_12, .bool a0_13]) (t := 54) ?hr ?_; (case hd => rfl); (case hg => rfl); (case hr => first | (go_simp; done) | (go_simp; rfl)); intro gb509 hg w5 hbox hb; have n0_ := Aside0.mk (below_step (dL_ HB) hb); have n1_ := Aside0.mk (hbox); have n2_ := Aside0.mk ((dS_ hg (dL_ HB) : w.heap.size ≤ gb509)); have n3_ := Aside0.mk ((dS_ hg (dL_ HB) : w.heap.size ≤ gb509)); clear HB; have HB := n0_; have BK509 := n1_; have GW509 := n2_; have GE509 := n3_; clear n0_ n1_ n2_ n3_; clear hb hbox hg; obtain ⟨hcz6_0, hcz6_1, hcz6_2, hcz6_3, hcz6_4, hcz6_5, hcz6_6, hcz6_7, hcz6_8, hcz6_9, hcz6_10, hcz6_11, hcz6_12, hcz6_13, hfz6_0, hfz6_1, hfz6_2, hfz6_3, hfz6_4, hfz6_5, hfz6_6, hfz6_7, hfz6_8, hfz6_9, hfz6_10, hfz6_11, hfz6_12, hfz6_13⟩ := cs14_ BK509.out))
  go_ret
  exact ⟨tE_, dL1_ HB GE509⟩

end Go.Proofs.Ytgnahbjpockdmaa.Q

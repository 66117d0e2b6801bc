-- PRINTED by print.py out of the translation. Not trusted: Lean checks it.
import Derived.Test.YtgnahbjpockdmaaPrs
import Derived.Test.YtgnahbjpockdmaaQ0
namespace Go.Proofs.Ytgnahbjpockdmaa.Q
open Go.RowKit Go.Proofs.YtgnahbjpockdmaaPrs Go.Proofs.YtgnahbjpockdmaaOwn Go.Proofs.YtgnahbjpockdmaaW.PrintWords Go.Proofs.YtgnahbjpockdmaaW.PrintLast Go.Proofs.YtgnahbjpockdmaaW.PrintMore
open List renaming setIfInBounds_toArray → sI_, set_cons_zero → s0_, set_cons_succ → sS_
attribute [local go_sem] max2_int min2_int max_two min_two max_three min_three max_four min_four   -- for this text's walks alone
set_option linter.unusedVariables false
set_option linter.unusedSimpArgs false

/-! ### fleet_clone: function 54 -/
def fleet_clone.f (l0_0 : List Int) (l0_1 : List Int) (a0_2 : Int) (a0_3 : Int) (a0_4 : Int) (a0_5 : Int) (l0_6 : List (S69)) : Option (List Int × List Int × Int × Int × Int × Int × (List (S69))) := if ([] : List Int).length + l0_0.length < 17592186044416 then (if ([] : List Int).length + l0_1.length < 17592186044416 then (if ([] : List (S69)).length + l0_6.length < 2932031007402 then (some ((([] : List Int) ++ l0_0), (([] : List Int) ++ l0_1), a0_2, a0_3, a0_4, a0_5, (([] : List (S69)) ++ l0_6))) else (none)) else (none)) else (none)
def fleet_clone.T1 : Bool × List (List Nat × List Nat) := (true, [([], []), ([0], [0]), ([1], [1]), ([], []), ([3], [3]), ([4, 2], [4]), ([], []), ([6], [6]), ([7, 5], [7]), ([0, 1, 2, 3, 4, 6, 7], []), ([9, 2, 8, 0, 1, 2, 3, 4, 6, 7], [2, 9]), ([0, 1, 2, 3, 4, 5, 6, 7, 9, 10], []), ([11, 5, 10, 0, 1, 2, 3, 4, 5, 6, 7, 9, 10], [5, 11]), ([0, 1, 2, 3, 4, 5, 6, 7, 8, 9, 10, 11, 12], []), ([13, 8, 12, 0, 1, 2, 3, 4, 5, 6, 7, 8, 9, 10, 11, 12], [8, 13])])
def fleet_clone.B1 : List Nat := [0, 1, 3, 0, 8, 31, 0, 64, 255, 223, 1023, 2047, 4095, 8191, 16383]
theorem fleet_clone.tab1 : rtab .any (opsOf Try.f54 1) = fleet_clone.T1 := by kernel_rfl
theorem fleet_clone.bits1 : waitsOk fleet_clone.T1.2 fleet_clone.B1 = true := by kernel_rfl
set_option maxHeartbeats 8000000 in
set_option maxRecDepth 100000 in
theorem fleet_clone.calls (A0_0 : Option Addr) (c0_0 : Nat) (l0_0 : List Int) (A0_1 : Option Addr) (c0_1 : Nat) (l0_1 : List Int) (a0_2 : Int) (a0_3 : Int) (a0_4 : Int) (a0_5 : Int) (A0_6 : Option Addr) (c0_6 : Nat) (l0_6 : List (S69)) (r1 : List Int) (r2 : List Int) (r3 : Int) (r4 : Int) (r5 : Int) (r6 : Int) (r7 : List (S69)) (w : World) (hr0_0 : Kd.C (Kd.int .i64) w A0_0 l0_0.length l0_0) (hc0_0 : l0_0.length ≤ c0_0) (hr0_1 : Kd.C (Kd.int .i64) w A0_1 l0_1.length l0_1) (hc0_1 : l0_1.length ≤ c0_1) (hr0_6 : Kd.C k69 w A0_6 l0_6.length l0_6) (hc0_6 : l0_6.length ≤ c0_6) (h : fleet_clone.f l0_0 l0_1 a0_2 a0_3 a0_4 a0_5 l0_6 = some (r1, r2, r3, r4, r5, r6, r7)) :
    Calls Try.prog 54 #[.agg #[.slice A0_0 l0_0.length c0_0, .slice A0_1 l0_1.length c0_1, .int .i64 a0_2, .int .i64 a0_3, .int .i64 a0_4, .int .i64 a0_5, .slice A0_6 l0_6.length c0_6]] w fun e w' => ∃ v0_ v1_ v6_ : Value, e = .returned (.agg #[v0_, v1_, .int .i64 r3, .int .i64 r4, .int .i64 r5, .int .i64 r6, v6_]) ∧ Kd.R (Kd.int .i64) 3 w' w.heap.size (fun k_ => some k_ ≠ (v1_ : Value).ownBlock) v0_ r1 ∧ Kd.R (Kd.int .i64) 3 w' w.heap.size (fun k_ => some k_ ≠ (v0_ : Value).ownBlock) v1_ r2 ∧ Kd.R k69 69 w' w.heap.size (fun _ => True) v6_ r7 ∧ Below w.heap.size w w' := by
 have hu27 := Try.underlying27
 have HR0_0 := Aside0.mk hr0_0
 have HC0_0 := Aside0.mk hc0_0
 clear hr0_0 hc0_0
 have HR0_1 := Aside0.mk hr0_1
 have HC0_1 := Aside0.mk hc0_1
 clear hr0_1 hc0_1
 have HR0_6 := Aside0.mk hr0_6
 have HC0_6 := Aside0.mk hc0_6
 clear hr0_6 hc0_6
 have HB := Aside0.mk (Below.refl w.heap.size w)
 have H : (if ([] : List Int).length + l0_0.length < 17592186044416 then (if ([] : List Int).length + l0_1.length < 17592186044416 then (if ([] : List (S69)).length + l0_6.length < 2932031007402 then (some ((([] : List Int) ++ l0_0), (([] : List Int) ++ l0_1), a0_2, a0_3, a0_4, a0_5, (([] : List (S69)) ++ l0_6))) else (none)) else (none)) else (none)) = some (r1, r2, r3, r4, r5, r6, r7) := h
 clear h
 by_cases c2 : ([] : List Int).length + l0_0.length < 17592186044416
 ·rw [if_pos c2] at H
  have LMc2 := Aside0.mk c2
  clear c2
  obtain ⟨y585, hy585⟩ : ∃ y_ : List Int, y_ = (([] : List Int) ++ l0_0) := ⟨_, rfl⟩
  replace H : (if ([] : List Int).length + l0_1.length < 17592186044416 then (if ([] : List (S69)).length + l0_6.length < 2932031007402 then (some (y585, (([] : List Int) ++ l0_1), a0_2, a0_3, a0_4, a0_5, (([] : List (S69)) ++ l0_6))) else (none)) else (none)) = some (r1, r2, r3, r4, r5, r6, r7) := by first | (rw [hy585]; with_reducible exact H) | (have H2_ := (Option.bind_some _ _).symm.trans H; rw [hy585]; with_reducible exact H2_) | (have H2_ := (Option.bind_some _ _).symm.trans H; with_reducible exact H2_) | with_reducible exact H | (rw [hy585]; exact H) | exact H
  have Ny585 := Aside0.mk hy585
  clear hy585
  by_cases c3 : ([] : List Int).length + l0_1.length < 17592186044416
  ·rw [if_pos c3] at H
   have LMc3 := Aside0.mk c3
   clear c3
   obtain ⟨y588, hy588⟩ : ∃ y_ : List Int, y_ = (([] : List Int) ++ l0_1) := ⟨_, rfl⟩
   replace H : (if ([] : List (S69)).length + l0_6.length < 2932031007402 then (some (y585, y588, a0_2, a0_3, a0_4, a0_5, (([] : List (S69)) ++ l0_6))) else (none)) = some (r1, r2, r3, r4, r5, r6, r7) := by first | (rw [hy588]; with_reducible exact H) | (have H2_ := (Option.bind_some _ _).symm.trans H; rw [hy588]; with_reducible exact H2_) | (have H2_ := (Option.bind_some _ _).symm.trans H; with_reducible exact H2_) | with_reducible exact H | (rw [hy588]; exact H) | exact H
   have Ny588 := Aside0.mk hy588
   clear hy588
   by_cases c4 : ([] : List (S69)).length + l0_6.length < 2932031007402
   ·rw [if_pos c4] at H
    have LMc4 := Aside0.mk c4
    clear c4
    obtain ⟨y591, hy591⟩ : ∃ y_ : List (S69), y_ = (([] : List (S69)) ++ l0_6) := ⟨_, rfl⟩
    replace H : (some (y585, y588, a0_2, a0_3, a0_4, a0_5, y591)) = some (r1, r2, r3, r4, r5, r6, r7) := by first | (rw [hy591]; with_reducible exact H) | (have H2_ := (Option.bind_some _ _).symm.trans H; rw [hy591]; with_reducible exact H2_) | (have H2_ := (Option.bind_some _ _).symm.trans H; with_reducible exact H2_) | with_reducible exact H | (rw [hy591]; exact H) | exact H
    have Ny591 := Aside0.mk hy591
    clear hy591
    simp only [Option.some.injEq, Prod.mk.injEq] at H
    obtain ⟨rfl, rfl, rfl, rfl, rfl, rfl, rfl⟩ := H
    go_enter Try.func54, Try.ntmps54
    try go_wp2_with (first | ((with_reducible refine gate_dst (N := 1) rfl ?_); refine box_event ?hg (N := 1) ?hd (cs := #[.slice A0_0 l0_0.length c0_0, .slice A0_1 l0_1.length c0_1, .int .i64 a0_2, .int .i64 a0_3, .int .i64 a0_4, .int .i64 a0_5, .slice A0_6 l0_6.length c0_6]) (t := 27) ?hr ?_; (case hd => rfl); (case hg => rfl); (case hr => first | (go_simp; done) | (go_simp; rfl)); intro gb583 hg w5 hbox hb; have n0_ := Aside0.mk (below_step (dL_ HB) hb); have n1_ := Aside0.mk (hbox); have n2_ := Aside0.mk ((dS_ hg (dL_ HB) : w.heap.size ≤ gb583)); have n3_ := Aside0.mk ((dS_ hg (dL_ HB) : w.heap.size ≤ gb583)); clear HB; have HB := n0_; have BK583 := n1_; have GW583 := n2_; have GE583 := n3_; clear n0_ n1_ n2_ n3_; clear hb hbox hg) | ((with_reducible refine gate_dst (N := 2) rfl ?_); refine box_event ?hg (N := 2) ?hd (cs := #[.slice none 0 0, .slice none 0 0, .int .i64 0, .int .i64 0, .int .i64 0, .int .i64 0, .slice none 0 0]) (t := 27) ?hr ?_; (case hd => rfl); (case hg => rfl); (case hr => first | (go_simp; done) | (go_simp; rfl)); intro gb584 hg w6 hbox hb; have n0_ := Aside0.mk (bb_ BK583 hb); have n1_ := Aside0.mk (below_step (dL1_ HB GE583) hb); have n2_ := Aside0.mk (hbox); have n3_ := Aside0.mk ((dS_ hg (dL1_ HB GE583) : w.heap.size ≤ gb584)); have n4_ := Aside0.mk ((dS_ hg (dL1_ HB GE583) : w.heap.size ≤ gb584)); have n5_ := Aside0.mk ((by rw [hg]; exact Nat.ne_of_lt (blk_lt (dB_ BK583)) : gb583 ≠ gb584)); have n6_ := Aside0.mk ((by rw [hg]; exact Nat.ne_of_gt (blk_lt (dB_ BK583)) : gb584 ≠ gb583)); clear BK583; clear HB; have BK583 := n0_; have HB := n1_; have BK584 := n2_; have GW584 := n3_; have GE584 := n4_; have NB583_584 := n5_; have NB584_583 := n6_; clear n0_ n1_ n2_ n3_ n4_ n5_ n6_; clear hb hbox hg))
    have n0_ := Aside0.mk (blk_drew BK583.out)
    have n1_ := Aside0.mk (blk_drew BK584.out)
    have n2_ := Aside0.mk (below_drew1 HB.out)
    clear BK583
    clear BK584
    clear HB
    have BK583 := n0_
    have BK584 := n1_
    have HB := n2_
    clear n0_ n1_ n2_
    refine start_ (n := 15) (S := fun w' => w'.cell? ⟨gb583, 0, none⟩ = some (.slice A0_0 l0_0.length c0_0) ∧ w'.cell? ⟨gb583, 1, none⟩ = some (.slice A0_1 l0_1.length c0_1) ∧ w'.cell? ⟨gb583, 2, none⟩ = some (.int .i64 a0_2) ∧ w'.cell? ⟨gb583, 3, none⟩ = some (.int .i64 a0_3) ∧ w'.cell? ⟨gb583, 4, none⟩ = some (.int .i64 a0_4) ∧ w'.cell? ⟨gb583, 5, none⟩ = some (.int .i64 a0_5) ∧ w'.cell? ⟨gb583, 6, none⟩ = some (.slice A0_6 l0_6.length c0_6)) (ds := [10, 12, 14]) #[false, false, false, false, false, false, false, false, false, false, false, false, false, false, false] (by kernel_rfl) rfl rfl ⟨(blk_cell BK583.out 0).trans rfl, (blk_cell BK583.out 1).trans rfl, (blk_cell BK583.out 2).trans rfl, (blk_cell BK583.out 3).trans rfl, (blk_cell BK583.out 4).trans rfl, (blk_cell BK583.out 5).trans rfl, (blk_cell BK583.out 6).trans rfl⟩ (fun hHeld => ?_); refine with_tabW fleet_clone.tab1 fleet_clone.bits1 (fun HT_ HW_ => ?_)
    generalize w6.drew = w7 at BK583 BK584 HB hHeld ⊢
    refine pure_ (i := 0) (N := some 3) (v := ?_) (a' := ?_) #[true, false, false, false, false, false, false, false, false, false, false, false, false, false, false] rfl rfl (any_of HT_.out (by kernel_rfl)) (fun _ _ _ h => h) (Or.inl ⟨by rfl, ?_⟩) ?_ ?_
    rotate_left
    ·intro w'
     go_simp
     with_reducible rfl
    rotate_left
    ·simp only [Act.put, sI_, s0_, sS_, i64_w, i32_w]
     rfl
    refine pure_ (i := 3) (N := some 6) (v := ?_) (a' := ?_) #[true, false, false, true, false, false, false, false, false, false, false, false, false, false, false] rfl rfl (any_of HT_.out (by kernel_rfl)) (fun _ _ _ h => h) (Or.inl ⟨by rfl, ?_⟩) ?_ ?_
    rotate_left
    ·intro w'
     go_simp
     with_reducible rfl
    rotate_left
    ·simp only [Act.put, sI_, s0_, sS_, i64_w, i32_w]
     rfl
    refine pure_ (i := 6) (N := some 9) (v := ?_) (a' := ?_) #[true, false, false, true, false, false, true, false, false, false, false, false, false, false, false] rfl rfl (any_of HT_.out (by kernel_rfl)) (fun _ _ _ h => h) (Or.inl ⟨by rfl, ?_⟩) ?_ ?_
    rotate_left
    ·intro w'
     go_simp
     with_reducible rfl
    rotate_left
    ·simp only [Act.put, sI_, s0_, sS_, i64_w, i32_w]
     rfl
    refine take_ (i := 1) (N := some 4) (v := ?_) (a' := ?_) #[true, true, false, true, false, false, true, false, false, false, false, false, false, false, false] rfl rfl (take_ofW HT_.out HW_.out (by kernel_rfl)) (fun _ _ _ h => h) (Or.inl ⟨by rfl, ?_⟩) hHeld ?_ ?_
    rotate_left
    ·rintro w' ⟨s0, s1, s2, s3, s4, s5, s6⟩
     go_simp
     with_reducible rfl
    rotate_left
    ·simp only [Act.put, sI_, s0_, sS_, i64_w, i32_w]
     rfl
    refine take_ (i := 4) (N := some 7) (v := ?_) (a' := ?_) #[true, true, false, true, true, false, true, false, false, false, false, false, false, false, false] rfl rfl (take_ofW HT_.out HW_.out (by kernel_rfl)) (fun _ _ _ h => h) (Or.inl ⟨by rfl, ?_⟩) hHeld ?_ ?_
    rotate_left
    ·rintro w' ⟨s0, s1, s2, s3, s4, s5, s6⟩
     go_simp
     with_reducible rfl
    rotate_left
    ·simp only [Act.put, sI_, s0_, sS_, i64_w, i32_w]
     rfl
    refine take_ (i := 7) (N := some 10) (v := ?_) (a' := ?_) #[true, true, false, true, true, false, true, true, false, false, false, false, false, false, false] rfl rfl (take_ofW HT_.out HW_.out (by kernel_rfl)) (fun _ _ _ h => h) (Or.inl ⟨by rfl, ?_⟩) hHeld ?_ ?_
    rotate_left
    ·rintro w' ⟨s0, s1, s2, s3, s4, s5, s6⟩
     go_simp
     with_reducible rfl
    rotate_left
    ·simp only [Act.put, sI_, s0_, sS_, i64_w, i32_w]
     rfl
    refine one_ (i := 2) (N := some 5) #[true, true, true, true, true, false, true, true, false, false, false, false, false, false, false] rfl rfl (one_of HT_.out (by kernel_rfl)) (by decide) (fun K hK => ?_)
    refine Kd.R_append_rows_step (Kd.int .i64) (w0 := w) w.heap.size (by rfl) (.const (.slice none 0 0)) (.tmp 4) 24 3 (.int .i64 0) 8 rfl Try.underlying24 info3 rfl (by decide) (by omega) (.slice none 0 0) ([] : List Int) l0_0 _ _ _ (fun _ => True) (fun _ => False) rfl rfl ?aO ?aR (fun _ _ h => h) (fun _ h => h.elim) ?aF ?aB ?aS ?aL ?_
    (case aR => exact dC_ HR0_0 HB)
    (case aB => exact (dL2_ HB GE583 GE584))
    (case aF => exact (fun _ _ => trivial))
    (case aO => exact ((Kd.R_nil _ _ _ _ (fun _ => True))))
    (case aS => exact (below_size (dL2_ HB GE583 GE584)))
    (case aL => have := LMc2.out; omega)
    intro v586 w8 ho hb hg hat
    rw [← Ny585.out] at ho
    have n0_ := Aside0.mk (blk_grown (g := gb583) (o := .cells #[.slice A0_0 l0_0.length c0_0, .slice A0_1 l0_1.length c0_1, .int .i64 a0_2, .int .i64 a0_3, .int .i64 a0_4, .int .i64 a0_5, .slice A0_6 l0_6.length c0_6] 27 (0, 0)) (dB_ BK583) hg (by simp [Value.ownBlock]))
    have n1_ := Aside0.mk (blk_grown (g := gb584) (o := .cells #[.slice none 0 0, .slice none 0 0, .int .i64 0, .int .i64 0, .int .i64 0, .int .i64 0, .slice none 0 0] 27 (0, 0)) (dB_ BK584) hg (by simp [Value.ownBlock]))
    have n2_ := Aside0.mk (hb)
    have n3_ := Aside0.mk (ho)
    clear BK583
    clear BK584
    clear HB
    have BK583 := n0_
    have BK584 := n1_
    have HB := n2_
    have HO587 := n3_
    clear n0_ n1_ n2_ n3_
    clear ho hb hg hat
    refine hK.out _ _ ⟨(blk_cell BK583.out 0).trans rfl, (blk_cell BK583.out 1).trans rfl, (blk_cell BK583.out 2).trans rfl, (blk_cell BK583.out 3).trans rfl, (blk_cell BK583.out 4).trans rfl, (blk_cell BK583.out 5).trans rfl, (blk_cell BK583.out 6).trans rfl⟩ (fun hHeld => ?_)
    clear hK K
    refine norm_ (a' := ?_) ?_ ?_
    rotate_left
    ·show Act.put _ (some 5) _ = _
     simp only [Act.put, sI_, s0_, sS_, i64_w, i32_w]
     rfl
    refine pure_ (i := 9) (N := some 12) (v := ?_) (a' := ?_) #[true, true, true, true, true, false, true, true, false, true, false, false, false, false, false] rfl rfl (any_of HT_.out (by kernel_rfl)) (fun _ _ _ h => h) (Or.inl ⟨by rfl, ?_⟩) ?_ ?_
    rotate_left
    ·intro w'
     go_simp
     with_reducible rfl
    rotate_left
    ·simp only [Act.put, sI_, s0_, sS_, i64_w, i32_w]
     rfl
    refine one_ (i := 5) (N := some 8) #[true, true, true, true, true, true, true, true, false, true, false, false, false, false, false] rfl rfl (one_of HT_.out (by kernel_rfl)) (by decide) (fun K hK => ?_)
    refine Kd.R_append_rows_step (Kd.int .i64) (w0 := w) w.heap.size (by rfl) (.const (.slice none 0 0)) (.tmp 7) 24 3 (.int .i64 0) 8 rfl Try.underlying24 info3 rfl (by decide) (by omega) (.slice none 0 0) ([] : List Int) l0_1 _ _ _ (fun k_ => some k_ ≠ (v586 : Value).ownBlock) (fun _ => False) rfl rfl ?aO ?aR (fun _ _ h => h) (fun _ h => h.elim) ?aF ?aB ?aS ?aL ?_
    (case aR => exact dC_ HR0_1 HB)
    (case aB => exact (dL2_ HB GE583 GE584))
    (case aF => exact (fun k_ hk => Kd.fresh' (Kd.R_lt (dR_ HO587)) k_ hk))
    (case aO => exact ((Kd.R_nil _ _ _ _ (fun k_ => some k_ ≠ (v586 : Value).ownBlock))))
    (case aS => exact (below_size (dL2_ HB GE583 GE584)))
    (case aL => have := LMc3.out; omega)
    intro v589 w9 ho hb hg hat
    rw [← Ny588.out] at ho
    have n0_ := Aside0.mk (blk_grown (g := gb583) (o := .cells #[.slice A0_0 l0_0.length c0_0, .slice A0_1 l0_1.length c0_1, .int .i64 a0_2, .int .i64 a0_3, .int .i64 a0_4, .int .i64 a0_5, .slice A0_6 l0_6.length c0_6] 27 (0, 0)) (dB_ BK583) hg (by simp [Value.ownBlock]))
    have n1_ := Aside0.mk (blk_grown (g := gb584) (o := .cells #[.slice none 0 0, .slice none 0 0, .int .i64 0, .int .i64 0, .int .i64 0, .int .i64 0, .slice none 0 0] 27 (0, 0)) (dB_ BK584) hg (by simp [Value.ownBlock]))
    have n2_ := Aside0.mk (Kd.R_after (Kd.R_apart_nil (dR_ HO587)) hg hat)
    have n3_ := Aside0.mk (hb)
    have n4_ := Aside0.mk (ho)
    clear BK583
    clear BK584
    clear HO587
    clear HB
    have BK583 := n0_
    have BK584 := n1_
    have HO587 := n2_
    have HB := n3_
    have HO590 := n4_
    clear n0_ n1_ n2_ n3_ n4_
    clear ho hb hg hat
    refine hK.out _ _ ⟨(blk_cell BK583.out 0).trans rfl, (blk_cell BK583.out 1).trans rfl, (blk_cell BK583.out 2).trans rfl, (blk_cell BK583.out 3).trans rfl, (blk_cell BK583.out 4).trans rfl, (blk_cell BK583.out 5).trans rfl, (blk_cell BK583.out 6).trans rfl⟩ (fun hHeld => ?_)
    clear hK K
    refine norm_ (a' := ?_) ?_ ?_
    rotate_left
    ·show Act.put _ (some 8) _ = _
     simp only [Act.put, sI_, s0_, sS_, i64_w, i32_w]
     rfl
    refine one_ (i := 8) (N := some 11) #[true, true, true, true, true, true, true, true, true, true, false, false, false, false, false] rfl rfl (one_of HT_.out (by kernel_rfl)) (by decide) (fun K hK => ?_)
    refine Kd.R_append_rows_step k69 (w0 := w) w.heap.size (by rfl) (.const (.slice none 0 0)) (.tmp 10) 25 69 (.agg #[(.int .i64 0), (.int .i64 0), (.int .i64 0), (.int .i64 0), (.int .i64 0), (.int .i64 0)]) 48 rfl Try.underlying25 info69 rfl (by decide) (by omega) (.slice none 0 0) ([] : List (S69)) l0_6 _ _ _ (fun _ => True) (fun _ => False) rfl rfl ?aO ?aR (fun _ _ h => h) (fun _ h => h.elim) ?aF ?aB ?aS ?aL ?_
    (case aR => exact dC_ HR0_6 HB)
    (case aB => exact (dL2_ HB GE583 GE584))
    (case aF => exact (fun _ _ => trivial))
    (case aO => exact ((Kd.R_nil _ _ _ _ (fun _ => True))))
    (case aS => exact (below_size (dL2_ HB GE583 GE584)))
    (case aL => have := LMc4.out; omega)
    intro v592 w10 ho hb hg hat
    rw [← Ny591.out] at ho
    have n0_ := Aside0.mk (blk_grown (g := gb583) (o := .cells #[.slice A0_0 l0_0.length c0_0, .slice A0_1 l0_1.length c0_1, .int .i64 a0_2, .int .i64 a0_3, .int .i64 a0_4, .int .i64 a0_5, .slice A0_6 l0_6.length c0_6] 27 (0, 0)) (dB_ BK583) hg (by simp [Value.ownBlock]))
    have n1_ := Aside0.mk (blk_grown (g := gb584) (o := .cells #[.slice none 0 0, .slice none 0 0, .int .i64 0, .int .i64 0, .int .i64 0, .int .i64 0, .slice none 0 0] 27 (0, 0)) (dB_ BK584) hg (by simp [Value.ownBlock]))
    have n2_ := Aside0.mk (Kd.R_grown (dR_ HO587) hg (fun _ _ => by simp [Value.ownBlock]))
    have n3_ := Aside0.mk (Kd.R_grown (dR_ HO590) hg (fun _ _ => by simp [Value.ownBlock]))
    have n4_ := Aside0.mk (hb)
    have n5_ := Aside0.mk (ho)
    clear BK583
    clear BK584
    clear HO587
    clear HO590
    clear HB
    have BK583 := n0_
    have BK584 := n1_
    have HO587 := n2_
    have HO590 := n3_
    have HB := n4_
    have HO593 := n5_
    clear n0_ n1_ n2_ n3_ n4_ n5_
    clear ho hb hg hat
    obtain ⟨Ao11, co11, eo11⟩ := Kd.R_slice HO587.out
    (first | subst eo11 | (injection eo11 with f1_ f2_ f3_; have f4_ := f1_.symm; have f5_ := f3_.symm; clear f1_ f2_ f3_; subst f4_; subst f5_))
    obtain ⟨Ao13, co13, eo13⟩ := Kd.R_slice HO590.out
    (first | subst eo13 | (injection eo13 with f1_ f2_ f3_; have f4_ := f1_.symm; have f5_ := f3_.symm; clear f1_ f2_ f3_; subst f4_; subst f5_))
    obtain ⟨Ao15, co15, eo15⟩ := Kd.R_slice HO593.out
    (first | subst eo15 | (injection eo15 with f1_ f2_ f3_; have f4_ := f1_.symm; have f5_ := f3_.symm; clear f1_ f2_ f3_; subst f4_; subst f5_))
    refine hK.out _ _ ⟨(blk_cell BK583.out 0).trans rfl, (blk_cell BK583.out 1).trans rfl, (blk_cell BK583.out 2).trans rfl, (blk_cell BK583.out 3).trans rfl, (blk_cell BK583.out 4).trans rfl, (blk_cell BK583.out 5).trans rfl, (blk_cell BK583.out 6).trans rfl⟩ (fun hHeld => ?_)
    clear hK K
    refine norm_ (a' := ?_) ?_ ?_
    rotate_left
    ·show Act.put _ (some 11) _ = _
     simp only [Act.put, sI_, s0_, sS_, i64_w, i32_w]
     rfl
    refine last_ (i := 10) (N := none) #[true, true, true, true, true, true, true, true, true, true, true, false, false, false, false] rfl rfl (one_of HT_.out (by kernel_rfl)) (by decide) (fun K hK => ?_)
    have hs12 : w10.cell? ⟨gb583, 0, none⟩ = some (.slice A0_0 l0_0.length c0_0) := (blk_cell BK583.out 0).trans rfl
    have hfs12 := blk_frozen BK583.out 0
    have hns12_1 := NB584_583.out
    have hms12_1 := NB583_584.out
    refine skip_ (w1 := ?_) (by rfl) rfl ?_ ?_
    rotate_left
    ·go_simp
     rfl
    refine hK.out _ _ ?_
    clear hK K
    refine pure_ (i := 11) (N := some 13) (v := ?_) (a' := ?_) #[true, true, true, true, true, true, true, true, true, true, true, true, false, false, false] rfl rfl (any_of HT_.out (by kernel_rfl)) (fun _ _ _ h => h) (Or.inl ⟨by rfl, ?_⟩) ?_ ?_
    rotate_left
    ·intro w'
     go_simp
     with_reducible rfl
    rotate_left
    ·simp only [Act.put, sI_, s0_, sS_, i64_w, i32_w]
     rfl
    refine last_ (i := 12) (N := none) #[true, true, true, true, true, true, true, true, true, true, true, true, true, false, false] rfl rfl (one_of HT_.out (by kernel_rfl)) (by decide) (fun K hK => ?_)
    have hs14 : w10.cell? ⟨gb583, 1, none⟩ = some (.slice A0_1 l0_1.length c0_1) := (blk_cell BK583.out 1).trans rfl
    have hfs14 := blk_frozen BK583.out 1
    have hns14_1 := NB584_583.out
    have hms14_1 := NB583_584.out
    refine skip_ (w1 := ?_) (by rfl) rfl ?_ ?_
    rotate_left
    ·go_simp
     rfl
    refine hK.out _ _ ?_
    clear hK K
    refine pure_ (i := 13) (N := some 14) (v := ?_) (a' := ?_) #[true, true, true, true, true, true, true, true, true, true, true, true, true, true, false] rfl rfl (any_of HT_.out (by kernel_rfl)) (fun _ _ _ h => h) (Or.inl ⟨by rfl, ?_⟩) ?_ ?_
    rotate_left
    ·intro w'
     go_simp
     with_reducible rfl
    rotate_left
    ·simp only [Act.put, sI_, s0_, sS_, i64_w, i32_w]
     rfl
    refine last_ (i := 14) (N := none) #[true, true, true, true, true, true, true, true, true, true, true, true, true, true, true] rfl rfl (one_of HT_.out (by kernel_rfl)) (by decide) (fun K hK => ?_)
    have hs16 : w10.cell? ⟨gb583, 6, none⟩ = some (.slice A0_6 l0_6.length c0_6) := (blk_cell BK583.out 6).trans rfl
    have hfs16 := blk_frozen BK583.out 6
    have hns16_1 := NB584_583.out
    have hms16_1 := NB583_584.out
    refine skip_ (w1 := ?_) (by rfl) rfl ?_ ?_
    rotate_left
    ·go_simp
     rfl
    refine hK.out _ _ ?_
    clear hK K
    refine done_ (done_of HT_.out (by kernel_rfl)) ?_
    have hnb17 := NB583_584.out
    have hnc17 := NB584_583.out
    obtain ⟨hcz18_0, hcz18_1, hcz18_2, hcz18_3, hcz18_4, hcz18_5, hcz18_6, hfz18_0, hfz18_1, hfz18_2, hfz18_3, hfz18_4, hfz18_5, hfz18_6⟩ := cs7_ BK583.out
    obtain ⟨hcz19_0, hcz19_1, hcz19_2, hcz19_3, hcz19_4, hcz19_5, hcz19_6, hfz19_0, hfz19_1, hfz19_2, hfz19_3, hfz19_4, hfz19_5, hfz19_6⟩ := cs7_ BK584.out
    try go_wp2
    refine bodyPost_ret (results_cell_row rfl _ _ gb584 27 #[.slice Ao11 y585.length co11, .slice Ao13 y588.length co13, .int .i64 a0_2, .int .i64 a0_3, .int .i64 a0_4, .int .i64 a0_5, .slice Ao15 y591.length co15] (0, 0) _ rfl (by (with_reducible repeat (first | refine blk_drewN ?_ _ | refine blk_drew ?_ | refine blk_alloc ?_ _)); refine blk_put (cs := #[.slice Ao11 y585.length co11, .slice Ao13 y588.length co13, .int .i64 a0_2, .int .i64 a0_3, .int .i64 a0_4, .int .i64 a0_5, .slice none 0 0]) ?_ 6 _ rfl; (with_reducible repeat (first | refine blk_drewN ?_ _ | refine blk_drew ?_ | refine blk_alloc ?_ _)); refine blk_put (cs := #[.slice Ao11 y585.length co11, .slice Ao13 y588.length co13, .int .i64 a0_2, .int .i64 a0_3, .int .i64 a0_4, .int .i64 0, .slice none 0 0]) ?_ 5 _ rfl; (with_reducible repeat (first | refine blk_drewN ?_ _ | refine blk_drew ?_ | refine blk_alloc ?_ _)); refine blk_put (cs := #[.slice Ao11 y585.length co11, .slice Ao13 y588.length co13, .int .i64 a0_2, .int .i64 a0_3, .int .i64 0, .int .i64 0, .slice none 0 0]) ?_ 4 _ rfl; (with_reducible repeat (first | refine blk_drewN ?_ _ | refine blk_drew ?_ | refine blk_alloc ?_ _)); refine blk_put (cs := #[.slice Ao11 y585.length co11, .slice Ao13 y588.length co13, .int .i64 a0_2, .int .i64 0, .int .i64 0, .int .i64 0, .slice none 0 0]) ?_ 3 _ rfl; (with_reducible repeat (first | refine blk_drewN ?_ _ | refine blk_drew ?_ | refine blk_alloc ?_ _)); refine blk_put (cs := #[.slice Ao11 y585.length co11, .slice Ao13 y588.length co13, .int .i64 0, .int .i64 0, .int .i64 0, .int .i64 0, .slice none 0 0]) ?_ 2 _ rfl; (with_reducible repeat (first | refine blk_drewN ?_ _ | refine blk_drew ?_ | refine blk_alloc ?_ _)); refine blk_put (cs := #[.slice Ao11 y585.length co11, .slice none 0 0, .int .i64 0, .int .i64 0, .int .i64 0, .int .i64 0, .slice none 0 0]) ?_ 1 _ rfl; (with_reducible repeat (first | refine blk_drewN ?_ _ | refine blk_drew ?_ | refine blk_alloc ?_ _)); refine blk_put (cs := #[.slice none 0 0, .slice none 0 0, .int .i64 0, .int .i64 0, .int .i64 0, .int .i64 0, .slice none 0 0]) ?_ 0 _ rfl; (with_reducible repeat (first | refine blk_drewN ?_ _ | refine blk_drew ?_ | refine blk_alloc ?_ _)); refine blk_far ?_ NB584_583.out _; (with_reducible repeat (first | refine blk_drewN ?_ _ | refine blk_drew ?_ | refine blk_alloc ?_ _)); refine blk_far ?_ NB584_583.out _; (with_reducible repeat (first | refine blk_drewN ?_ _ | refine blk_drew ?_ | refine blk_alloc ?_ _)); refine blk_far ?_ NB584_583.out _; (with_reducible repeat (first | refine blk_drewN ?_ _ | refine blk_drew ?_ | refine blk_alloc ?_ _)); exact BK584.out) Try.underlying27 rfl (by kernel_rfl)) rfl ?_
    exact ⟨_, _, _, tE_, by (with_reducible repeat (first | apply Kd.R_alloc | apply Kd.R_drewN | apply Kd.R_drew)); exact Kd.R_mono (far7_ (Kd.R_far (p := ⟨gb583, 6, none⟩) (Kd.R_far (p := ⟨gb583, 1, none⟩) (Kd.R_far (p := ⟨gb583, 0, none⟩) (Kd.R_types (Kd.R_types HO587.out BK583.out (by decide)) BK584.out (by decide)) (fun _ hk => hk.1.2) (.slice Ao11 y585.length co11)) (fun _ hk => hk.1.2) (.slice Ao13 y588.length co13)) (fun _ hk => hk.1.2) (.slice Ao15 y591.length co15)) gb584 (fun _ hk => hk.2) (.slice Ao11 y585.length co11) (.slice Ao13 y588.length co13) (.int .i64 a0_2) (.int .i64 a0_3) (.int .i64 a0_4) (.int .i64 a0_5) (.slice Ao15 y591.length co15)) (fun _ hk => hk.1.1.2), by (with_reducible repeat (first | apply Kd.R_alloc | apply Kd.R_drewN | apply Kd.R_drew)); exact Kd.R_mono (far7_ (Kd.R_far (p := ⟨gb583, 6, none⟩) (Kd.R_far (p := ⟨gb583, 1, none⟩) (Kd.R_far (p := ⟨gb583, 0, none⟩) (Kd.R_types (Kd.R_types HO590.out BK583.out (by decide)) BK584.out (by decide)) (fun _ hk => hk.1.2) (.slice Ao11 y585.length co11)) (fun _ hk => hk.1.2) (.slice Ao13 y588.length co13)) (fun _ hk => hk.1.2) (.slice Ao15 y591.length co15)) gb584 (fun _ hk => hk.2) (.slice Ao11 y585.length co11) (.slice Ao13 y588.length co13) (.int .i64 a0_2) (.int .i64 a0_3) (.int .i64 a0_4) (.int .i64 a0_5) (.slice Ao15 y591.length co15)) (fun _ hk => hk.1.1), by (with_reducible repeat (first | apply Kd.R_alloc | apply Kd.R_drewN | apply Kd.R_drew)); exact Kd.R_mono (far7_ (Kd.R_far (p := ⟨gb583, 6, none⟩) (Kd.R_far (p := ⟨gb583, 1, none⟩) (Kd.R_far (p := ⟨gb583, 0, none⟩) (Kd.R_types (Kd.R_types HO593.out BK583.out (by decide)) BK584.out (by decide)) (fun _ hk => hk.1.2) (.slice Ao11 y585.length co11)) (fun _ hk => hk.1.2) (.slice Ao13 y588.length co13)) (fun _ hk => hk.1.2) (.slice Ao15 y591.length co15)) gb584 (fun _ hk => hk.2) (.slice Ao11 y585.length co11) (.slice Ao13 y588.length co13) (.int .i64 a0_2) (.int .i64 a0_3) (.int .i64 a0_4) (.int .i64 a0_5) (.slice Ao15 y591.length co15)) (fun _ hk => trivial), dL2_ HB GE583 GE584⟩
   ·rw [if_neg c4] at H
    exact absurd H (by simp)
  ·rw [if_neg c3] at H
   exact absurd H (by simp)
 ·rw [if_neg c2] at H
  exact absurd H (by simp)

end Go.Proofs.Ytgnahbjpockdmaa.Q

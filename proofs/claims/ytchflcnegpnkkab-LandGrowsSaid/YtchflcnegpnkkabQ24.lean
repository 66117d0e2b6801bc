-- PRINTED by print.py (a twelfth state) out of the translation. Not trusted: Lean checks it.
import Derived.Test.YtchflcnegpnkkabPrs
import Derived.Test.YtchflcnegpnkkabQ0
namespace Go.Proofs.Ytchflcnegpnkkab.Q
open Go.RowKit Go.Proofs.YtchflcnegpnkkabPrs Go.Proofs.YtchflcnegpnkkabOwn Go.Proofs.YtchflcnegpnkkabW.PrintWords Go.Proofs.YtchflcnegpnkkabW.PrintLast Go.Proofs.YtchflcnegpnkkabW.PrintMore
open List renaming setIfInBounds_toArray → sI_, set_cons_zero → s0_, set_cons_succ → sS_
attribute [local go_sem] max2_int min2_int max_two min_two max_three min_three max_four min_four   -- for this text's walks alone
set_option linter.unusedVariables false
set_option linter.unusedSimpArgs false

/-! ### roll_Next: function 36 -/
def roll_Next.f (a0_0 : Int) : Option (Int × Int) := some (Go.bits .xor .u64 (IntKind.u64.wrap ((Go.bits .xor .u64 (IntKind.u64.wrap ((Go.bits .xor .u64 (IntKind.u64.wrap (a0_0 + 11400714819323198485)) ((IntKind.u64.wrap (a0_0 + 11400714819323198485)) / 1073741824)) * 13787848793156543929)) ((IntKind.u64.wrap ((Go.bits .xor .u64 (IntKind.u64.wrap (a0_0 + 11400714819323198485)) ((IntKind.u64.wrap (a0_0 + 11400714819323198485)) / 1073741824)) * 13787848793156543929)) / 134217728)) * 10723151780598845931)) ((IntKind.u64.wrap ((Go.bits .xor .u64 (IntKind.u64.wrap ((Go.bits .xor .u64 (IntKind.u64.wrap (a0_0 + 11400714819323198485)) ((IntKind.u64.wrap (a0_0 + 11400714819323198485)) / 1073741824)) * 13787848793156543929)) ((IntKind.u64.wrap ((Go.bits .xor .u64 (IntKind.u64.wrap (a0_0 + 11400714819323198485)) ((IntKind.u64.wrap (a0_0 + 11400714819323198485)) / 1073741824)) * 13787848793156543929)) / 134217728)) * 10723151780598845931)) / 2147483648), IntKind.u64.wrap (a0_0 + 11400714819323198485))
set_option maxHeartbeats 8000000 in
set_option maxRecDepth 100000 in
theorem roll_Next.calls (a0_0 : Int) (r1 : Int) (r2 : Int) (w : World) (h : roll_Next.f a0_0 = some (r1, r2)) :
    Calls Try.prog 36 #[.agg #[.int .u64 a0_0]] w fun e w' => e = .returned (.tuple #[.int .u64 r1, .agg #[.int .u64 r2]]) ∧ Below w.heap.size w w' := by
 have hu52 := Try.underlying52
 have HB := Aside0.mk (Below.refl w.heap.size w)
 have H : (some (Go.bits .xor .u64 (IntKind.u64.wrap ((Go.bits .xor .u64 (IntKind.u64.wrap ((Go.bits .xor .u64 (IntKind.u64.wrap (a0_0 + 11400714819323198485)) ((IntKind.u64.wrap (a0_0 + 11400714819323198485)) / 1073741824)) * 13787848793156543929)) ((IntKind.u64.wrap ((Go.bits .xor .u64 (IntKind.u64.wrap (a0_0 + 11400714819323198485)) ((IntKind.u64.wrap (a0_0 + 11400714819323198485)) / 1073741824)) * 13787848793156543929)) / 134217728)) * 10723151780598845931)) ((IntKind.u64.wrap ((Go.bits .xor .u64 (IntKind.u64.wrap ((Go.bits .xor .u64 (IntKind.u64.wrap (a0_0 + 11400714819323198485)) ((IntKind.u64.wrap (a0_0 + 11400714819323198485)) / 1073741824)) * 13787848793156543929)) ((IntKind.u64.wrap ((Go.bits .xor .u64 (IntKind.u64.wrap (a0_0 + 11400714819323198485)) ((IntKind.u64.wrap (a0_0 + 11400714819323198485)) / 1073741824)) * 13787848793156543929)) / 134217728)) * 10723151780598845931)) / 2147483648), IntKind.u64.wrap (a0_0 + 11400714819323198485))) = some (r1, r2) := h
 clear h
 simp only [Option.some.injEq, Prod.mk.injEq] at H
 obtain ⟨rfl, rfl⟩ := H
 go_enter Try.func36, Try.ntmps36
 try go_wp2_with (first | ((with_reducible refine gate_dst (N := 1) rfl ?_); refine box_event ?hg (N := 1) ?hd (cs := #[.int .u64 a0_0]) (t := 52) ?hr ?_; (case hd => rfl); (case hg => rfl); (case hr => first | (go_simp; done) | (go_simp; rfl)); intro gb239 hg w2 hbox hb; have BK239 := Aside0.mk (hbox); have GW239 := Aside0.mk ((dS_ hg (dL_ HB) : w.heap.size ≤ gb239)); have GE239 := Aside0.mk ((dS_ hg (dL_ HB) : w.heap.size ≤ gb239)); replace HB := Aside0.mk (below_step (dL_ HB) hb); clear hb hbox hg) | ((with_reducible refine gate_dst (N := 3) rfl ?_); refine box_event ?hg (N := 3) ?hd (cs := #[.int .u64 0]) (t := 52) ?hr ?_; (case hd => rfl); (case hg => rfl); (case hr => first | (go_simp; done) | (go_simp; rfl)); intro gb240 hg w3 hbox hb; have BK240 := Aside0.mk (hbox); have GW240 := Aside0.mk ((dS_ hg (dL1_ HB GE239) : w.heap.size ≤ gb240)); have GE240 := Aside0.mk ((dS_ hg (dL1_ HB GE239) : w.heap.size ≤ gb240)); replace HB := Aside0.mk (below_step (dL1_ HB GE239) hb); have NB239_240 := Aside0.mk ((by rw [hg]; exact Nat.ne_of_lt (blk_lt (dB_ BK239)) : gb239 ≠ gb240)); have NB240_239 := Aside0.mk ((by rw [hg]; exact Nat.ne_of_gt (blk_lt (dB_ BK239)) : gb240 ≠ gb239)); replace BK239 := Aside0.mk (blk_below (g := gb239) (o := .cells #[.int .u64 a0_0] 52 (0, 0)) (dB_ BK239) hb); clear hb hbox hg; have hnb4 := NB239_240.out; have hnc4 := NB240_239.out; have hcz5_0 : w3.cell? ⟨gb239, 0, none⟩ = some (.int .u64 a0_0) := (blk_cell BK239.out 0).trans rfl; have hfz5_0 := blk_frozen BK239.out 0))
 have n0_ : Aside0 ((w3.setCell ⟨gb239, 0, none⟩ (.int .u64 (IntKind.u64.wrap (a0_0 + 11400714819323198485)))).heap[gb239]? = some (.cells #[.int .u64 (IntKind.u64.wrap (a0_0 + 11400714819323198485))] 52 (0, 0))) := ⟨by (with_reducible repeat (first | refine blk_drewN ?_ _ | refine blk_drew ?_ | refine blk_alloc ?_ _)); refine blk_put (cs := #[.int .u64 a0_0]) ?_ 0 _ rfl; (with_reducible repeat (first | refine blk_drewN ?_ _ | refine blk_drew ?_ | refine blk_alloc ?_ _)); exact BK239.out⟩
 have n1_ : Aside0 ((w3.setCell ⟨gb239, 0, none⟩ (.int .u64 (IntKind.u64.wrap (a0_0 + 11400714819323198485)))).heap[gb240]? = some (.cells #[.int .u64 0] 52 (0, 0))) := ⟨by (with_reducible repeat (first | refine blk_drewN ?_ _ | refine blk_drew ?_ | refine blk_alloc ?_ _)); refine blk_far ?_ NB240_239.out _; (with_reducible repeat (first | refine blk_drewN ?_ _ | refine blk_drew ?_ | refine blk_alloc ?_ _)); exact BK240.out⟩
 have n2_ : Aside0 (Below w.heap.size w (w3.setCell ⟨gb239, 0, none⟩ (.int .u64 (IntKind.u64.wrap (a0_0 + 11400714819323198485))))) := ⟨dL2_ HB GE239 GE240⟩
 (try clear BK239)
 (try clear BK240)
 (try clear HB)
 generalize (w3.setCell ⟨gb239, 0, none⟩ (.int .u64 (IntKind.u64.wrap (a0_0 + 11400714819323198485)))) = w6 at n0_ n1_ n2_ ⊢
 have BK239 := n0_
 have BK240 := n1_
 have HB := n2_
 clear n0_ n1_ n2_
 replace BK239 := Aside0.mk (blk_drew BK239.out)
 replace BK240 := Aside0.mk (blk_drew BK240.out)
 replace HB := Aside0.mk (below_drew1 HB.out)
 refine start_ (n := 7) (S := fun w' => w'.cell? ⟨gb239, 0, none⟩ = some (.int .u64 (IntKind.u64.wrap (a0_0 + 11400714819323198485)))) (ds := []) #[false, false, false, false, false, false, false] (by kernel_rfl) rfl rfl ((blk_cell BK239.out 0).trans rfl) (fun hHeld => ?_)
 generalize w6.drew = w7 at BK239 BK240 HB hHeld ⊢
 refine pure_ (i := 0) (N := some 21) (v := ?_) (a' := ?_) (bA 1 7) rfl rfl (by kernel_rfl) (fun _ _ _ h => h) (Or.inl ⟨by rfl, ?_⟩) ?_ ?_; rotate_left; (intro w'; go_simp; with_reducible rfl); rotate_left; (simp only [Act.put, sI_, s0_, sS_, i64_w, i32_w]; rfl)
 refine pure_ (i := 1) (N := some 22) (v := ?_) (a' := ?_) (bA 2 7) rfl rfl (by kernel_rfl) (fun _ _ _ h => h) (Or.inl ⟨by rfl, ?_⟩) ?_ ?_; rotate_left; (intro w'; go_simp; with_reducible rfl); rotate_left; (simp only [Act.put, sI_, s0_, sS_, i64_w, i32_w]; rfl)
 refine pure_ (i := 2) (N := some 23) (v := ?_) (a' := ?_) (bA 3 7) rfl rfl (by kernel_rfl) (fun _ _ _ h => h) (Or.inl ⟨by rfl, ?_⟩) ?_ ?_; rotate_left; (intro w'; go_simp; with_reducible rfl); rotate_left; (simp only [Act.put, sI_, s0_, sS_, i64_w, i32_w]; rfl)
 refine pure_ (i := 3) (N := some 24) (v := ?_) (a' := ?_) (bA 4 7) rfl rfl (by kernel_rfl) (fun _ _ _ h => h) (Or.inl ⟨by rfl, ?_⟩) ?_ ?_; rotate_left; (intro w'; go_simp; with_reducible rfl); rotate_left; (simp only [Act.put, sI_, s0_, sS_, i64_w, i32_w]; rfl)
 refine pure_ (i := 5) (N := some 2) (v := ?_) (a' := ?_) #[true, true, true, true, false, true, false] rfl rfl (by kernel_rfl) (fun _ _ _ h => h) (Or.inl ⟨by rfl, ?_⟩) ?_ ?_; rotate_left; (intro w'; go_simp; with_reducible rfl); rotate_left; (simp only [Act.put, sI_, s0_, sS_, i64_w, i32_w]; rfl)
 refine take_ (i := 4) (N := some 25) (v := ?_) (a' := ?_) (bA 6 7) rfl rfl (by kernel_rfl) (fun _ _ _ h => h) (Or.inl ⟨by rfl, ?_⟩) hHeld ?_ ?_; rotate_left; (intro w' s0; go_simp; with_reducible rfl); rotate_left; (simp only [Act.put, sI_, s0_, sS_, i64_w, i32_w]; rfl)
 refine one_ (i := 6) (N := none) (bA 7 7) rfl rfl (by kernel_rfl) (by decide) (fun K hK => ?_)
 have hs8 : w7.cell? ⟨gb240, 0, none⟩ = some (.int .u64 0) := (blk_cell BK240.out 0).trans rfl
 have hfs8 := blk_frozen BK240.out 0
 have hns8_0 := NB239_240.out
 have hms8_0 := NB240_239.out
 refine skip_ (w1 := ?_) (by rfl) rfl ?_ ?_
 rotate_left
 ·go_simp
  rfl
 refine hK.out _ _ (((cell_far (p := ⟨gb240, _, none⟩) NB239_240.out _).trans (hHeld))) (fun hHeld => ?_)
 clear hK K
 refine done_ (by kernel_rfl) ?_
 try go_wp2
 refine bodyPost_ret (results_tc rfl _ _ gb240 52 #[.int .u64 (IntKind.u64.wrap (a0_0 + 11400714819323198485))] (0, 0) _ rfl (by (with_reducible repeat (first | refine blk_drewN ?_ _ | refine blk_drew ?_ | refine blk_alloc ?_ _)); refine blk_put (cs := #[.int .u64 0]) ?_ 0 _ rfl; (with_reducible repeat (first | refine blk_drewN ?_ _ | refine blk_drew ?_ | refine blk_alloc ?_ _)); exact BK240.out) Try.underlying52 rfl (by kernel_rfl)) rfl ?_
 exact ⟨tE_, dL2_ HB GE239 GE240⟩

end Go.Proofs.Ytchflcnegpnkkab.Q

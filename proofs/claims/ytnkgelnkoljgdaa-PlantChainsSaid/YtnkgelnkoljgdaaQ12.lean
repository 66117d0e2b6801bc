-- PRINTED by print.py (a twelfth state) out of the translation. Not trusted: Lean checks it.
import Derived.Test.YtnkgelnkoljgdaaPrs
import Derived.Test.YtnkgelnkoljgdaaQ0
namespace Go.Proofs.Ytnkgelnkoljgdaa.Q
open Go.RowKit Go.Proofs.YtnkgelnkoljgdaaPrs Go.Proofs.YtnkgelnkoljgdaaOwn Go.Proofs.YtnkgelnkoljgdaaW.PrintWords Go.Proofs.YtnkgelnkoljgdaaW.PrintLast Go.Proofs.YtnkgelnkoljgdaaW.PrintMore
attribute [local go_sem] max2_int min2_int max_two min_two max_three min_three max_four min_four   -- for this text's walks alone
set_option linter.unusedVariables false
set_option linter.unusedSimpArgs false

/-! ### hinterlandlaw10_works: function 32 -/
def hinterlandlaw10_works.f  : Option ((List (S39))) := some (([(⟨(⟨#[109, 105, 108, 108]⟩ : ByteArray), (([0] : List Int)), (([(⟨1, 4⟩ : S41)] : List (S41)))⟩ : S39)] : List (S39)))
set_option maxHeartbeats 8000000 in
set_option maxRecDepth 100000 in
theorem hinterlandlaw10_works.calls  (r : List (S39)) (w : World) (h : hinterlandlaw10_works.f  = some r) :
    Calls Try.prog 32 #[] w fun e w' => ∃ v0_ : Value, e = .returned (v0_) ∧ Kd.N k39 39 w' w.heap.size (fun k_ => (w.heap.size ≤ k_)) v0_ r ∧ Below w.heap.size w w' := by
 have hu41 := Try.underlying41
 have hu39 := Try.underlying39
 have HB := Aside0.mk (Below.refl w.heap.size w)
 have H : (some (([(⟨(⟨#[109, 105, 108, 108]⟩ : ByteArray), (([0] : List Int)), (([(⟨1, 4⟩ : S41)] : List (S41)))⟩ : S39)] : List (S39)))) = some r := h
 clear h
 obtain ⟨y187, hy187⟩ : ∃ y_ : List Int, y_ = (([0] : List Int)) := ⟨_, rfl⟩
 replace H : (some (([(⟨(⟨#[109, 105, 108, 108]⟩ : ByteArray), y187, (([(⟨1, 4⟩ : S41)] : List (S41)))⟩ : S39)] : List (S39)))) = some r := by first | (rw [hy187]; with_reducible exact H) | (have H2_ := (Option.bind_some _ _).symm.trans H; rw [hy187]; with_reducible exact H2_) | (have H2_ := (Option.bind_some _ _).symm.trans H; with_reducible exact H2_) | with_reducible exact H | (rw [hy187]; exact H) | exact H
 have Ny187 := Aside0.mk hy187
 clear hy187
 obtain ⟨y190, hy190⟩ : ∃ y_ : List (S41), y_ = (([(⟨1, 4⟩ : S41)] : List (S41))) := ⟨_, rfl⟩
 replace H : (some (([(⟨(⟨#[109, 105, 108, 108]⟩ : ByteArray), y187, y190⟩ : S39)] : List (S39)))) = some r := by first | (rw [hy190]; with_reducible exact H) | (have H2_ := (Option.bind_some _ _).symm.trans H; rw [hy190]; with_reducible exact H2_) | (have H2_ := (Option.bind_some _ _).symm.trans H; with_reducible exact H2_) | with_reducible exact H | (rw [hy190]; exact H) | exact H
 have Ny190 := Aside0.mk hy190
 clear hy190
 obtain ⟨y193, hy193⟩ : ∃ y_ : List (S39), y_ = (([(⟨(⟨#[109, 105, 108, 108]⟩ : ByteArray), y187, y190⟩ : S39)] : List (S39))) := ⟨_, rfl⟩
 replace H : (some y193) = some r := by first | (rw [hy193]; with_reducible exact H) | (have H2_ := (Option.bind_some _ _).symm.trans H; rw [hy193]; with_reducible exact H2_) | (have H2_ := (Option.bind_some _ _).symm.trans H; with_reducible exact H2_) | with_reducible exact H | (rw [hy193]; exact H) | exact H
 have Ny193 := Aside0.mk hy193
 clear hy193
 obtain rfl := Option.some.inj H
 go_enter Try.func32, Try.ntmps32
 go_wp2_with (first | ((with_reducible refine gate_dst (N := 1) rfl ?_); refine Kd.R_lit (Kd.int .i64) _ 3 ?hg (N := 1) ?hd (xs := ([0] : List Int)) (inner := [.int .i64 0]) (ok := fun _ => True) (okp := fun _ => True) ?hr ?hp (fun _ hk => hk) trivial (Below.refl _ _) (Nat.le_refl _) (by simp) ?_; (case hd => rfl); (case hg => rfl); (case hr => first | (go_simp; done) | (go_simp; rfl)); (case hp => exact (Reps.one (show Kd.M (Kd.int .i64) _ _ _ 0 [.int .i64 0] from rfl) (Reps.none _ _))); intro v188 w1 ho2 hb hg_ hnew_; clear hg_ hnew_; (first | rw [← Ny187.out] at ho2 | (simp only [Int.reduceToNat] at ho2; rw [← Ny187.out] at ho2)); have HO189 := Aside0.mk (Kd.R_lower (Kd.R_newM (M := fun k_ => (w.heap.size ≤ k_)) ho2 (below_size (dL_ HB)) (fun k_ h_ => h_)) (below_size (dL_ HB))); replace HB := Aside0.mk (below_step (dL_ HB) hb); clear hb ho2) | ((with_reducible refine gate_dst (N := 3) rfl ?_); refine Kd.R_lit k41 _ 41 ?hg (N := 3) ?hd (xs := ([(⟨1, 4⟩ : S41)] : List (S41))) (inner := [.int .i64 1, .int .i64 4]) (ok := fun _ => True) (okp := fun _ => True) ?hr ?hp (fun _ hk => hk) trivial (Below.refl _ _) (Nat.le_refl _) (by simp) ?_; (case hd => rfl); (case hg => rfl); (case hr => first | (go_simp; done) | (go_simp; rfl)); (case hp => exact (Reps.c2 (show Kd.M k41 _ _ _ (⟨1, 4⟩ : S41) [.int .i64 1, .int .i64 4] from (k41_mkM _ _ _ (⟨1, 4⟩ : S41) )) (Reps.none _ _))); intro v191 w3 ho4 hb hg_ hnew_; clear hg_ hnew_; (first | rw [← Ny190.out] at ho4 | (simp only [Int.reduceToNat] at ho4; rw [← Ny190.out] at ho4)); replace HO189 := Aside0.mk (Kd.R_below (dR_ HO189) hb); have HO192 := Aside0.mk (Kd.R_lower (Kd.R_newM (M := fun k_ => (w.heap.size ≤ k_)) ho4 (below_size (dL_ HB)) (fun k_ h_ => h_)) (below_size (dL_ HB))); replace HB := Aside0.mk (below_step (dL_ HB) hb); clear hb ho4; obtain ⟨Ao5, co5, eo5⟩ := Kd.R_slice HO192.out; subst eo5; obtain ⟨Ao6, co6, eo6⟩ := Kd.R_slice HO189.out; subst eo6) | ((with_reducible refine gate_dst (N := 5) rfl ?_); refine Kd.N_lit k39 _ 39 ?hg (N' := 5) ?hd (xs := ([(⟨(⟨#[109, 105, 108, 108]⟩ : ByteArray), y187, y190⟩ : S39)] : List (S39))) (inner := [.string (⟨#[109, 105, 108, 108]⟩ : ByteArray), .slice Ao6 y187.length co6, .slice Ao5 y190.length co5]) (ok := (fun k_ => (w.heap.size ≤ k_))) (okp := (fun k_ => (w.heap.size ≤ k_))) ?hr ?hp (fun _ hk => hk) ((show ∀ k_, w3.heap.size ≤ k_ → (fun k_ => (w.heap.size ≤ k_)) k_ from fun k_ hk => (Nat.le_trans (below_size (dL_ HB)) hk)) _ (Nat.le_refl _)) (Below.refl _ _) (Nat.le_refl _) (by simp) ?_; (case hd => rfl); (case hg => rfl); (case hr => first | (go_simp; done) | (go_simp; rfl)); (case hp => exact (Reps.c3 (show Kd.FK k39 _ _ (⟨(⟨#[109, 105, 108, 108]⟩ : ByteArray), y187, y190⟩ : S39) [.string (⟨#[109, 105, 108, 108]⟩ : ByteArray), .slice Ao6 y187.length co6, .slice Ao5 y190.length co5] from (k39_mkF _ _ (⟨(⟨#[109, 105, 108, 108]⟩ : ByteArray), y187, y190⟩ : S39) (Kd.R_reads' (Kd.R_mono (ok' := (fun k_ => (w.heap.size ≤ k_))) (HO189.out) (fun k_ hk => hk.1))).2.1 (Kd.R_F (Kd.R_mono (ok' := (fun k_ => (w.heap.size ≤ k_))) (HO189.out) (fun k_ hk => hk.1))) (Kd.R_reads' (Kd.R_mono (ok' := (fun k_ => (w.heap.size ≤ k_))) (HO192.out) (fun k_ hk => hk.1))).2.1 (Kd.R_F (Kd.R_mono (ok' := (fun k_ => (w.heap.size ≤ k_))) (HO192.out) (fun k_ hk => hk.1))))) (Reps.none _ _))); intro v194 w7 ho8 hb hg_ hnew_; clear hg_ hnew_; (first | rw [← Ny193.out] at ho8 | (simp only [Int.reduceToNat] at ho8; rw [← Ny193.out] at ho8)); have HO195 := Aside0.mk (Kd.N_lower ho8 (below_size (dL_ HB))); replace HB := Aside0.mk (below_step (dL_ HB) hb); clear HO189 HO192; clear hb ho8))
 go_ret
 exact ⟨_, tE_, by (with_reducible repeat (first | apply Kd.N_alloc | apply Kd.N_drewN | apply Kd.N_drew)); exact HO195.out, dL_ HB⟩

end Go.Proofs.Ytnkgelnkoljgdaa.Q

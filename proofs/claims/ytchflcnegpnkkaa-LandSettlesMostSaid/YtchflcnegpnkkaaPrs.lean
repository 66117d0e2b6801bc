/- The closers that the printed texts use over and over, each said once (laid by press.py). -/
import Derived.Test.YtchflcnegpnkkaaOwn
namespace Go.Proofs.YtchflcnegpnkkaaPrs
open Go.RowKit Go.Proofs.YtchflcnegpnkkaaOwn Go.Proofs.YtchflcnegpnkkaaW.PrintWords Go.Proofs.YtchflcnegpnkkaaW.PrintMore Go.Proofs.YtchflcnegpnkkaaW.PrintLast
set_option linter.unusedVariables false

def bA (i n : Nat) : Array Bool := ⟨List.replicate i true ++ List.replicate (n - i) false⟩
theorem dB_ {q p : Prop} (x : Aside0 q) (h : q → p := by intro x_; (with_reducible repeat (first | refine blk_drewN ?_ _ | refine blk_drew ?_ | refine blk_alloc ?_ _)); exact x_) : p := h x.out
theorem dR_ {q p : Prop} (x : Aside0 q) (h : q → p := by intro x_; (with_reducible repeat (first | apply Kd.R_alloc | apply Kd.R_drewN | apply Kd.R_drew)); exact x_) : p := h x.out
theorem dL_ {q p : Prop} (x : Aside0 q) (h : q → p := by intro x_; repeat (first | (with_reducible first | exact x_ | apply below_alloc | apply pw_below_drewN | apply below_drew1) | exact x_)) : p := h x.out
theorem dL1_ {q p : Prop} {q1 : Prop} (x : Aside0 q) (x1 : Aside0 q1) (h : q → q1 → p := by intro x_ g1_; repeat (first | (with_reducible first | exact x_ | apply below_alloc | apply pw_below_drewN | apply below_drew1 | refine below_set ?_ g1_) | exact x_)) : p := h x.out x1.out
theorem dL2_ {q p : Prop} {q1 : Prop} {q2 : Prop} (x : Aside0 q) (x1 : Aside0 q1) (x2 : Aside0 q2) (h : q → q1 → q2 → p := by intro x_ g1_ g2_; repeat (first | (with_reducible first | exact x_ | apply below_alloc | apply pw_below_drewN | apply below_drew1 | refine below_set ?_ g1_ | refine below_set ?_ g2_) | exact x_)) : p := h x.out x1.out x2.out
theorem dL3_ {q p : Prop} {q1 : Prop} {q2 : Prop} {q3 : Prop} (x : Aside0 q) (x1 : Aside0 q1) (x2 : Aside0 q2) (x3 : Aside0 q3) (h : q → q1 → q2 → q3 → p := by intro x_ g1_ g2_ g3_; repeat (first | (with_reducible first | exact x_ | apply below_alloc | apply pw_below_drewN | apply below_drew1 | refine below_set ?_ g1_ | refine below_set ?_ g2_ | refine below_set ?_ g3_) | exact x_)) : p := h x.out x1.out x2.out x3.out
theorem dS_ {w W : World} {g : Nat} (hg : g = W.heap.size) (h : Below w.heap.size w W) : w.heap.size ≤ g := by rw [hg]; exact below_size h
theorem tS_ {p : Prop} (h : p := by first | rfl | (simp; done) | (simp [*]; done) | (refine congrArg (Value.int .i64) ?_; unfold wrap64; omega) | (simp only [shl_one_small _ (by assumption) (by omega)]; done) | (simp [*]; rw [shl_one_small _ (by assumption) (by omega)]; done)) : p := h
theorem tA_ {p : Prop} (h : p := by (try simp only [List.map_toArray, List.map_cons, List.map_nil]); first | done | rfl | (simp only [List.length_drop, List.length_take]; rfl)) : p := h
theorem tW_ {p : Prop} (h : p := by first | (with_reducible assumption) | assumption) : p := h
theorem tE_ {p : Prop} (h : p := by first | rfl | (simp [errW_none, errW_some] <;> rfl) | (simp [*, errW_none, errW_some] <;> rfl)) : p := h
theorem aB_ {q p : Prop} (x : q) (h : q → p := by intro x_; first | (rw [add_block]; exact x_) | (show (Addr.add _ _).block ≠ _; rw [add_block]; exact x_) | exact x_) : p := h x
theorem dC_ {q q1 p : Prop} (x : Aside0 q) (y : Aside0 q1) (h : q → q1 → p := by intro x_ y_; repeat (first | exact (Kd.C_below x_ y_) | (with_reducible refine Kd.C_alloc ?_ _) | (with_reducible refine Kd.C_drewN ?_ _) | (with_reducible refine Kd.C_drew ?_))) : p := h x.out y.out
theorem bc_ {w W : World} {a : Addr} {v : Value} (h : Aside0 (Below w.heap.size w W)) (hx : w.cell? a = some v) : W.cell? a = some v := (h.out.cell (World.block_lt_of_cell? w _ hx)).trans hx
theorem cs3_ {w : World} {g : Nat} {t : TypeId} {a0 a1 a2 : Value} (h : w.heap[g]? = some (.cells #[a0, a1, a2] t (0, 0))) : w.cell? ⟨g, 0, none⟩ = some a0 ∧ w.cell? ⟨g, 1, none⟩ = some a1 ∧ w.cell? ⟨g, 2, none⟩ = some a2 ∧ w.frozen? ⟨g, 0, none⟩ = false ∧ w.frozen? ⟨g, 1, none⟩ = false ∧ w.frozen? ⟨g, 2, none⟩ = false := ⟨(blk_cell h 0).trans rfl, (blk_cell h 1).trans rfl, (blk_cell h 2).trans rfl, blk_frozen h 0, blk_frozen h 1, blk_frozen h 2⟩
end Go.Proofs.YtchflcnegpnkkaaPrs

/- The seat's own words: lemmas of this session's on arrays told as lists (used by what hprint.py prints). -/
import Derived.Test.YtldbkigenaakkaaGreatDoorWMore
import Derived.Test.YtldbkigenaakkaaGreatDoorWLast
import Derived.KernelRfl
namespace Go.Proofs.YtldbkigenaakkaaGreatDoorOwn
open Go.RowKit Go.Proofs.YtldbkigenaakkaaGreatDoorW.PrintWords Go.Proofs.YtldbkigenaakkaaGreatDoorW.PrintMore
@[go_sem] theorem not_u64 : (if IntKind.u64.signed = true then (-1 : Int) else IntKind.u64.max) = IntKind.u64.max := rfl
theorem nums_get (k : IntKind) (l : List Int) (j : Int) (h0 : 0 ≤ j) (h1 : j < (l.length : Int)) : (nums k l)[j.toNat]? = some (.int k (rd l j)) := by
  have hj : j.toNat < l.length := by omega
  rw [nums, List.getElem?_map, List.getElem?_eq_getElem hj, rd, List.getD_eq_getElem?_getD, List.getElem?_eq_getElem hj]
  rfl
theorem arr_at (k : IntKind) (l : List Int) (j : Int) (h0 : 0 ≤ j) (h1 : j < (l.length : Int)) : (nums k l).toArray[j.toNat]? = some (.int k (rd l j)) := by
  rw [List.getElem?_toArray]
  exact nums_get k l j h0 h1
theorem run_arr {P : Program} {T E n : Nat} {u : TypeDesc} (hu : P.underlying T = some (.array n E)) (he : P.underlying E = some u) (ha : (match u with | .struct _ | .array _ _ => true | _ => false) = false) (hs : (P.info? E).map (fun i => i.size) = some 1) (k : IntKind) (l : List Int) (hl : l.length = n) (j : Int) (h0 : 0 ≤ j) (h1 : j < (n : Int)) (w : World) :
    (Instr.index T (.agg (nums k l).toArray) (.int .i64 j)).run P w = .ok (.int k (rd l j)) w := by
  obtain ⟨i, hi, hs⟩ := Option.map_eq_some_iff.1 hs
  have hg := arr_at k l j h0 (by omega)
  have hag : (isAgg E).run P w = .ok false w := by
    simp only [isAgg, Sem.run_bind, run_underlying he, Result.andThen_ok]
    cases u <;> simp_all
  have hp : (part E (nums k l).toArray (j.toNat * 1)).run P w = .ok (.int k (rd l j)) w := by
    simp [part, hag, hg, Sem.run_bind]
  simp [Instr.index, run_underlying hu, asIntOf, h0, h1, sizeOf, typeInfo, hi, hs]
  simpa using hp
theorem setRow_other (W : World) (g i : Nat) (cs : Array Value) (h : i ≠ g) : (W.setRow g cs).heap[i]? = W.heap[i]? := by
  simp [World.setRow, Array.getElem?_modify, Ne.symm h]
theorem setRow_below {W w0 : World} {B g : Nat} {cs : Array Value} (h : Below B w0 W) (hg : B ≤ g) : Below B w0 (W.setRow g cs) :=
  ⟨h.os, h.tape, h.output, by simpa using h.size, fun i hi => (setRow_other W g i cs (by omega)).trans (h.block i hi)⟩
section
variable {P : Program} {ops : Array Oper} {rest : List Oper} {o : Oper} {a : Act} {Q : Exit → Act → World → Prop}
/-- A whole variable in memory is written: the world behind it. -/
theorem storeall_event {W : World} (hgd : o.guard = none) {t : TypeId} {p : Tmp} {x : Operand} (ho : o.op = .store t (.tmp p) x) (hN : o.dst = none) {g T : Nat} {cs new : Array Value}
    (hp : a.eval (.tmp p) = .pointer (some ⟨g, 0, none⟩)) (hx : a.eval x = .agg new) (hi : (P.info? t).map (·.size) = some new.size) (hs : cs.size = new.size) (h1 : ∀ v ∈ new.toList, v.oneCell' = true)
    (hg : W.heap[g]? = some (.cells cs T (0, 0)))
    (h : ∀ w1, w1.heap[g]? = some (.cells new T (0, 0)) → (∀ i, i ≠ g → w1.heap[i]? = W.heap[i]?) → (∀ {B : Nat} {w0 : World}, Below B w0 W → B ≤ g → Below B w0 w1) → wpList P ops Q rest a w1) : wpList P ops Q (o :: rest) a W := by
  have hst := run_storeCells_at P g 0 T new.toList 0 cs W hg (by simp [hs]) h1
  have e : (cs.toList.take (0 + 0) ++ new.toList ++ cs.toList.drop (0 + 0 + new.toList.length)).toArray = new := by
    rw [List.drop_of_length_le (by simp [hs])]
    simp
  rw [e] at hst
  obtain ⟨i, hi1, hi2⟩ := Option.map_eq_some_iff.1 hi
  have hrun : (execOp a.eval o).run P W = .ok .skip (W.setRow g new) := by
    unfold execOp
    simp [ho, hp, hx, Instr.storeAt, Instr.sureAddr, storeVar, sizeOf, typeInfo, hi1, hi2, Value.cells, hst]
  refine store_event (w1 := W.setRow g new) hgd ho hN hrun ?_
  rintro w' rfl
  exact h _ (setRow_heap W g cs new T (0, 0) hg) (fun i hne => setRow_other W g i new hne) (fun hb hle => setRow_below hb hle)
end
theorem shl_one_small (x : Int) (h0 : 0 ≤ x) (h1 : x ≤ 63) : shl .i64 1 x = wrap64 (2 ^ x.toNat) := by
  unfold shl
  have : min x.toNat (IntKind.i64.bits) = x.toNat := by simp [IntKind.bits]; omega
  rw [this, Int.one_mul]
  exact Go.Proofs.YtldbkigenaakkaaGreatDoorW.PrintLast.i64_w _
theorem eqArr4 {P : Program} {T E : Nat} (hu : P.underlying T = some (.array 4 E)) (he : P.underlying E = some (.int .i64)) (hs : (P.info? E).map (fun i => i.size) = some 1) (d : Nat) (w : World) (x0 x1 x2 x3 y0 y1 y2 y3 : Int) :
    (Op.equalIn (d + 2) T (.agg #[.int .i64 x0, .int .i64 x1, .int .i64 x2, .int .i64 x3]) (.agg #[.int .i64 y0, .int .i64 y1, .int .i64 y2, .int .i64 y3])).run P w = .ok (x0 == y0 && (x1 == y1 && (x2 == y2 && (x3 == y3)))) w := by
  obtain ⟨i, hi, hs⟩ := Option.map_eq_some_iff.1 hs
  have hag : (isAgg E).run P w = .ok false w := by
    simp only [isAgg, Sem.run_bind, run_underlying he, Result.andThen_ok]
    rfl
  have hp : ∀ (cs : Array Value) (j : Nat) (v : Value), cs[j]? = some v → (part E cs j).run P w = .ok v w := by
    intro cs j v h
    simp [part, hag, h, Sem.run_bind]
  have hq : ∀ x y : Int, (Op.equalIn (d + 1) E (.int .i64 x) (.int .i64 y)).run P w = .ok (x == y) w := by
    intro x y
    simp [Op.equalIn, run_underlying he]
  rw [Op.equalIn]
  simp [run_underlying hu, sizeOf, typeInfo, hi, hs, Std.Legacy.Range.forIn_eq_forIn_range', Std.Legacy.Range.size, List.range', hp, hq]
  by_cases h0 : x0 = y0 <;> by_cases h1 : x1 = y1 <;> by_cases h2 : x2 = y2 <;> by_cases h3 : x3 = y3 <;> simp [h0, h1, h2, h3]
end Go.Proofs.YtldbkigenaakkaaGreatDoorOwn

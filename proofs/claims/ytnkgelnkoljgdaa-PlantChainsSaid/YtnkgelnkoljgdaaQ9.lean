-- PRINTED by print.py (a twelfth state) out of the translation. Not trusted: Lean checks it.
import Derived.Test.YtnkgelnkoljgdaaQ0
import Derived.Laws.CopyOwn
namespace Go.Proofs.Ytnkgelnkoljgdaa.Q
open Go.RowKit Go.Proofs.YtnkgelnkoljgdaaOwn Go.Proofs.YtnkgelnkoljgdaaW.PrintWords Go.Proofs.YtnkgelnkoljgdaaW.PrintLast Go.Proofs.YtnkgelnkoljgdaaW.PrintMore
attribute [local go_sem] max2_int min2_int max_two min_two max_three min_three max_four min_four   -- for this text's walks alone
set_option linter.unusedVariables false
set_option linter.unusedSimpArgs false

/-! ### plant_fresh: function 49 -/
-- IMPORT Derived.Laws.CopyOwn
/-- 'copy(xs, ys)' onto a row of the call's own that is as long: it holds ys. -/
theorem copyall_event {P : Program} {ops : Array Oper} {rest : List Oper} {o : Oper} {a : Act} {Q : Exit → Act → World → Prop} {W w0 : World} {base e : Nat} {ok : Nat → Prop} {v : Value} {xs ys : List Int} {A : Option Addr} {n c : Nat} (hgd : o.guard = none) (d s : Operand) (T : TypeId)
    (hop : o.op = .call { callee := .builtin .copy, args := #[d, s], argTypes := #[T, T] }) (hu : P.underlying T = some (.slice e)) (hsz : (P.info? e).map (·.size) = some 1) (hd : a.eval d = v) (hs : a.eval s = .slice A n c)
    (HO : (Kd.int .i64).R e W base ok v xs) (HR : (Kd.int .i64).C W A n ys) (hl : xs.length = ys.length) (hB : Below base w0 W)
    (h : ∀ w1 x, (Kd.int .i64).R e w1 base ok v ys → Below base w0 w1 → wpList P ops Q rest (a.put o.dst x) w1) : wpList P ops Q (o :: rest) a W := by
  have ho := Kd.own_of_R HO
  obtain ⟨h1, h2⟩ := ho
  have hn : ys.length = n := HR.1
  rcases h2 with ⟨rfl, hz⟩ | ⟨g, cap, cur, rfl, hbg, hg, hnc, hcm, hcs, htk⟩
  · have hy : ys = [] := List.eq_nil_of_length_eq_zero (by omega)
    subst hy
    refine wpList_copy_nothing hgd d s T T hop e hu hsz none A 0 0 n c hd hs (by simp) ?_
    exact h W _ (Kd.R_nil _ _ _ _ _) hB
  · have hcl : (ys.map (Value.int .i64)).length = Nat.min n xs.length := by rw [List.length_map]; rw [hl, hn]; exact (Nat.min_self n).symm
    refine wpList_copy_splice hgd d s T T hop e hu hsz (some ⟨g, 0, none⟩) A xs.length cap n c hd hs g 0 cur.toList e (by simpa using hg) (ys.map (Value.int .i64)) hcl ?_ (by simp; omega) (by intro u hu'; obtain ⟨q, _, rfl⟩ := List.mem_map.1 hu'; rfl) base w0 hB hbg ?_
    · intro hp
      refine ⟨rfl, ?_⟩
      obtain ⟨ad, e1, e2⟩ := HR.2.2 (by simpa [hn] using hp)
      refine ⟨ad, e1, fun j u hj => ?_⟩
      rw [List.getElem?_map] at hj
      obtain ⟨q, hq, rfl⟩ := Option.map_eq_some_iff.1 hj
      obtain ⟨cc, c1, c2, c3⟩ := e2 j q hq
      have hcc : cc = [.int .i64 q] := c2
      have := c3 0 (.int .i64 q) (by rw [hcc]; rfl)
      simpa [show (Kd.int .i64).sz = 1 from rfl] using this
    · intro w' hw' hb'
      refine h w' _ (Kd.R_of_own ⟨?_, Or.inr ⟨g, cap, _, by rw [hl], hbg, hw'.out, by omega, hcm, ?_, ?_⟩⟩ HO.1) hb'
      · simp [encs]
      · have := length_splice cur.toList 0 (ys.map (Value.int .i64)) (by simp; omega)
        simpa using this.trans (by simpa using hcs)
      · simp [splice, encs]
def plant_fresh.f (l0 : List Int) : Option (List Int) := if l0.length < 17592186044416 then some l0 else none
set_option maxHeartbeats 8000000 in
set_option maxRecDepth 100000 in
theorem plant_fresh.calls (A0 : Option Addr) (c0 : Nat) (l0 : List Int) (r : List Int) (w : World) (hr0 : Kd.C (Kd.int .i64) w A0 l0.length l0) (hc0 : l0.length ≤ c0) (h : plant_fresh.f l0 = some r) :
    Calls Try.prog 49 #[.slice A0 l0.length c0] w fun e w' => ∃ v0_ : Value, e = .returned (v0_) ∧ Kd.R (Kd.int .i64) 3 w' w.heap.size (fun _ => True) v0_ r ∧ Below w.heap.size w w' := by
  unfold plant_fresh.f at h
  have hlen : l0.length < 17592186044416 := by
    by_cases h1 : l0.length < 17592186044416
    · exact h1
    · rw [if_neg h1] at h; cases h
  rw [if_pos hlen] at h
  obtain rfl := Option.some.inj h
  clear h
  have HR := Aside0.mk hr0
  have HL := Aside0.mk hlen
  clear hr0 hlen
  go_enter Try.func49, Try.ntmps49
  go_wp2_with (first | ((with_reducible refine gate_dst (N := 6) rfl ?_); refine Kd.R_make (Kd.int .i64) (w0 := w) w.heap.size 3 ?hg (N := 6) ?hd 23 (.tmp 5) (.tmp 5) ?ho (l0.length : Int) ?hx ?hy Try.underlying23 (.int .i64 0) 8 info3 rfl (by decide) (by decide) 0 (ok := fun _ => True) (okp := fun _ => True) (show Kd.M (Kd.int .i64) _ _ _ 0 [.int .i64 0] from rfl) (fun _ hk => hk) trivial (by omega) (by have := HL.out; omega) (Below.refl _ _) (Nat.le_refl _) ?_; (case hg => rfl); (case hd => rfl); (case ho => rfl); (case hx => first | rfl | (go_simp; done)); (case hy => first | rfl | (go_simp; done)); intro v1 w1 HO hb _ _; have HO1 := Aside0.mk HO; have HB1 := Aside0.mk hb; clear HO hb) | ((with_reducible refine gate_builtin (b := .copy) rfl ?_); refine copyall_event (e := 3) (base := w.heap.size) (w0 := w) (v := v1) (xs := List.replicate (l0.length : Int).toNat 0) (ys := l0) (A := A0) (n := l0.length) (c := c0) ?hg2 (.tmp 7) (.tmp 8) 23 ?ho2 Try.underlying23 (by kernel_rfl) ?hd2 ?hs2 HO1.out ?hr2 ?hl2 HB1.out ?_; (case hg2 => rfl); (case ho2 => rfl); (case hd2 => first | rfl | (go_simp; done)); (case hs2 => first | rfl | (go_simp; done)); (case hr2 => exact Kd.C_below HR.out HB1.out); (case hl2 => simp); intro w2 x2 HO2 hb2; have HO3 := Aside0.mk HO2; have HB3 := Aside0.mk hb2; clear HO2 hb2))
  go_ret
  exact ⟨v1, rfl, HO3.out, HB3.out⟩

end Go.Proofs.Ytnkgelnkoljgdaa.Q

import Derived.Test.YtgnahbjpockdmaaMod
import Derived.Test.YtgnahbjpockdmaaQ12
import Derived.Test.YtgnahbjpockdmaaQ23
namespace Go.Proofs.Ytgnahbjpockdmaa.Spe
open Go.RowKit Go.Proofs.YtgnahbjpockdmaaOwn Go.Proofs.Ytgnahbjpockdmaa.Q Go.Proofs.Ytgnahbjpockdmaa.Mod Go.Proofs.YtgnahbjpockdmaaW.PrintWords Go.Proofs.YtgnahbjpockdmaaW.PrintLast Go.Proofs.YtgnahbjpockdmaaW.PrintMore
set_option linter.unusedVariables false
set_option linter.unusedSimpArgs false

def pull (p pu sp : Int) : Int := (mn (wrap64 (1000 * pu)) (wrap64 (Int.tdiv (wrap64 (3600 * p)) (mx sp 1))))
def drag (w ld sp up : Int) : Int := (wrap64 ((wrap64 (w + ld)) * (wrap64 ((wrap64 (20 + sp)) + (wrap64 (300 * up))))))
def diff (p w pu ld sp up : Int) : Int := wrap64 (pull p pu sp - drag w ld sp up)
def wide (w ld : Int) : Int := (wrap64 ((wrap64 (w + ld)) * 10000))
def core (f p w pu ld sp lim up : Int) : Int × Int := if sp > mn f lim then (mx (mn f lim) (wrap64 (sp - 10)), 0) else if diff p w pu ld sp up > 0 then (mn (wrap64 (sp + (mx (wrap64 (Int.tdiv (wrap64 (diff p w pu ld sp up * 36)) (wide w ld))) 1))) (mn f lim), 0) else if diff p w pu ld sp up < 0 then (mx (wrap64 (sp - (wrap64 (Int.tdiv (wrap64 ((wrap64 (-(diff p w pu ld sp up))) * 36)) (wide w ld))))) 0, 0) else (sp, 0)
def okS (f p w pu o c n ld sp lim up : Int) : Bool := (inB 0 1000000000 f && inB 0 1000000000 p && inB 1 1000000000 w && inB 0 1000000000 pu && inB 0 1000000000 o && inB 0 1000000000 c && inB 0 1000000000 n) && (inB 0 1000000 ld && (inB 0 600 sp && inB 0 600 lim) && inB (-1) 1 up)
theorem wide_ne {w ld : Int} (hw : 1 ≤ w ∧ w ≤ 1000000000) (hl : 0 ≤ ld ∧ ld ≤ 1000000) : wide w ld = (w + ld) * 10000 ∧ ¬ wide w ld = 0 := by
  have : wide w ld = (w + ld) * 10000 := by unfold wide; rw [w64_in (x := w + ld) (by omega) (by omega), w64_in (by omega) (by omega)]
  exact ⟨this, by omega⟩
theorem mx1 (x : Int) : ¬ mx x 1 = 0 := by unfold mx; split <;> omega
theorem pcore {f p w pu ld sp lim up o c n : Int} {b : Bool} (hw : 1 ≤ w ∧ w ≤ 1000000000) (hl : 0 ≤ ld ∧ ld ≤ 1000000) : Ev (fun k => fleet_Speed.j0 k ld sp lim up false f p w pu o c n b) (core f p w pu ld sp lim up) := by
  have h2 := (wide_ne hw hl).2
  refine Ev.step (fun _ => rfl) ?_
  unfold core
  show Ev (fun k => if false = true then some (0, 1) else if mx sp 1 = 0 then none else if sp > mn f lim then some (mx (mn f lim) (wrap64 (sp - 10)), 0) else if diff p w pu ld sp up > 0 then (if wide w ld = 0 then none else some (mn (wrap64 (sp + (mx (wrap64 (Int.tdiv (wrap64 (diff p w pu ld sp up * 36)) (wide w ld))) 1))) (mn f lim), 0)) else if diff p w pu ld sp up < 0 then (if wide w ld = 0 then none else some (mx (wrap64 (sp - (wrap64 (Int.tdiv (wrap64 ((wrap64 (-(diff p w pu ld sp up))) * 36)) (wide w ld))))) 0, 0)) else some (sp, 0)) _
  simp only [Bool.false_eq_true, mx1, h2, if_false]
  by_cases a1 : sp > mn f lim
  · simp only [a1, if_true]; exact Ev.now _
  · simp only [a1, if_false]
    by_cases a2 : diff p w pu ld sp up > 0
    · simp only [a2, if_true]; exact Ev.now _
    · simp only [a2, if_false]
      by_cases a3 : diff p w pu ld sp up < 0
      · simp only [a3, if_true]; exact Ev.now _
      · simp only [a3, if_false]; exact Ev.now _
theorem rcore {f p w pu ld sp lim up o c n : Int} {b : Bool} (hw : 1 ≤ w ∧ w ≤ 1000000000) (hl : 0 ≤ ld ∧ ld ≤ 1000000) : Ev (fun k => hinterlandref14_Speed.j2 k ld sp lim up false f p w pu o c n b) (core f p w pu ld sp lim up) := by
  have h2 := (wide_ne hw hl).2
  refine Ev.step (fun _ => rfl) ?_
  unfold core
  show Ev (fun k => if false = true then some (0, 1) else if sp > mn f lim then some (mx (mn f lim) (wrap64 (sp - 10)), 0) else if mx sp 1 = 0 then none else if diff p w pu ld sp up > 0 then (if wide w ld = 0 then none else some (mn (wrap64 (sp + (mx (wrap64 (Int.tdiv (wrap64 (diff p w pu ld sp up * 36)) (wide w ld))) 1))) (mn f lim), 0)) else if diff p w pu ld sp up < 0 then (if wide w ld = 0 then none else some (mx (wrap64 (sp - (wrap64 (Int.tdiv (wrap64 ((wrap64 (-(diff p w pu ld sp up))) * 36)) (wide w ld))))) 0, 0)) else some (sp, 0)) _
  simp only [Bool.false_eq_true, mx1, h2, if_false]
  by_cases a1 : sp > mn f lim
  · simp only [a1, if_true]; exact Ev.now _
  · simp only [a1, if_false]
    by_cases a2 : diff p w pu ld sp up > 0
    · simp only [a2, if_true]; exact Ev.now _
    · simp only [a2, if_false]
      by_cases a3 : diff p w pu ld sp up < 0
      · simp only [a3, if_true]; exact Ev.now _
      · simp only [a3, if_false]; exact Ev.now _
theorem perr (f p w pu o c n ld sp lim up : Int) (b : Bool) : Ev (fun k => fleet_Speed.j0 k ld sp lim up true f p w pu o c n b) ((0, 1) : Int × Int) := by
  refine Ev.step (fun _ => rfl) ?_
  simp only [fleet_Speed.j0, if_true]; exact Ev.now _
theorem rerr (f p w pu o c n ld sp lim up : Int) (b : Bool) : Ev (fun k => hinterlandref14_Speed.j2 k ld sp lim up true f p w pu o c n b) ((0, 1) : Int × Int) := by
  refine Ev.step (fun _ => rfl) ?_
  simp only [hinterlandref14_Speed.j2, if_true]; exact Ev.now _
def speedr (f p w pu o c n ld sp lim up : Int) : Int × Int := if okS f p w pu o c n ld sp lim up = true then core f p w pu ld sp lim up else (0, 1)
theorem speed_ok (f p w pu o c n : Int) (b : Bool) (ld sp lim up : Int) : Ev (fun k => fleet_Speed.f k f p w pu o c n b ld sp lim up) (speedr f p w pu o c n ld sp lim up) := by
  unfold fleet_Speed.f speedr
  refine Ev.bind (within_ok 0 1000000000 (l := [f, p, w, pu, o, c, n]) (by simp)) ?_
  have key : okS f p w pu o c n ld sp lim up = ([f, p, w, pu, o, c, n].all (inB 0 1000000000) && decide (1 ≤ w) && (inB 0 1000000 ld && (inB 0 600 sp && inB 0 600 lim) && inB (-1) 1 up)) := by
    unfold okS
    congr 1
    rw [Bool.eq_iff_iff]
    simp only [List.all_cons, List.all_nil, Bool.and_true, Bool.and_eq_true, inB_true, decide_eq_true_eq]
    constructor
    · intro h; exact ⟨⟨h.1.1.1.1.1.1, h.1.1.1.1.1.2, ⟨by omega, by omega⟩, h.1.1.1.2, h.1.1.2, h.1.2, h.2⟩, by omega⟩
    · intro h; exact ⟨⟨⟨⟨⟨⟨h.1.1, h.1.2.1⟩, ⟨h.2, h.1.2.2.1.2⟩⟩, h.1.2.2.2.1⟩, h.1.2.2.2.2.1⟩, h.1.2.2.2.2.2.1⟩, h.1.2.2.2.2.2.2⟩
  cases h0 : [f, p, w, pu, o, c, n].all (inB 0 1000000000) with
  | false => simp only [key, h0, Bool.false_and, Bool.false_eq_true, if_false]; exact perr ..
  | true =>
    simp only [if_true]
    by_cases h1 : w < 1
    · simp only [h1, if_true, key, h0, show ¬ 1 ≤ w by omega, decide_false, Bool.and_false, Bool.false_and, Bool.false_eq_true, if_false]; exact perr ..
    · simp only [h1, if_false]
      refine Ev.bind (within1 0 1000000 ld) ?_
      cases h2 : inB 0 1000000 ld with
      | false => simp only [key, h2, Bool.false_and, Bool.and_false, Bool.false_eq_true, if_false]; exact perr ..
      | true =>
        simp only [if_true]
        refine Ev.bind (within2 0 600 sp lim) ?_
        cases h3 : (inB 0 600 sp && inB 0 600 lim) with
        | false => simp only [key, h3, Bool.false_and, Bool.and_false, Bool.false_eq_true, if_false]; exact perr ..
        | true =>
          simp only [if_true]
          refine Ev.bind (within1 (-1) 1 up) ?_
          cases h4 : inB (-1) 1 up with
          | false => simp only [key, h4, Bool.and_false, Bool.false_eq_true, if_false, Bool.not_false]; exact perr ..
          | true =>
            have hw : inB 0 1000000000 w = true := by
              simp only [List.all_cons, Bool.and_eq_true] at h0; exact h0.2.2.1
            simp only [key, h0, h2, h3, h4, show 1 ≤ w by omega, decide_true, Bool.and_self, if_true, Bool.not_true]
            exact pcore ⟨by omega, (inB_true.1 hw).2⟩ (inB_true.1 h2)
theorem rlist (f p w pu o c n : Int) (b : Bool) (ld sp lim up : Int) {l : List Int} (hl : l.length ≤ 1000) {r : Int × Int} (hr : l.all (inB 0 1000000000) = true → Ev (fun k => hinterlandref14_Speed.l0 k ld sp lim up l (l.length : Int) (l.length : Int) f p w pu o c n b) r) (hn : l.all (inB 0 1000000000) = false → r = (0, 1)) : ∀ (d i : Nat), i + d = l.length → (l.take i).all (inB 0 1000000000) = true → Ev (fun k => hinterlandref14_Speed.l0 k ld sp lim up l (l.length : Int) (i : Int) f p w pu o c n b) r := by
  intro d; induction d with
  | zero =>
    intro i hi hp
    have : i = l.length := by omega
    subst this
    rw [List.take_of_length_le (Nat.le_refl _)] at hp
    exact hr hp
  | succ d ih =>
    intro i hi hp
    have hi0 : (i : Int) < (l.length : Int) := by omega
    have i0 : (0 : Int) ≤ (i : Int) := by omega
    have wi : wrap64 ((i : Int) + 1) = ((i + 1 : Nat) : Int) := by rw [w64_in (by omega) (by omega)]; omega
    have hb : (if rd l (i : Int) < 0 then true else decide (rd l (i : Int) > 1000000000)) = !inB 0 1000000000 (rd l (i : Int)) := by
      unfold inB
      by_cases h : rd l (i : Int) < 0
      · rw [if_pos h]; simp; omega
      · rw [if_neg h]; by_cases h2 : rd l (i : Int) > 1000000000 <;> simp [h2] <;> omega
    have hrd : rd l (i : Int) = l[i]'(by omega) := by
      unfold rd
      rw [List.getD_eq_getElem?_getD, List.getElem?_eq_getElem (by simp; omega)]; simp
    have tail : Ev (fun k => hinterlandref14_Speed.j1 k ld sp lim up l (l.length : Int) (i : Int) (!inB 0 1000000000 (rd l (i : Int))) f p w pu o c n b) r := by
      refine Ev.step (fun _ => rfl) ?_
      cases hx : inB 0 1000000000 (rd l (i : Int)) with
      | true =>
        simp only [hinterlandref14_Speed.j1, Bool.not_true, Bool.false_eq_true, if_false, wi]
        refine ih (i + 1) (by omega) ?_
        rw [List.take_add_one, List.getElem?_eq_getElem (show i < l.length by omega), List.all_append, hp, Option.toList_some, List.all_cons, ← hrd, hx]; rfl
      | false =>
        have hf : l.all (inB 0 1000000000) = false := by
          rw [Bool.eq_false_iff]; intro h; rw [List.all_eq_true] at h
          have := h (rd l (i : Int)) (by rw [hrd]; exact List.getElem_mem _)
          rw [hx] at this; cases this
        simp only [hinterlandref14_Speed.j1, Bool.not_false, if_true]; rw [hn hf]; exact Ev.now _
    refine Ev.step (fun _ => rfl) ?_
    rw [← hb] at tail
    simp only [hinterlandref14_Speed.l0, hi0, i0, if_true]
    by_cases h : rd l (i : Int) < 0
    · simp only [h, if_true] at tail ⊢; exact tail
    · simp only [h, if_false] at tail ⊢; exact tail
theorem rspeed_ok (f p w pu o c n : Int) (b : Bool) (ld sp lim up : Int) (hw : -9223372036854775808 ≤ w ∧ w ≤ 9223372036854775807) : Ev (fun k => hinterlandref14_Speed.f k f p w pu o c n b ld sp lim up) (speedr f p w pu o c n ld sp lim up) := by
  unfold hinterlandref14_Speed.f
  simp only [Option.bind_some]
  have hall : ([f, p, wrap64 (w - 1), pu, o, c, n].all (inB 0 1000000000) && decide (w ≤ 1000000000)) = (inB 0 1000000000 f && inB 0 1000000000 p && inB 1 1000000000 w && inB 0 1000000000 pu && inB 0 1000000000 o && inB 0 1000000000 c && inB 0 1000000000 n) := by
    rw [Bool.eq_iff_iff]
    simp only [List.all_cons, List.all_nil, Bool.and_true, Bool.and_eq_true, inB_true, decide_eq_true_eq]
    unfold wrap64
    constructor
    · intro h; exact ⟨⟨⟨⟨⟨⟨h.1.1, h.1.2.1⟩, by omega⟩, h.1.2.2.2.1⟩, h.1.2.2.2.2.1⟩, h.1.2.2.2.2.2.1⟩, h.1.2.2.2.2.2.2⟩
    · intro h; exact ⟨⟨h.1.1.1.1.1.1, h.1.1.1.1.1.2, by omega, h.1.1.1.2, h.1.1.2, h.1.2, h.2⟩, by omega⟩
  refine rlist f p w pu o c n b ld sp lim up (l := [f, p, wrap64 (w - 1), pu, o, c, n]) (by simp) (fun hA => ?_) (fun hA => ?_) 7 0 (by simp) (by simp)
  · rw [hA, Bool.true_and] at hall
    refine Ev.step (fun _ => rfl) ?_
    simp only [hinterlandref14_Speed.l0, Int.lt_irrefl, if_false, rwithin, Option.bind_some]
    unfold speedr okS
    rw [← hall]
    by_cases h1 : w > 1000000000
    · simp only [h1, if_true, show ¬ w ≤ 1000000000 by omega, decide_false, Bool.false_and, Bool.false_eq_true, if_false]; exact rerr ..
    · simp only [h1, if_false, show w ≤ 1000000000 by omega, decide_true, Bool.true_and]
      cases h2 : inB 0 1000000 ld with
      | false => simp only [Bool.false_and, Bool.false_eq_true, if_false]; exact rerr ..
      | true =>
        simp only [if_true, Bool.true_and]
        cases h3 : inB 0 600 sp with
        | false => simp only [Bool.false_and, Bool.false_eq_true, if_false]; exact rerr ..
        | true =>
          simp only [if_true, Bool.true_and]
          cases h4 : inB 0 600 lim with
          | false => simp only [Bool.false_and, Bool.false_eq_true, if_false]; exact rerr ..
          | true =>
            simp only [if_true, Bool.true_and]
            cases h5 : inB (-1) 1 up with
            | false => simp only [Bool.false_eq_true, if_false, Bool.not_false]; exact rerr ..
            | true =>
              simp only [if_true, Bool.not_true]
              have hx : inB 1 1000000000 w = true := by
                have := hall
                simp only [show w ≤ 1000000000 by omega, decide_true] at this
                have := this.symm
                simp only [Bool.and_eq_true] at this
                exact this.1.1.1.1.2
              exact rcore (inB_true.1 hx) (inB_true.1 h2)
  · unfold speedr okS
    rw [hA, Bool.false_and] at hall
    rw [← hall]; simp
end Go.Proofs.Ytgnahbjpockdmaa.Spe

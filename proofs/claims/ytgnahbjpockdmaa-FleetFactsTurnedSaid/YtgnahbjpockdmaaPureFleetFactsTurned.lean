/- What is proved: the facts of a train do not hang on the order of what is behind its first model. No condition. -/
import Derived.Test.YtgnahbjpockdmaaFac
import Derived.Test.YtgnahbjpockdmaaKnown
import Derived.Test.YtgnahbjpockdmaaQ22
namespace Go.Proofs.Ytgnahbjpockdmaa.Pure
open Go.RowKit Go.Proofs.YtgnahbjpockdmaaOwn Go.Proofs.Ytgnahbjpockdmaa.Q Go.Proofs.Ytgnahbjpockdmaa.Mod Go.Proofs.Ytgnahbjpockdmaa.Vm Go.Proofs.Ytgnahbjpockdmaa.Fac Go.Proofs.Ytgnahbjpockdmaa.Known Go.Proofs.YtgnahbjpockdmaaW.PrintWords Go.Proofs.YtgnahbjpockdmaaW.PrintLast Go.Proofs.YtgnahbjpockdmaaW.PrintMore
set_option linter.unusedVariables false
set_option linter.unusedSimpArgs false

theorem w64_comm (s a b : Int) : wrap64 (wrap64 (s + a) + b) = wrap64 (wrap64 (s + b) + a) := by unfold wrap64; omega
theorem sp_comm (a b s : Int) : fleet_engine_add.sp b (fleet_engine_add.sp a s) = fleet_engine_add.sp a (fleet_engine_add.sp b s) := by
  unfold fleet_engine_add.sp
  by_cases h1 : a > 0 <;> by_cases h2 : b > 0 <;> by_cases h3 : s = 0 <;> simp only [h1, h2, h3, if_true, if_false] <;> (repeat' split) <;> omega
theorem step_comm (s : St) (a b : S54) : Fac.step (Fac.step s a) b = Fac.step (Fac.step s b) a := by
  unfold Fac.step
  simp only [sp_comm a.f2 b.f2 s.1, w64_comm s.2.1 a.f3 b.f3, w64_comm s.2.2.1 a.f4 b.f4, w64_comm s.2.2.2.1 a.f5 b.f5, w64_comm s.2.2.2.2.1 a.f8 b.f8, w64_comm s.2.2.2.2.2.1 a.f9 b.f9, w64_comm s.2.2.2.2.2.2.1 a.f10 b.f10, Bool.or_assoc, Bool.or_comm a.f13 b.f13]
theorem fold_perm {l l' : List S54} (h : l.Perm l') : ∀ s : St, l.foldl Fac.step s = l'.foldl Fac.step s := by
  induction h with
  | nil => intro s; rfl
  | cons x _ ih => intro s; exact ih _
  | swap x y l => intro s; simp only [List.foldl_cons, step_comm]
  | trans _ _ ih1 ih2 => intro s; rw [ih1, ih2]
theorem all_perm {l l' : List Int} (h : l.Perm l') (p : Int → Bool) : l.all p = l'.all p := by
  rw [Bool.eq_iff_iff, List.all_eq_true, List.all_eq_true]
  exact ⟨fun a x hx => a x (h.mem_iff.2 hx), fun a x hx => a x (h.mem_iff.1 hx)⟩
/-- A consist and one turned: the same first model, the same others. -/
theorem jr_perm (v : Int) (M : List S54) {C C' : List Int} (h : C.Perm C') (h0 : rd C 0 = rd C' 0) : jr v M C = jr v M C' := by
  have hl := h.length_eq
  unfold jr fitr bad
  rw [hl, all_perm h (inR M), h0, all_perm h (sameK M (kindOf M (rd C' 0)))]
theorem facts_perm (v : Int) (M : List S54) {C C' : List Int} (h : C.Perm C') (h0 : rd C 0 = rd C' 0) : factsr v M C = factsr v M C' := by
  unfold factsr sums
  rw [jr_perm v M h h0, fold_perm (h.map (rd_T54 M))]
theorem turn_loop {M : List S54} {C : List Int} (hC : C.length ≤ 500) {r : Bool} {R : List Int} (hR : Ev (fun k => (fleet_Facts.f k M C).bind fun bt295 => ((fleet_Facts.f k M R).bind fun bt305 => (if bt295.2.2.2.2.2.2.2.2 = bt305.2.2.2.2.2.2.2.2 then (if (bt295.1 == bt305.1 && (bt295.2.1 == bt305.2.1 && (bt295.2.2.1 == bt305.2.2.1 && (bt295.2.2.2.1 == bt305.2.2.2.1 && (bt295.2.2.2.2.1 == bt305.2.2.2.2.1 && (bt295.2.2.2.2.2.1 == bt305.2.2.2.2.2.1 && (bt295.2.2.2.2.2.2.1 == bt305.2.2.2.2.2.2.1 && (bt295.2.2.2.2.2.2.2.1 == bt305.2.2.2.2.2.2.2.1)))))))) = true then ((hinterlandlaw14_known.f k).bind fun t315 => (some t315)) else (some false)) else (some false)))) r) : ∀ (d : Nat) (X : List Int), d + 1 ≤ C.length → X.length + d ≤ 1000 → R = X ++ ((C.take (d + 1)).drop 1).reverse → Ev (fun k => hinterlandlaw14_FleetFactsTurned.l0 k M C X (d : Int)) r := by
  intro d; induction d with
  | zero =>
    intro X hd hX hR2
    refine Ev.step (fun _ => rfl) ?_
    have : X = R := by rw [hR2]; simp
    simp only [hinterlandlaw14_FleetFactsTurned.l0, show ¬ (((0 : Nat) : Int) > 0) by omega, if_false, this]; exact hR
  | succ d ih =>
    intro X hd hX hR2
    have h1 : (((d + 1 : Nat) : Int) > 0) := by omega
    have h2 : (0 : Int) ≤ ((d + 1 : Nat) : Int) := by omega
    have h3 : ((d + 1 : Nat) : Int) < (C.length : Int) := by omega
    have w1 : wrap64 (((d + 1 : Nat) : Int) - 1) = (d : Int) := by rw [w64_in (by omega) (by omega)]; omega
    refine Ev.step (fun _ => rfl) ?_
    simp only [hinterlandlaw14_FleetFactsTurned.l0, h1, h2, h3, show X.length < 17592186044416 by omega, if_true, w1]
    refine ih (X ++ [rd C ((d + 1 : Nat) : Int)]) (by omega) (by simp; omega) ?_
    rw [hR2]
    have ht : C.take (d + 1 + 1) = C.take (d + 1) ++ [rd C ((d + 1 : Nat) : Int)] := by
      rw [List.take_add_one]
      congr 1
      unfold rd
      rw [List.getD_eq_getElem?_getD, List.getElem?_eq_getElem (show d + 1 < C.length by omega), List.getElem?_eq_getElem (by simp; omega)]; simp
    have hl : (C.take (d + 1)).length = d + 1 := by rw [List.length_take]; omega
    rw [ht, List.drop_append_of_le_length (by omega), List.reverse_append]
    simp
theorem FleetFactsTurned : hinterlandlaw14_FleetFactsTurned.Pure := by
  intro M C hM _
  refine Ev.rounds ?_
  unfold hinterlandlaw14_FleetFactsTurned.f
  obtain ⟨g, e1, e2⟩ := large_ok hM C [] 0 0 0 0 []
  refine Ev.bind e1 ?_
  have kn : Ev (fun k => hinterlandlaw14_FleetFactsTurned.j0 k M C true) true := by
    refine Ev.step (fun _ => rfl) ?_
    simp only [hinterlandlaw14_FleetFactsTurned.j0, if_true]
    exact Ev.bind known_ev (Ev.now _)
  cases g with
  | true => simp only [if_true]; exact kn
  | false =>
    simp only [Bool.false_eq_true, if_false]
    obtain ⟨s, hC, _, _⟩ := e2 rfl
    by_cases hz : C.length = 0
    · have : ((C.length : Int) == 0) = true := by rw [hz]; rfl
      rw [this]; exact kn
    · have hb : ((C.length : Int) == 0) = false := by rw [beq_eq_false_iff_ne]; omega
      rw [hb]
      obtain ⟨v, v1, v2, v3⟩ := vm_both s
      have w1 : wrap64 ((C.length : Int) - 1) = ((C.length - 1 : Nat) : Int) := by rw [w64_in (by omega) (by omega)]; omega
      have hcons : C = rd C 0 :: C.drop 1 := by
        have := drop_at (l := C) (i := 0) (d := C.length - 1) (by omega)
        rw [List.drop_zero] at this; exact this
      have hperm : C.Perm (([rd C 0] : List Int) ++ (C.drop 1).reverse) := by
        rw [List.singleton_append]
        refine List.Perm.trans (by rw [← hcons]) (List.Perm.cons _ (List.reverse_perm _).symm)
      have hrd : rd C 0 = rd (([rd C 0] : List Int) ++ (C.drop 1).reverse) 0 := by rfl
      have hlen : (([rd C 0] : List Int) ++ (C.drop 1).reverse).length ≤ 500 := by rw [← hperm.length_eq]; exact hC
      refine Ev.step (fun _ => rfl) ?_
      simp only [hinterlandlaw14_FleetFactsTurned.j0, Bool.false_eq_true, if_false, show 0 < (C.length : Int) by omega, if_true, w1]
      refine turn_loop hC (R := ([rd C 0] : List Int) ++ (C.drop 1).reverse) ?_ (C.length - 1) _ (by omega) (by simp; omega) ?_
      · refine Ev.bind (facts_ok hC v1) (Ev.bind (facts_ok hlen v1) ?_)
        rw [← facts_perm v M hperm hrd]
        simp only [if_true, beq_self_eq_true, Bool.and_self]
        exact Ev.bind known_ev (Ev.now _)
      · rw [show C.length - 1 + 1 = C.length by omega, List.take_of_length_le (Nat.le_refl _)]
end Go.Proofs.Ytgnahbjpockdmaa.Pure

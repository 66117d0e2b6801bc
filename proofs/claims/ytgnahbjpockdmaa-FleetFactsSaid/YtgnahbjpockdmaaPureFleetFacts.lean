/- What is proved: fleet.Facts and the reference's Facts answer alike. No condition. -/
import Derived.Test.YtgnahbjpockdmaaFac
import Derived.Test.YtgnahbjpockdmaaKnown
import Derived.Test.YtgnahbjpockdmaaQ21
namespace Go.Proofs.Ytgnahbjpockdmaa.Pure
open Go.RowKit Go.Proofs.YtgnahbjpockdmaaOwn Go.Proofs.Ytgnahbjpockdmaa.Q Go.Proofs.Ytgnahbjpockdmaa.Mod Go.Proofs.Ytgnahbjpockdmaa.Vm Go.Proofs.Ytgnahbjpockdmaa.Fac Go.Proofs.Ytgnahbjpockdmaa.Known Go.Proofs.YtgnahbjpockdmaaW.PrintWords Go.Proofs.YtgnahbjpockdmaaW.PrintLast Go.Proofs.YtgnahbjpockdmaaW.PrintMore
set_option linter.unusedVariables false
set_option linter.unusedSimpArgs false
theorem FleetFacts : hinterlandlaw14_FleetFacts.Pure := by
  intro M C hM _
  refine Ev.rounds ?_
  unfold hinterlandlaw14_FleetFacts.f
  obtain ⟨g, e1, e2⟩ := large_ok hM C [] 0 0 0 0 []
  refine Ev.bind e1 ?_
  cases g with
  | true => simp only [if_true]; exact Ev.bind known_ev (Ev.now _)
  | false =>
    simp only [Bool.false_eq_true, if_false]
    obtain ⟨s, hC, _, _⟩ := e2 rfl
    obtain ⟨v, v1, v2, v3⟩ := vm_both s
    refine Ev.bind (facts_ok hC v1) (Ev.bind (rfacts_ok hC v2 v3) ?_)
    simp only [if_true, beq_self_eq_true, Bool.and_self]
    exact Ev.bind known_ev (Ev.now _)
end Go.Proofs.Ytgnahbjpockdmaa.Pure

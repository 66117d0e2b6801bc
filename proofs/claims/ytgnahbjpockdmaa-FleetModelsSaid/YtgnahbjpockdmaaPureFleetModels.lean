/- What is proved: fleet.ValidateModels and the reference answer alike. No condition. -/
import Derived.Test.YtgnahbjpockdmaaVm
import Derived.Test.YtgnahbjpockdmaaKnown
import Derived.Test.YtgnahbjpockdmaaQ18
namespace Go.Proofs.Ytgnahbjpockdmaa.Pure
open Go.RowKit Go.Proofs.YtgnahbjpockdmaaOwn Go.Proofs.Ytgnahbjpockdmaa.Q Go.Proofs.Ytgnahbjpockdmaa.Mod Go.Proofs.Ytgnahbjpockdmaa.Vm Go.Proofs.Ytgnahbjpockdmaa.Known Go.Proofs.YtgnahbjpockdmaaW.PrintWords Go.Proofs.YtgnahbjpockdmaaW.PrintLast Go.Proofs.YtgnahbjpockdmaaW.PrintMore
set_option linter.unusedVariables false
set_option linter.unusedSimpArgs false
theorem FleetModels : hinterlandlaw14_FleetModels.Pure := by
  intro M hM
  refine Ev.rounds ?_
  unfold hinterlandlaw14_FleetModels.f
  obtain ⟨g, e1, e2⟩ := large_ok hM [] [] 0 0 0 0 []
  refine Ev.bind e1 ?_
  cases g with
  | true => simp only [if_true]; exact Ev.bind known_ev (Ev.now _)
  | false =>
    simp only [Bool.false_eq_true, if_false]
    obtain ⟨r, v1, v2, _⟩ := vm_both (e2 rfl).1
    refine Ev.bind v1 (Ev.bind v2 ?_)
    simp only [if_true]
    exact Ev.bind known_ev (Ev.now _)
end Go.Proofs.Ytgnahbjpockdmaa.Pure

/- What is proved: fleet.Speed and the reference's Speed answer alike. No condition. -/
import Derived.Test.YtgnahbjpockdmaaSpe
import Derived.Test.YtgnahbjpockdmaaKnown
import Derived.Test.YtgnahbjpockdmaaQ24
namespace Go.Proofs.Ytgnahbjpockdmaa.Pure
open Go.RowKit Go.Proofs.YtgnahbjpockdmaaOwn Go.Proofs.Ytgnahbjpockdmaa.Q Go.Proofs.Ytgnahbjpockdmaa.Mod Go.Proofs.Ytgnahbjpockdmaa.Spe Go.Proofs.Ytgnahbjpockdmaa.Known Go.Proofs.YtgnahbjpockdmaaW.PrintWords Go.Proofs.YtgnahbjpockdmaaW.PrintLast Go.Proofs.YtgnahbjpockdmaaW.PrintMore
set_option linter.unusedVariables false
set_option linter.unusedSimpArgs false
theorem FleetSpeeds : hinterlandlaw14_FleetSpeeds.Pure := by
  intro f p w pu o c n b ld sp lim up _ _ hw _ _ _ _ _ _ _ _ _
  refine Ev.rounds ?_
  unfold hinterlandlaw14_FleetSpeeds.f
  refine Ev.bind (speed_ok ..) (Ev.bind (rspeed_ok _ _ _ _ _ _ _ _ _ _ _ _ (wInt_i64 hw)) ?_)
  simp only [if_true]
  exact Ev.bind known_ev (Ev.now _)
end Go.Proofs.Ytgnahbjpockdmaa.Pure

import Derived.Test.YtmgccgiomnkbmaaDate
import Derived.Test.YtmgccgiomnkbmaaPlain
import Derived.Test.YtmgccgiomnkbmaaQ12
namespace Go.Proofs.Ytmgccgiomnkbmaa.Pure
open Go.RowKit Go.Proofs.YtmgccgiomnkbmaaOwn Go.Proofs.Ytmgccgiomnkbmaa.Q Go.Proofs.Ytmgccgiomnkbmaa.Date Go.Proofs.YtmgccgiomnkbmaaW.PrintWords Go.Proofs.YtmgccgiomnkbmaaW.PrintLast
/-- Where a stream is behind any number of draws, and that skips add up. -/
theorem RollSkips : hinterlandlaw01_RollSkips.Pure := by
  intro s a b hs ha hb
  have hk := known_tells 300 (Nat.le_refl _)
  refine ⟨300, ?_⟩
  have h0 := wInt_u64 hs
  unfold hinterlandlaw01_RollSkips.f roll_Skip.f hinterlandref01_Skip.f roll_Next.f
  simp only [Option.bind_some, hk, u64w]
  unfold wrap64
  rw [if_pos (by simp only [beq_iff_eq]; omega), if_pos (by simp only [beq_iff_eq]; omega), if_pos (by simp only [beq_iff_eq]; omega), if_pos (by simp only [beq_iff_eq]; omega)]
end Go.Proofs.Ytmgccgiomnkbmaa.Pure

import Derived.Test.YtchflcnegpnkkaaPlain
import Derived.Test.YtchflcnegpnkkaaQ17
import Derived.Test.YtchflcnegpnkkaaQ18
namespace Go.Proofs.Ytchflcnegpnkkaa.Self
open Go.RowKit Go.Proofs.YtchflcnegpnkkaaOwn Go.Proofs.Ytchflcnegpnkkaa.Q Go.Proofs.YtchflcnegpnkkaaW.PrintWords Go.Proofs.YtchflcnegpnkkaaW.PrintLast
theorem list_self {l : List Int} (hl : l.length < 1000000000) : ∀ (d : Nat) (i : Int), 0 ≤ i → i + d = l.length → Ev (fun k => hinterlandsame_List_int.l0 k l l i) true := by
  intro d; induction d with
  | zero =>
    intro i i0 hd
    refine Ev.step (fun _ => rfl) ?_
    simp only [hinterlandsame_List_int.l0, show ¬ i < (l.length : Int) by omega, if_false]; exact Ev.now _
  | succ d ih =>
    intro i i0 hd
    refine Ev.step (fun _ => rfl) ?_
    simp only [hinterlandsame_List_int.l0, show i < (l.length : Int) by omega, i0, if_true, show wrap64 (i + 1) = i + 1 from w64_in (by omega) (by omega)]
    exact ih (i + 1) (by omega) (by omega)
theorem land_self (a b : Int) {l : List Int} (hl : l.length < 1000000000) : Ev (fun k => hinterlandsame_Land.f k a b l a b l) true := by
  unfold hinterlandsame_Land.f
  simp only [if_true]
  refine Ev.bind (?_ : Ev _ true) (Ev.now _)
  unfold hinterlandsame_List_int.f
  simp only [if_true]
  exact list_self hl l.length 0 (by omega) (by omega)
end Go.Proofs.Ytchflcnegpnkkaa.Self

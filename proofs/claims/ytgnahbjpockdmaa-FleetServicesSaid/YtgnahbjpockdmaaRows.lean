/-
  No cell of these rows narrows 'for every input' (looked for: loops, veiled, ifaces, maps, wideKeys, modest, calm, conditions, laid).
  DERIVED. THE GIVEN ROWS OF THIS SEAT. 12 by the template 'for every input the law returns true; each argument reads behind the call as it read before'; 0 by the template 'total and deterministic' (their statements: YtgnahbjpockdmaaTotals.lean).
  GIVEN WITH THE SEED: the statements are not yours to turn. If you find one false, say at which input.
  Laid BY PROGRAM, IN A SANDBOX (cutbox-rows.mjs): the forced cells as the released guide's own fill.sh prints them over the translation a65bc184eb93ce48… (all of the seat's roots in one cut). By AI agents, Wed Nov 11 2026. No macro, syntax, notation, axiom, sorry.
-/
import Derived.Test.YtgnahbjpockdmaaChecked
import GoSem.Claim
import GoSem.ClaimJoined
import GoSem.ClaimMapViews
import Derived.JoinedTies
import Derived.KernelRfl
namespace Go.Proofs.Ytgnahbjpockdmaa
/- THE CELL 'sum', in the pinned program and in every row, IS THE sha256 OF THE DUMP (.gsa) THAT YtgnahbjpockdmaaProg.lean LOADS. Nothing in Lean hashes anything: it is a label: what it is worth is what the hold of that sum in a sandbox is worth. -/
noncomputable def Try.pinned : Pinned := { name := "ytgnahbjpockdmaa", sum := "a65bc184eb93ce48d3f2424de7edb0f0578b29c21eda4bd802f755b83bb2b9e1", checked := Try.checked }
namespace Rows
def none {H : Type} : Left H := { results := [], args := [] }

/-- 'hinterlandlaw14.FleetModels': WHATEVER THE INPUT: true; the input reads as it did. -/
def fleetModelsSpec : ChangeSpec := { name := "fleetModels", fn := fun _ => fun
  | [d] => { results := [.lit (.bool true)], args := [d] }
  | _ => none }
def fleetModelsRow : OpenClaim := { program := "ytgnahbjpockdmaa", sum := "a65bc184eb93ce48d3f2424de7edb0f0578b29c21eda4bd802f755b83bb2b9e1", func := "hinterland/hinterlandlaw14.FleetModels", spec := "fleetModels", unfollowed := true, recurses := true, apart := false }
def FleetModelsSaid : Prop := fleetModelsRow.holds Try.pinned (OpenSpec.ofChange fleetModelsSpec)

/-- ITS FALSE NEIGHBOUR: 'it returns false'. Refute it at one input. -/
def fleetModelsWrong : ChangeSpec := { name := "fleetModels", fn := fun _ => fun
  | [d] => { results := [.lit (.bool false)], args := [d] }
  | _ => none }
def FleetModelsWrongFalsely : Prop := fleetModelsRow.holds Try.pinned (OpenSpec.ofChange fleetModelsWrong)

/-- 'hinterlandlaw14.FleetFacts': WHATEVER THE INPUT: true; the input reads as it did. -/
def fleetFactsSpec : ChangeSpec := { name := "fleetFacts", fn := fun _ => fun
  | [d1, d2] => { results := [.lit (.bool true)], args := [d1, d2] }
  | _ => none }
def fleetFactsRow : OpenClaim := { program := "ytgnahbjpockdmaa", sum := "a65bc184eb93ce48d3f2424de7edb0f0578b29c21eda4bd802f755b83bb2b9e1", func := "hinterland/hinterlandlaw14.FleetFacts", spec := "fleetFacts", unfollowed := true, recurses := true, apart := false }
def FleetFactsSaid : Prop := fleetFactsRow.holds Try.pinned (OpenSpec.ofChange fleetFactsSpec)

/-- ITS FALSE NEIGHBOUR: 'it returns false'. Refute it at one input. -/
def fleetFactsWrong : ChangeSpec := { name := "fleetFacts", fn := fun _ => fun
  | [d1, d2] => { results := [.lit (.bool false)], args := [d1, d2] }
  | _ => none }
def FleetFactsWrongFalsely : Prop := fleetFactsRow.holds Try.pinned (OpenSpec.ofChange fleetFactsWrong)

/-- 'hinterlandlaw14.FleetFactsTurned': WHATEVER THE INPUT: true; the input reads as it did. -/
def fleetFactsTurnedSpec : ChangeSpec := { name := "fleetFactsTurned", fn := fun _ => fun
  | [d1, d2] => { results := [.lit (.bool true)], args := [d1, d2] }
  | _ => none }
def fleetFactsTurnedRow : OpenClaim := { program := "ytgnahbjpockdmaa", sum := "a65bc184eb93ce48d3f2424de7edb0f0578b29c21eda4bd802f755b83bb2b9e1", func := "hinterland/hinterlandlaw14.FleetFactsTurned", spec := "fleetFactsTurned", unfollowed := true, recurses := true, apart := false }
def FleetFactsTurnedSaid : Prop := fleetFactsTurnedRow.holds Try.pinned (OpenSpec.ofChange fleetFactsTurnedSpec)

/-- ITS FALSE NEIGHBOUR: 'it returns false'. Refute it at one input. -/
def fleetFactsTurnedWrong : ChangeSpec := { name := "fleetFactsTurned", fn := fun _ => fun
  | [d1, d2] => { results := [.lit (.bool false)], args := [d1, d2] }
  | _ => none }
def FleetFactsTurnedWrongFalsely : Prop := fleetFactsTurnedRow.holds Try.pinned (OpenSpec.ofChange fleetFactsTurnedWrong)

/-- 'hinterlandlaw14.FleetSpeeds': WHATEVER THE INPUT: true; the input reads as it did. -/
def fleetSpeedsSpec : ChangeSpec := { name := "fleetSpeeds", fn := fun _ => fun
  | [d1, d2, d3, d4, d5] => { results := [.lit (.bool true)], args := [d1, d2, d3, d4, d5] }
  | _ => none }
def fleetSpeedsRow : OpenClaim := { program := "ytgnahbjpockdmaa", sum := "a65bc184eb93ce48d3f2424de7edb0f0578b29c21eda4bd802f755b83bb2b9e1", func := "hinterland/hinterlandlaw14.FleetSpeeds", spec := "fleetSpeeds", unfollowed := true, recurses := true, apart := false }
def FleetSpeedsSaid : Prop := fleetSpeedsRow.holds Try.pinned (OpenSpec.ofChange fleetSpeedsSpec)

/-- ITS FALSE NEIGHBOUR: 'it returns false'. Refute it at one input. -/
def fleetSpeedsWrong : ChangeSpec := { name := "fleetSpeeds", fn := fun _ => fun
  | [d1, d2, d3, d4, d5] => { results := [.lit (.bool false)], args := [d1, d2, d3, d4, d5] }
  | _ => none }
def FleetSpeedsWrongFalsely : Prop := fleetSpeedsRow.holds Try.pinned (OpenSpec.ofChange fleetSpeedsWrong)

/-- 'hinterlandlaw14.FleetSpeedsKept': WHATEVER THE INPUT: true; the input reads as it did. -/
def fleetSpeedsKeptSpec : ChangeSpec := { name := "fleetSpeedsKept", fn := fun _ => fun
  | [d1, d2, d3, d4, d5, d6] => { results := [.lit (.bool true)], args := [d1, d2, d3, d4, d5, d6] }
  | _ => none }
def fleetSpeedsKeptRow : OpenClaim := { program := "ytgnahbjpockdmaa", sum := "a65bc184eb93ce48d3f2424de7edb0f0578b29c21eda4bd802f755b83bb2b9e1", func := "hinterland/hinterlandlaw14.FleetSpeedsKept", spec := "fleetSpeedsKept", unfollowed := true, recurses := true, apart := false }
def FleetSpeedsKeptSaid : Prop := fleetSpeedsKeptRow.holds Try.pinned (OpenSpec.ofChange fleetSpeedsKeptSpec)

/-- ITS FALSE NEIGHBOUR: 'it returns false'. Refute it at one input. -/
def fleetSpeedsKeptWrong : ChangeSpec := { name := "fleetSpeedsKept", fn := fun _ => fun
  | [d1, d2, d3, d4, d5, d6] => { results := [.lit (.bool false)], args := [d1, d2, d3, d4, d5, d6] }
  | _ => none }
def FleetSpeedsKeptWrongFalsely : Prop := fleetSpeedsKeptRow.holds Try.pinned (OpenSpec.ofChange fleetSpeedsKeptWrong)

/-- 'hinterlandlaw14.FleetTons': WHATEVER THE INPUT: true; the input reads as it did. -/
def fleetTonsSpec : ChangeSpec := { name := "fleetTons", fn := fun _ => fun
  | [d] => { results := [.lit (.bool true)], args := [d] }
  | _ => none }
def fleetTonsRow : OpenClaim := { program := "ytgnahbjpockdmaa", sum := "a65bc184eb93ce48d3f2424de7edb0f0578b29c21eda4bd802f755b83bb2b9e1", func := "hinterland/hinterlandlaw14.FleetTons", spec := "fleetTons", unfollowed := true, recurses := true, apart := false }
def FleetTonsSaid : Prop := fleetTonsRow.holds Try.pinned (OpenSpec.ofChange fleetTonsSpec)

/-- ITS FALSE NEIGHBOUR: 'it returns false'. Refute it at one input. -/
def fleetTonsWrong : ChangeSpec := { name := "fleetTons", fn := fun _ => fun
  | [d] => { results := [.lit (.bool false)], args := [d] }
  | _ => none }
def FleetTonsWrongFalsely : Prop := fleetTonsRow.holds Try.pinned (OpenSpec.ofChange fleetTonsWrong)

/-- 'hinterlandlaw14.FleetValidates': WHATEVER THE INPUT: true; the input reads as it did. -/
def fleetValidatesSpec : ChangeSpec := { name := "fleetValidates", fn := fun _ => fun
  | [d1, d2] => { results := [.lit (.bool true)], args := [d1, d2] }
  | _ => none }
def fleetValidatesRow : OpenClaim := { program := "ytgnahbjpockdmaa", sum := "a65bc184eb93ce48d3f2424de7edb0f0578b29c21eda4bd802f755b83bb2b9e1", func := "hinterland/hinterlandlaw14.FleetValidates", spec := "fleetValidates", unfollowed := true, recurses := true, apart := false }
def FleetValidatesSaid : Prop := fleetValidatesRow.holds Try.pinned (OpenSpec.ofChange fleetValidatesSpec)

/-- ITS FALSE NEIGHBOUR: 'it returns false'. Refute it at one input. -/
def fleetValidatesWrong : ChangeSpec := { name := "fleetValidates", fn := fun _ => fun
  | [d1, d2] => { results := [.lit (.bool false)], args := [d1, d2] }
  | _ => none }
def FleetValidatesWrongFalsely : Prop := fleetValidatesRow.holds Try.pinned (OpenSpec.ofChange fleetValidatesWrong)

/-- 'hinterlandlaw14.FleetWorths': WHATEVER THE INPUT: true; the input reads as it did. -/
def fleetWorthsSpec : ChangeSpec := { name := "fleetWorths", fn := fun _ => fun
  | [d1, d2] => { results := [.lit (.bool true)], args := [d1, d2] }
  | _ => none }
def fleetWorthsRow : OpenClaim := { program := "ytgnahbjpockdmaa", sum := "a65bc184eb93ce48d3f2424de7edb0f0578b29c21eda4bd802f755b83bb2b9e1", func := "hinterland/hinterlandlaw14.FleetWorths", spec := "fleetWorths", unfollowed := true, recurses := true, apart := false }
def FleetWorthsSaid : Prop := fleetWorthsRow.holds Try.pinned (OpenSpec.ofChange fleetWorthsSpec)

/-- ITS FALSE NEIGHBOUR: 'it returns false'. Refute it at one input. -/
def fleetWorthsWrong : ChangeSpec := { name := "fleetWorths", fn := fun _ => fun
  | [d1, d2] => { results := [.lit (.bool false)], args := [d1, d2] }
  | _ => none }
def FleetWorthsWrongFalsely : Prop := fleetWorthsRow.holds Try.pinned (OpenSpec.ofChange fleetWorthsWrong)

/-- 'hinterlandlaw14.FleetRooms': WHATEVER THE INPUT: true; the input reads as it did. -/
def fleetRoomsSpec : ChangeSpec := { name := "fleetRooms", fn := fun _ => fun
  | [d1, d2, d3] => { results := [.lit (.bool true)], args := [d1, d2, d3] }
  | _ => none }
def fleetRoomsRow : OpenClaim := { program := "ytgnahbjpockdmaa", sum := "a65bc184eb93ce48d3f2424de7edb0f0578b29c21eda4bd802f755b83bb2b9e1", func := "hinterland/hinterlandlaw14.FleetRooms", spec := "fleetRooms", unfollowed := true, recurses := true, apart := false }
def FleetRoomsSaid : Prop := fleetRoomsRow.holds Try.pinned (OpenSpec.ofChange fleetRoomsSpec)

/-- ITS FALSE NEIGHBOUR: 'it returns false'. Refute it at one input. -/
def fleetRoomsWrong : ChangeSpec := { name := "fleetRooms", fn := fun _ => fun
  | [d1, d2, d3] => { results := [.lit (.bool false)], args := [d1, d2, d3] }
  | _ => none }
def FleetRoomsWrongFalsely : Prop := fleetRoomsRow.holds Try.pinned (OpenSpec.ofChange fleetRoomsWrong)

/-- 'hinterlandlaw14.FleetNews': WHATEVER THE INPUT: true; the input reads as it did. -/
def fleetNewsSpec : ChangeSpec := { name := "fleetNews", fn := fun _ => fun
  | [d1, d2] => { results := [.lit (.bool true)], args := [d1, d2] }
  | _ => none }
def fleetNewsRow : OpenClaim := { program := "ytgnahbjpockdmaa", sum := "a65bc184eb93ce48d3f2424de7edb0f0578b29c21eda4bd802f755b83bb2b9e1", func := "hinterland/hinterlandlaw14.FleetNews", spec := "fleetNews", unfollowed := true, recurses := true, apart := false }
def FleetNewsSaid : Prop := fleetNewsRow.holds Try.pinned (OpenSpec.ofChange fleetNewsSpec)

/-- ITS FALSE NEIGHBOUR: 'it returns false'. Refute it at one input. -/
def fleetNewsWrong : ChangeSpec := { name := "fleetNews", fn := fun _ => fun
  | [d1, d2] => { results := [.lit (.bool false)], args := [d1, d2] }
  | _ => none }
def FleetNewsWrongFalsely : Prop := fleetNewsRow.holds Try.pinned (OpenSpec.ofChange fleetNewsWrong)

/-- 'hinterlandlaw14.FleetServices': WHATEVER THE INPUT: true; the input reads as it did. -/
def fleetServicesSpec : ChangeSpec := { name := "fleetServices", fn := fun _ => fun
  | [d1, d2] => { results := [.lit (.bool true)], args := [d1, d2] }
  | _ => none }
def fleetServicesRow : OpenClaim := { program := "ytgnahbjpockdmaa", sum := "a65bc184eb93ce48d3f2424de7edb0f0578b29c21eda4bd802f755b83bb2b9e1", func := "hinterland/hinterlandlaw14.FleetServices", spec := "fleetServices", unfollowed := true, recurses := true, apart := false }
def FleetServicesSaid : Prop := fleetServicesRow.holds Try.pinned (OpenSpec.ofChange fleetServicesSpec)

/-- ITS FALSE NEIGHBOUR: 'it returns false'. Refute it at one input. -/
def fleetServicesWrong : ChangeSpec := { name := "fleetServices", fn := fun _ => fun
  | [d1, d2] => { results := [.lit (.bool false)], args := [d1, d2] }
  | _ => none }
def FleetServicesWrongFalsely : Prop := fleetServicesRow.holds Try.pinned (OpenSpec.ofChange fleetServicesWrong)

/-- 'hinterlandlaw14.FleetRefitsAll': WHATEVER THE INPUT: true; the input reads as it did. -/
def fleetRefitsAllSpec : ChangeSpec := { name := "fleetRefitsAll", fn := fun _ => fun
  | [d1, d2, d3, d4] => { results := [.lit (.bool true)], args := [d1, d2, d3, d4] }
  | _ => none }
def fleetRefitsAllRow : OpenClaim := { program := "ytgnahbjpockdmaa", sum := "a65bc184eb93ce48d3f2424de7edb0f0578b29c21eda4bd802f755b83bb2b9e1", func := "hinterland/hinterlandlaw14.FleetRefitsAll", spec := "fleetRefitsAll", unfollowed := true, recurses := true, apart := false }
def FleetRefitsAllSaid : Prop := fleetRefitsAllRow.holds Try.pinned (OpenSpec.ofChange fleetRefitsAllSpec)

/-- ITS FALSE NEIGHBOUR: 'it returns false'. Refute it at one input. -/
def fleetRefitsAllWrong : ChangeSpec := { name := "fleetRefitsAll", fn := fun _ => fun
  | [d1, d2, d3, d4] => { results := [.lit (.bool false)], args := [d1, d2, d3, d4] }
  | _ => none }
def FleetRefitsAllWrongFalsely : Prop := fleetRefitsAllRow.holds Try.pinned (OpenSpec.ofChange fleetRefitsAllWrong)

/- THE SECOND FORM. 'bulk': how many values and letters a reading holds, each counted each time it is reached (what is shared counts as often as it is met; a slice's spare places count too). A statement '..UptoSaid' is the law's where the arguments, and the package variables that the reading takes, are together of bulk at most 1048576: NARROWER than '..Said'. Prove '..Said' where nothing that the law and all that it calls make is longer than what came in: it says more and counts as full. Else prove '..UptoSaid'. A law counts once. -/
mutual
def uptoBulk {H : Type} : DataW H → Nat
  | .lit (.string bytes) => bytes.length + 1
  | .lit _ => 1
  | .nil => 1
  | .ptr d => uptoBulk d + 1
  | .slice elems spare => uptoBulkAll elems + uptoBulkAll spare + 1
  | .agg parts => uptoBulkAll parts + 1
  | .iface _ d => uptoBulk d + 1
  | .map entries => uptoBulkEntries entries + 1
  | .held _ => 1
def uptoBulkAll {H : Type} : List (DataW H) → Nat
  | [] => 0
  | d :: r => uptoBulk d + uptoBulkAll r
def uptoBulkEntries {H : Type} : List (Lit × DataW H) → Nat
  | [] => 0
  | x :: r => uptoBulkEntry x + uptoBulkEntries r
def uptoBulkEntry {H : Type} : Lit × DataW H → Nat
  | (.string bytes, d) => bytes.length + uptoBulk d + 1
  | (_, d) => uptoBulk d + 1
 end
def uptoSmall : (H : Type) → List (DataW H) → Bool := fun _ ds => decide (uptoBulkAll ds ≤ 1048576)
def OpenSpec.upto (s : _root_.Go.ChangeSpec) : _root_.Go.OpenSpec := { _root_.Go.OpenSpec.ofChange s with cond := some uptoSmall }

/-- 'hinterlandlaw14.FleetModels', WHERE WHAT IT READS IS OF BULK AT MOST 1048576: true; the input reads as it did. -/
def fleetModelsUptoRow : OpenClaim := { program := "ytgnahbjpockdmaa", sum := "a65bc184eb93ce48d3f2424de7edb0f0578b29c21eda4bd802f755b83bb2b9e1", func := "hinterland/hinterlandlaw14.FleetModels", spec := "fleetModels", unfollowed := true, recurses := true, apart := false, narrowed := true }
def FleetModelsUptoSaid : Prop := fleetModelsUptoRow.holds Try.pinned (OpenSpec.upto fleetModelsSpec)

/-- 'hinterlandlaw14.FleetFacts', WHERE WHAT IT READS IS OF BULK AT MOST 1048576: true; the input reads as it did. -/
def fleetFactsUptoRow : OpenClaim := { program := "ytgnahbjpockdmaa", sum := "a65bc184eb93ce48d3f2424de7edb0f0578b29c21eda4bd802f755b83bb2b9e1", func := "hinterland/hinterlandlaw14.FleetFacts", spec := "fleetFacts", unfollowed := true, recurses := true, apart := false, narrowed := true }
def FleetFactsUptoSaid : Prop := fleetFactsUptoRow.holds Try.pinned (OpenSpec.upto fleetFactsSpec)

/-- 'hinterlandlaw14.FleetFactsTurned', WHERE WHAT IT READS IS OF BULK AT MOST 1048576: true; the input reads as it did. -/
def fleetFactsTurnedUptoRow : OpenClaim := { program := "ytgnahbjpockdmaa", sum := "a65bc184eb93ce48d3f2424de7edb0f0578b29c21eda4bd802f755b83bb2b9e1", func := "hinterland/hinterlandlaw14.FleetFactsTurned", spec := "fleetFactsTurned", unfollowed := true, recurses := true, apart := false, narrowed := true }
def FleetFactsTurnedUptoSaid : Prop := fleetFactsTurnedUptoRow.holds Try.pinned (OpenSpec.upto fleetFactsTurnedSpec)

/-- 'hinterlandlaw14.FleetSpeeds', WHERE WHAT IT READS IS OF BULK AT MOST 1048576: true; the input reads as it did. -/
def fleetSpeedsUptoRow : OpenClaim := { program := "ytgnahbjpockdmaa", sum := "a65bc184eb93ce48d3f2424de7edb0f0578b29c21eda4bd802f755b83bb2b9e1", func := "hinterland/hinterlandlaw14.FleetSpeeds", spec := "fleetSpeeds", unfollowed := true, recurses := true, apart := false, narrowed := true }
def FleetSpeedsUptoSaid : Prop := fleetSpeedsUptoRow.holds Try.pinned (OpenSpec.upto fleetSpeedsSpec)

/-- 'hinterlandlaw14.FleetSpeedsKept', WHERE WHAT IT READS IS OF BULK AT MOST 1048576: true; the input reads as it did. -/
def fleetSpeedsKeptUptoRow : OpenClaim := { program := "ytgnahbjpockdmaa", sum := "a65bc184eb93ce48d3f2424de7edb0f0578b29c21eda4bd802f755b83bb2b9e1", func := "hinterland/hinterlandlaw14.FleetSpeedsKept", spec := "fleetSpeedsKept", unfollowed := true, recurses := true, apart := false, narrowed := true }
def FleetSpeedsKeptUptoSaid : Prop := fleetSpeedsKeptUptoRow.holds Try.pinned (OpenSpec.upto fleetSpeedsKeptSpec)

/-- 'hinterlandlaw14.FleetTons', WHERE WHAT IT READS IS OF BULK AT MOST 1048576: true; the input reads as it did. -/
def fleetTonsUptoRow : OpenClaim := { program := "ytgnahbjpockdmaa", sum := "a65bc184eb93ce48d3f2424de7edb0f0578b29c21eda4bd802f755b83bb2b9e1", func := "hinterland/hinterlandlaw14.FleetTons", spec := "fleetTons", unfollowed := true, recurses := true, apart := false, narrowed := true }
def FleetTonsUptoSaid : Prop := fleetTonsUptoRow.holds Try.pinned (OpenSpec.upto fleetTonsSpec)

/-- 'hinterlandlaw14.FleetValidates', WHERE WHAT IT READS IS OF BULK AT MOST 1048576: true; the input reads as it did. -/
def fleetValidatesUptoRow : OpenClaim := { program := "ytgnahbjpockdmaa", sum := "a65bc184eb93ce48d3f2424de7edb0f0578b29c21eda4bd802f755b83bb2b9e1", func := "hinterland/hinterlandlaw14.FleetValidates", spec := "fleetValidates", unfollowed := true, recurses := true, apart := false, narrowed := true }
def FleetValidatesUptoSaid : Prop := fleetValidatesUptoRow.holds Try.pinned (OpenSpec.upto fleetValidatesSpec)

/-- 'hinterlandlaw14.FleetWorths', WHERE WHAT IT READS IS OF BULK AT MOST 1048576: true; the input reads as it did. -/
def fleetWorthsUptoRow : OpenClaim := { program := "ytgnahbjpockdmaa", sum := "a65bc184eb93ce48d3f2424de7edb0f0578b29c21eda4bd802f755b83bb2b9e1", func := "hinterland/hinterlandlaw14.FleetWorths", spec := "fleetWorths", unfollowed := true, recurses := true, apart := false, narrowed := true }
def FleetWorthsUptoSaid : Prop := fleetWorthsUptoRow.holds Try.pinned (OpenSpec.upto fleetWorthsSpec)

/-- 'hinterlandlaw14.FleetRooms', WHERE WHAT IT READS IS OF BULK AT MOST 1048576: true; the input reads as it did. -/
def fleetRoomsUptoRow : OpenClaim := { program := "ytgnahbjpockdmaa", sum := "a65bc184eb93ce48d3f2424de7edb0f0578b29c21eda4bd802f755b83bb2b9e1", func := "hinterland/hinterlandlaw14.FleetRooms", spec := "fleetRooms", unfollowed := true, recurses := true, apart := false, narrowed := true }
def FleetRoomsUptoSaid : Prop := fleetRoomsUptoRow.holds Try.pinned (OpenSpec.upto fleetRoomsSpec)

/-- 'hinterlandlaw14.FleetNews', WHERE WHAT IT READS IS OF BULK AT MOST 1048576: true; the input reads as it did. -/
def fleetNewsUptoRow : OpenClaim := { program := "ytgnahbjpockdmaa", sum := "a65bc184eb93ce48d3f2424de7edb0f0578b29c21eda4bd802f755b83bb2b9e1", func := "hinterland/hinterlandlaw14.FleetNews", spec := "fleetNews", unfollowed := true, recurses := true, apart := false, narrowed := true }
def FleetNewsUptoSaid : Prop := fleetNewsUptoRow.holds Try.pinned (OpenSpec.upto fleetNewsSpec)

/-- 'hinterlandlaw14.FleetServices', WHERE WHAT IT READS IS OF BULK AT MOST 1048576: true; the input reads as it did. -/
def fleetServicesUptoRow : OpenClaim := { program := "ytgnahbjpockdmaa", sum := "a65bc184eb93ce48d3f2424de7edb0f0578b29c21eda4bd802f755b83bb2b9e1", func := "hinterland/hinterlandlaw14.FleetServices", spec := "fleetServices", unfollowed := true, recurses := true, apart := false, narrowed := true }
def FleetServicesUptoSaid : Prop := fleetServicesUptoRow.holds Try.pinned (OpenSpec.upto fleetServicesSpec)

/-- 'hinterlandlaw14.FleetRefitsAll', WHERE WHAT IT READS IS OF BULK AT MOST 1048576: true; the input reads as it did. -/
def fleetRefitsAllUptoRow : OpenClaim := { program := "ytgnahbjpockdmaa", sum := "a65bc184eb93ce48d3f2424de7edb0f0578b29c21eda4bd802f755b83bb2b9e1", func := "hinterland/hinterlandlaw14.FleetRefitsAll", spec := "fleetRefitsAll", unfollowed := true, recurses := true, apart := false, narrowed := true }
def FleetRefitsAllUptoSaid : Prop := fleetRefitsAllUptoRow.holds Try.pinned (OpenSpec.upto fleetRefitsAllSpec)

end Rows
end Go.Proofs.Ytgnahbjpockdmaa

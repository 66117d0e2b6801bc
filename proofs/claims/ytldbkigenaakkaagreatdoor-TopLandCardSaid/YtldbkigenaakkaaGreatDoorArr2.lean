/- Arrays of pairs, told as two lists: a read at a reckoned place. -/
import Derived.Test.YtldbkigenaakkaaGreatDoorOwn
namespace Go.Proofs.YtldbkigenaakkaaGreatDoorOwn
open Go.RowKit Go.Proofs.YtldbkigenaakkaaGreatDoorW.PrintWords Go.Proofs.YtldbkigenaakkaaGreatDoorW.PrintMore
def pairs (k : IntKind) : List Int → List Int → List Value
  | a :: l, b :: m => .int k a :: .int k b :: pairs k l m
  | _, _ => []
theorem pairs_at (k : IntKind) : ∀ (l m : List Int) (i : Nat), i < l.length → l.length = m.length → ((pairs k l m).drop (i * 2)).take 2 = [.int k (l.getD i 0), .int k (m.getD i 0)]
  | [], _, i, h, _ => absurd h (by simp)
  | a :: l, [], i, _, e => absurd e (by simp)
  | a :: l, b :: m, 0, _, _ => by simp [pairs]
  | a :: l, b :: m, i + 1, h, e => by
    have := pairs_at k l m i (by simpa using h) (by simpa using e)
    rw [show (i + 1) * 2 = i * 2 + 1 + 1 by omega]
    simpa [pairs] using this
theorem run_arr2 {P : Program} {T E n : Nat} {u : TypeDesc} (hu : P.underlying T = some (.array n E)) (he : P.underlying E = some u) (ha : (match u with | .struct _ | .array _ _ => true | _ => false) = true) (hs : (P.info? E).map (fun i => i.size) = some 2) (k : IntKind) (l m : List Int) (hl : (l.length, m.length) = (n, n)) (j : Int) (h0 : 0 ≤ j) (h1 : j < (n : Int)) (w : World) :
    (Instr.index T (.agg (pairs k l m).toArray) (.int .i64 j)).run P w = .ok (.agg #[.int k (rd l j), .int k (rd m j)]) w := by
  obtain ⟨i, hi, hs⟩ := Option.map_eq_some_iff.1 hs
  obtain ⟨hl, hm⟩ := Prod.mk.inj hl
  have hg := pairs_at k l m j.toNat (by omega) (by omega)
  have hag : (isAgg E).run P w = .ok true w := by
    simp only [isAgg, Sem.run_bind, run_underlying he, Result.andThen_ok]
    cases u <;> simp_all
  have hx : (pairs k l m).toArray.extract (j.toNat * 2) (j.toNat * 2 + 2) = #[.int k (rd l j), .int k (rd m j)] := by
    apply Array.ext'
    simp only [rd]
    rw [Array.toList_extract]
    simpa [List.extract_eq_take_drop] using hg
  have hp : (part E (pairs k l m).toArray (j.toNat * 2)).run P w = .ok (.agg #[.int k (rd l j), .int k (rd m j)]) w := by
    simp [part, hag, Sem.run_bind, sizeOf, typeInfo, hi, hs]; simpa [rd] using hg
  simp [Instr.index, run_underlying hu, asIntOf, h0, h1, sizeOf, typeInfo, hi, hs]
  simpa using hp
end Go.Proofs.YtldbkigenaakkaaGreatDoorOwn

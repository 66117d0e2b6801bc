/- The seat's own words: arguments of whatever kinds, opened as the lists, records and numbers that a law's pure function takes. -/
import Derived.Test.YtldbkigenaakkaaGreatDoorWMore
import Derived.Test.YtldbkigenaakkaaGreatDoorWArr
import Derived.ChangeArms
import Derived.ChangeOld
import Derived.DataReads
import Derived.ChangeShapes
namespace Go.Proofs.YtldbkigenaakkaaGreatDoorOwn
open Go.RowKit Go.Proofs.YtldbkigenaakkaaGreatDoorW.PrintWords
/-- Whatever reads as data of type t is one of d's values, with its bounds. -/
def Opens (P : Program) (t : TypeId) {α : Type} (d : Kd α) (wf : α → Prop) : Prop :=
  ∀ {H : Type} {enc : TypeId × Value → H} {W : World} {fuel : Nat} {cs : List Value} {x : DataW H × List MemPlace},
    DataW.trod enc P W 0 (fun _ => true) true fuel t cs = some x → ∃ y, d.K W y cs ∧ wf y
def wInt (k : IntKind) (n : Int) : Prop := (Lit.int k n).wf = true
def wStr (s : ByteArray) : Prop := s.size ≤ maxLen
def wBool (_ : Bool) : Prop := True
def wRow {α : Type} (p : α → Prop) (l : List α) : Prop := l.length ≤ maxLen ∧ ∀ x ∈ l, p x
section
variable {P : Program} {t e : TypeId}
theorem opens_int {k : IntKind} (hu : P.underlying t = some (.int k)) : Opens P t (Kd.int k) (wInt k) := by
  intro H enc W fuel cs x h
  obtain ⟨n, rfl, _, hw⟩ := DataW.trod_int hu h
  exact ⟨n, rfl, hw⟩
theorem opens_bool (hu : P.underlying t = some .bool) : Opens P t Kd.bool wBool := by
  intro H enc W fuel cs x h
  obtain ⟨n, rfl, _⟩ := DataW.trod_bool hu h
  exact ⟨n, rfl, trivial⟩
theorem opens_string (hu : P.underlying t = some .string) : Opens P t Kd.string wStr := by
  intro H enc W fuel cs x h
  obtain ⟨n, rfl, _, hw⟩ := DataW.trod_string hu h
  exact ⟨n, rfl, hw⟩
theorem list_of {α : Type} {R : Nat → α → Prop} : ∀ n : Nat, (∀ i, i < n → ∃ y, R i y) → ∃ l : List α, l.length = n ∧ ∀ i y, l[i]? = some y → R i y
  | 0, _ => ⟨[], rfl, fun i y h => by simp at h⟩
  | n + 1, h => by
    obtain ⟨l, hl, hr⟩ := list_of n (fun i hi => h i (by omega))
    obtain ⟨y, hy⟩ := h n (by omega)
    refine ⟨l ++ [y], by simp [hl], fun i z hz => ?_⟩
    rcases Nat.lt_or_ge i l.length with hi | hi
    · rw [List.getElem?_append_left hi] at hz
      exact hr i z hz
    · have hi2 : i = l.length := by
        have := (List.getElem?_eq_some_iff.1 hz).1
        simp at this
        omega
      subst hi2
      have : y = z := by simpa using hz
      subst this
      rw [hl]
      exact hy
theorem opens_slice {α : Type} {d : Kd α} {wf : α → Prop} (hu : P.underlying t = some (.slice e)) (hs : P.cellsOf e = d.sz) (h1 : Opens P e d wf) : Opens P t (Kd.slice e d) (wRow wf) := by
  intro H enc W fuel cs x h
  rcases DataW.trod_slice hu h with ⟨rfl, _⟩ | ⟨a, len, cap, elems, rest, n, _, rfl, _, _, hle, hcap, hlen, hel, _⟩
  · exact ⟨[], ⟨none, 0, rfl, Nat.le_refl _, Kd.C_nil _ _⟩, Nat.zero_le _, fun x hx => by simp at hx⟩
  · have key : ∀ i, i < len → ∃ y c, c.length = d.sz ∧ d.K W y c ∧ wf y ∧ ∀ j u, c[j]? = some u → W.cell? (a.add (i * d.sz + j)) = some u := by
      intro i hi
      have hi2 := hel i hi
      rw [List.getElem?_eq_getElem (by omega)] at hi2
      obtain ⟨c, hc, ht⟩ := Option.bind_eq_some_iff.1 hi2
      obtain ⟨y, hK, hw⟩ := h1 ht
      obtain ⟨_, hl, hcell⟩ := World.cells?_some hc
      refine ⟨y, c, d.K_len hK, hK, hw, fun j u hu => ?_⟩
      have hj : j < c.length := (List.getElem?_eq_some_iff.1 hu).1
      have := hcell j (by omega)
      rw [hs, add_add] at this
      rw [this, hu]
    obtain ⟨l, hl, hr⟩ := list_of (R := fun i y => ∃ c, c.length = d.sz ∧ d.K W y c ∧ wf y ∧ ∀ j u, c[j]? = some u → W.cell? (a.add (i * d.sz + j)) = some u) len (fun i hi => by
      obtain ⟨y, c, h⟩ := key i hi
      exact ⟨y, c, h⟩)
    have hm : len ≤ maxLen := Nat.le_trans hle hcap
    refine ⟨l, ⟨some a, cap, by rw [hl], by omega, hl.trans hl.symm ▸ rfl, by unfold maxLen at hm; omega, fun _ => ⟨a, rfl, fun j p hj => ?_⟩⟩, by omega, fun y hy => ?_⟩
    · obtain ⟨c, h1, h2, _, h3⟩ := hr j p hj
      exact ⟨c, h1, h2, h3⟩
    · obtain ⟨i, hi, rfl⟩ := List.mem_iff_getElem.1 hy
      obtain ⟨c, _, _, h2, _⟩ := hr i _ (List.getElem?_eq_getElem hi)
      exact h2
/-- A record's cells out of its fields' cells. -/
theorem pair_cut {α β : Type} {a : Kd α} {b : Kd β} {w : World} {x : α × β} {cs : List Value} (n : Nat) (h0 : a.K w x.1 (cs.take n)) (h1 : b.K w x.2 (cs.drop n)) : (Kd.pair a b).K w x cs :=
  ⟨cs.take n, cs.drop n, (List.take_append_drop n cs).symm, h0, h1⟩
end
end Go.Proofs.YtldbkigenaakkaaGreatDoorOwn

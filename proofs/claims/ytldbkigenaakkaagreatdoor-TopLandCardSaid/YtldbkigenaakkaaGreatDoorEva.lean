/- The evaluator, part a. -/
import Derived.Orders
import Derived.LoopN
import Derived.Below
import Derived.Laws.Sem
import Derived.Laws.Cells
import Derived.Laws.Append
import Derived.Laws.MakeOwn
import Derived.Laws.Strings
import Derived.Laws.Slices
import Derived.Laws.BytesString
import Derived.Laws.Strings2
import Derived.Laws.AppendOwn
import Derived.Laws.Tables
import Derived.Laws.BytesArg
namespace Go.Proofs.YtldbkigenaakkaaGreatDoorExe
open Go
set_option linter.unusedVariables false
set_option linter.unusedSimpArgs false
set_option linter.unusedSectionVars false
/-! ### a tree of keys -/
inductive T (α : Type) where
  | l
  | n (v : Option α) (a b : T α)
def T.getF {α : Type} (f : Nat) : T α → Nat → Option α :=
  Nat.rec (motive := fun _ => T α → Nat → Option α) (fun _ _ => none)
    (fun _ ih t k => T.casesOn (motive := fun _ => Option α) t none fun v a b =>
      Nat.casesOn (motive := fun _ => Option α) k v fun k' =>
        Nat.casesOn (motive := fun _ => Option α) (Nat.mod k' 2) (ih a (Nat.div k' 2)) fun _ => ih b (Nat.div k' 2)) f
def T.get {α : Type} (t : T α) (k : Nat) : Option α := T.getF (Nat.succ k) t k
def T.setF {α : Type} (x : Option α) (f : Nat) : T α → Nat → T α :=
  Nat.rec (motive := fun _ => T α → Nat → T α) (fun t _ => t)
    (fun _ ih t k =>
      let go (v : Option α) (a b : T α) : T α := Nat.casesOn (motive := fun _ => T α) k (.n x a b) fun k' =>
        Nat.casesOn (motive := fun _ => T α) (Nat.mod k' 2) (.n v (ih a (Nat.div k' 2)) b) fun _ => .n v a (ih b (Nat.div k' 2))
      T.casesOn (motive := fun _ => T α) t (go none .l .l) go) f
def T.set {α : Type} (t : T α) (k : Nat) (x : Option α) : T α := T.setF x (Nat.succ k) t k
theorem T.getF_l {α : Type} (f k : Nat) : T.getF f (.l : T α) k = none := by cases f <;> rfl
theorem T.getF_n0 {α : Type} (f : Nat) (v : Option α) (a b : T α) : T.getF (f + 1) (.n v a b) 0 = v := rfl
theorem T.getF_nl {α : Type} (f k : Nat) (v : Option α) (a b : T α) (h : k % 2 = 0) : T.getF (f + 1) (.n v a b) (k + 1) = T.getF f a (k / 2) := by
  show Nat.casesOn (motive := fun _ => Option α) (k % 2) (T.getF f a (k / 2)) (fun _ => T.getF f b (k / 2)) = _
  rw [h]; rfl
theorem T.getF_nr {α : Type} (f k : Nat) (v : Option α) (a b : T α) (h : k % 2 = 1) : T.getF (f + 1) (.n v a b) (k + 1) = T.getF f b (k / 2) := by
  show Nat.casesOn (motive := fun _ => Option α) (k % 2) (T.getF f a (k / 2)) (fun _ => T.getF f b (k / 2)) = _
  rw [h]; rfl
/-- A node of any tree. -/
def T.v {α : Type} : T α → Option α | .l => none | .n v _ _ => v
def T.a {α : Type} : T α → T α | .l => .l | .n _ a _ => a
def T.b {α : Type} : T α → T α | .l => .l | .n _ _ b => b
theorem T.setF_0 {α : Type} (x : Option α) (f : Nat) (t : T α) : T.setF x (f + 1) t 0 = .n x t.a t.b := by cases t <;> rfl
theorem T.setF_l {α : Type} (x : Option α) (f k : Nat) (t : T α) (h : k % 2 = 0) : T.setF x (f + 1) t (k + 1) = .n t.v (T.setF x f t.a (k / 2)) t.b := by
  have e : T.setF x (f + 1) t (k + 1) = Nat.casesOn (motive := fun _ => T α) (k % 2) (.n t.v (T.setF x f t.a (k / 2)) t.b) fun _ => .n t.v t.a (T.setF x f t.b (k / 2)) := by cases t <;> rfl
  rw [e, h]; rfl
theorem T.setF_r {α : Type} (x : Option α) (f k : Nat) (t : T α) (h : k % 2 = 1) : T.setF x (f + 1) t (k + 1) = .n t.v t.a (T.setF x f t.b (k / 2)) := by
  have e : T.setF x (f + 1) t (k + 1) = Nat.casesOn (motive := fun _ => T α) (k % 2) (.n t.v (T.setF x f t.a (k / 2)) t.b) fun _ => .n t.v t.a (T.setF x f t.b (k / 2)) := by cases t <;> rfl
  rw [e, h]; rfl
theorem T.getF_v {α : Type} (f : Nat) (t : T α) : T.getF (f + 1) t 0 = t.v := by cases t <;> rfl
theorem T.getF_a {α : Type} (f k : Nat) (t : T α) (h : k % 2 = 0) : T.getF (f + 1) t (k + 1) = T.getF f t.a (k / 2) := by
  cases t with
  | l => rw [T.getF_l]; exact (T.getF_l _ _).symm
  | n v a b => exact T.getF_nl f k v a b h
theorem T.getF_b {α : Type} (f k : Nat) (t : T α) (h : k % 2 = 1) : T.getF (f + 1) t (k + 1) = T.getF f t.b (k / 2) := by
  cases t with
  | l => rw [T.getF_l]; exact (T.getF_l _ _).symm
  | n v a b => exact T.getF_nr f k v a b h
theorem T.getF_setF_same {α : Type} (x : Option α) : ∀ (f f' k : Nat) (t : T α), k < f → k < f' → T.getF f' (T.setF x f t k) k = x := by
  intro f; induction f with
  | zero => intro f' k t h; omega
  | succ f ih =>
    intro f' k t h h'
    obtain ⟨g, rfl⟩ : ∃ g, f' = g + 1 := ⟨f' - 1, by omega⟩
    cases k with
    | zero => rw [T.setF_0, T.getF_n0]
    | succ k =>
      rcases Nat.mod_two_eq_zero_or_one k with e | e
      · rw [T.setF_l _ _ _ _ e, T.getF_nl _ _ _ _ _ e]; exact ih _ _ _ (by omega) (by omega)
      · rw [T.setF_r _ _ _ _ e, T.getF_nr _ _ _ _ _ e]; exact ih _ _ _ (by omega) (by omega)
theorem T.getF_setF_ne {α : Type} (x : Option α) : ∀ (f f' k j : Nat) (t : T α), j ≠ k → j < f' → T.getF f' (T.setF x f t k) j = T.getF f' t j := by
  intro f; induction f with
  | zero => intro f' k j t _ _; rfl
  | succ f ih =>
    intro f' k j t hn h'
    obtain ⟨g, rfl⟩ : ∃ g, f' = g + 1 := ⟨f' - 1, by omega⟩
    cases k with
    | zero =>
      cases j with
      | zero => exact absurd rfl hn
      | succ j =>
        rw [T.setF_0]
        rcases Nat.mod_two_eq_zero_or_one j with e | e
        · rw [T.getF_nl _ _ _ _ _ e, T.getF_a _ _ _ e]
        · rw [T.getF_nr _ _ _ _ _ e, T.getF_b _ _ _ e]
    | succ k =>
      rcases Nat.mod_two_eq_zero_or_one k with e | e
      · rw [T.setF_l _ _ _ _ e]
        cases j with
        | zero => rw [T.getF_n0, T.getF_v]
        | succ j =>
          rcases Nat.mod_two_eq_zero_or_one j with e' | e'
          · rw [T.getF_nl _ _ _ _ _ e', T.getF_a _ _ _ e']; exact ih _ _ _ _ (by omega) (by omega)
          · rw [T.getF_nr _ _ _ _ _ e', T.getF_b _ _ _ e']
      · rw [T.setF_r _ _ _ _ e]
        cases j with
        | zero => rw [T.getF_n0, T.getF_v]
        | succ j =>
          rcases Nat.mod_two_eq_zero_or_one j with e' | e'
          · rw [T.getF_nl _ _ _ _ _ e', T.getF_a _ _ _ e']
          · rw [T.getF_nr _ _ _ _ _ e', T.getF_b _ _ _ e']; exact ih _ _ _ _ (by omega) (by omega)
theorem T.get_set_same {α : Type} (t : T α) (k : Nat) (x : Option α) : (t.set k x).get k = x := T.getF_setF_same x _ _ k t (Nat.lt_succ_self k) (Nat.lt_succ_self k)
theorem T.get_set_ne {α : Type} (t : T α) (k j : Nat) (x : Option α) (h : j ≠ k) : (t.set k x).get j = t.get j := T.getF_setF_ne x _ _ k j t h (Nat.lt_succ_self j)
theorem T.get_l {α : Type} (k : Nat) : (T.l : T α).get k = none := T.getF_l _ k
theorem T.get_set {α : Type} (t : T α) (k j : Nat) (x : Option α) : (t.set k x).get j = if j = k then x else t.get j := by
  by_cases h : j = k
  · rw [if_pos h, h]; exact T.get_set_same t k x
  · rw [if_neg h]; exact T.get_set_ne t k j x h
end Go.Proofs.YtldbkigenaakkaaGreatDoorExe
namespace Go.Proofs.YtldbkigenaakkaaGreatDoorExe
open Go
set_option linter.unusedVariables false
set_option linter.unusedSimpArgs false
set_option linter.unusedSectionVars false
/-- Where a row stands: its block, how far its cells are shifted, the cells of the block. -/
abbrev Em := Nat → Option (Nat × Nat × Nat)
def Em.le (m m' : Em) : Prop := ∀ id x, m id = some x → m' id = some x
theorem Em.le_refl (m : Em) : m.le m := fun _ _ h => h
theorem Em.le_trans {m m' m'' : Em} (h : m.le m') (h' : m'.le m'') : m.le m'' := fun id x e => h' id x (h id x e)
/-- A value of the evaluator and one of the world. The evaluator's slice has the cells of one element in the place of the capacity. -/
inductive VR (m : Em) : Value → Value → Prop
  | bool (b : Bool) : VR m (.bool b) (.bool b)
  | int (k : IntKind) (n : Int) : VR m (.int k n) (.int k n)
  | string (s : ByteArray) : VR m (.string s) (.string s)
  | nilPointer : VR m (.pointer none) (.pointer none)
  | pointer {id o b s z : Nat} (h : m id = some (b, s, z)) : VR m (.pointer (some ⟨id, o, none⟩)) (.pointer (some ⟨b, s + o, none⟩))
  | nilSlice : VR m (.slice none 0 0) (.slice none 0 0)
  | empty {a : Option Addr} {c : Nat} : VR m (.slice none 0 1) (.slice a 0 c)
  | slice {id o b s z es n c' : Nat} (h : m id = some (b, s, z)) (hn : n ≤ c') (hc : s + o + c' * es ≤ z) :
      VR m (.slice (some ⟨id, o, none⟩) n es) (.slice (some ⟨b, s + o, none⟩) n c')
  | nilMap : VR m (.map none) (.map none)
  | map {id b z : Nat} (h : m id = some (b, 0, z)) : VR m (.map (some id)) (.map (some b))
  | func {fn : Fn} {f c f' c' : Array Value} (hf : f.size = f'.size) (hc : c.size = c'.size)
      (h1 : ∀ (i : Nat) (v v' : Value), f[i]? = some v → f'[i]? = some v' → VR m v v') (h2 : ∀ (i : Nat) (v v' : Value), c[i]? = some v → c'[i]? = some v' → VR m v v') : VR m (.func fn f c) (.func fn f' c')
  | nilFunc : VR m .nilFunc .nilFunc
  | junk {v : Value} (h : v.oneCell' = true) : VR m (.chan none) v
  | nilIface : VR m .nilIface .nilIface
  | agg {c c' : Array Value} (hc : c.size = c'.size) (h : ∀ (i : Nat) (v v' : Value), c[i]? = some v → c'[i]? = some v' → VR m v v') : VR m (.agg c) (.agg c')
  | tuple {c c' : Array Value} (hc : c.size = c'.size) (h : ∀ (i : Nat) (v v' : Value), c[i]? = some v → c'[i]? = some v' → VR m v v') : VR m (.tuple c) (.tuple c')
theorem VR.mono {m m' : Em} (hm : m.le m') {v v' : Value} (h : VR m v v') : VR m' v v' := by
  induction h with
  | bool b => exact .bool b
  | int k n => exact .int k n
  | string s => exact .string s
  | nilPointer => exact .nilPointer
  | pointer h => exact .pointer (hm _ _ h)
  | nilSlice => exact .nilSlice
  | empty => exact .empty
  | slice h hn hc => exact .slice (hm _ _ h) hn hc
  | nilMap => exact .nilMap
  | map h => exact .map (hm _ _ h)
  | func hf hc _ _ i1 i2 => exact .func hf hc i1 i2
  | nilFunc => exact .nilFunc
  | junk h => exact .junk h
  | nilIface => exact .nilIface
  | agg hc _ ih => exact .agg hc ih
  | tuple hc _ ih => exact .tuple hc ih
/-- Lists, place by place. -/
def LR (m : Em) (l l' : List Value) : Prop := l.length = l'.length ∧ ∀ (i : Nat) (v v' : Value), l[i]? = some v → l'[i]? = some v' → VR m v v'
theorem LR.mono {m m' : Em} (hm : m.le m') {l l' : List Value} (h : LR m l l') : LR m' l l' := ⟨h.1, fun i v v' e e' => (h.2 i v v' e e').mono hm⟩
theorem LR.nil (m : Em) : LR m [] [] := ⟨rfl, by simp⟩
theorem LR.cons {m : Em} {v v' : Value} {l l' : List Value} (hv : VR m v v') (h : LR m l l') : LR m (v :: l) (v' :: l') :=
  ⟨by simp [h.1], fun i x x' e e' => by
    cases i with
    | zero => simp at e e'; subst e e'; exact hv
    | succ i => simp at e e'; exact h.2 i x x' e e'⟩
theorem LR.tail {m : Em} {v v' : Value} {l l' : List Value} (h : LR m (v :: l) (v' :: l')) : VR m v v' ∧ LR m l l' :=
  ⟨h.2 0 v v' rfl rfl, by simpa using h.1, fun i x x' e e' => h.2 (i + 1) x x' (by simpa using e) (by simpa using e')⟩
theorem LR.append {m : Em} : ∀ {l l' k k' : List Value}, LR m l l' → LR m k k' → LR m (l ++ k) (l' ++ k')
  | [], [], _, _, _, hk => hk
  | _ :: _, _ :: _, _, _, h, hk => by simpa using LR.cons h.tail.1 (LR.append h.tail.2 hk)
  | [], _ :: _, _, _, h, _ => by simp [LR] at h
  | _ :: _, [], _, _, h, _ => by simp [LR] at h
theorem LR.take {m : Em} (n : Nat) {l l' : List Value} (h : LR m l l') : LR m (l.take n) (l'.take n) :=
  ⟨by simp [h.1], fun i v v' e e' => h.2 i v v' (by rw [List.getElem?_take] at e; split at e <;> simp_all) (by rw [List.getElem?_take] at e'; split at e' <;> simp_all)⟩
theorem LR.drop {m : Em} (n : Nat) {l l' : List Value} (h : LR m l l') : LR m (l.drop n) (l'.drop n) :=
  ⟨by simp [h.1], fun i v v' e e' => h.2 (n + i) v v' (by simpa using e) (by simpa using e')⟩
theorem LR.get {m : Em} {l l' : List Value} (h : LR m l l') {i : Nat} {v : Value} (e : l[i]? = some v) : ∃ v', l'[i]? = some v' ∧ VR m v v' := by
  have : i < l'.length := by rw [← h.1]; exact (List.getElem?_eq_some_iff.mp e).1
  exact ⟨l'[i], List.getElem?_eq_getElem this, h.2 i v _ e (List.getElem?_eq_getElem this)⟩
theorem LR.of_arr {m : Em} {c c' : Array Value} (hc : c.size = c'.size) (h : ∀ (i : Nat) (v v' : Value), c[i]? = some v → c'[i]? = some v' → VR m v v') : LR m c.toList c'.toList :=
  ⟨by simpa using hc, fun i v v' e e' => h i v v' (by simpa using e) (by simpa using e')⟩
theorem LR.agg {m : Em} {l l' : List Value} (h : LR m l l') : VR m (.agg ⟨l⟩) (.agg ⟨l'⟩) := .agg (by simpa using h.1) (fun i v v' e e' => h.2 i v v' (by simpa using e) (by simpa using e'))
theorem LR.tuple {m : Em} {l l' : List Value} (h : LR m l l') : VR m (.tuple ⟨l⟩) (.tuple ⟨l'⟩) := .tuple (by simpa using h.1) (fun i v v' e e' => h.2 i v v' (by simpa using e) (by simpa using e'))
theorem VR.undef (m : Em) : VR m Go.undef Go.undef := .tuple rfl (by intro i v v' h; simp at h)
/-- A value without addresses stands for itself. -/
def plainV : Nat → Value → Bool
  | 0, _ => false
  | _ + 1, .bool _ => true
  | _ + 1, .int _ _ => true
  | _ + 1, .string _ => true
  | _ + 1, .pointer none => true
  | _ + 1, .slice none 0 0 => true
  | _ + 1, .map none => true
  | _ + 1, .nilFunc => true
  | _ + 1, .nilIface => true
  | n + 1, .agg c => c.toList.all (plainV n)
  | n + 1, .tuple c => c.toList.all (plainV n)
  | n + 1, .func _ f c => f.toList.all (plainV n) && c.toList.all (plainV n)
  | _ + 1, _ => false
/-- A row of the evaluator's heap: cells, or a map from whole numbers or texts. -/
inductive Row where
  | cells (n : Nat) (c : T Value)
  | map (l : List (Value × Value))
structure H where
  next : Nat
  rows : T Row
/-- A row at its place. -/
def RR (m : Em) : Row → Nat × Nat × Nat → Option Obj → Prop
  | .cells n c, x, o => x.2.1 + n ≤ x.2.2 ∧ ∃ (cs : Array Value) (el : TypeId) (fz : Nat × Nat), o = some (.cells cs el fz) ∧ cs.size = x.2.2 ∧
      (∀ i, i < x.2.2 → ¬ (fz.1 ≤ i ∧ i < fz.2)) ∧ ∀ (i : Nat) (v : Value), c.get i = some v → i < n ∧ ∃ v', cs[x.2.1 + i]? = some v' ∧ VR m v v'
  | .map l, x, o => x.2.1 = 0 ∧ ∃ (es : Array MapEntry) (clock : Nat), o = some (.map es clock) ∧ es.size = l.length ∧
      ∀ (i : Nat) (k v : Value), l[i]? = some (k, v) → ∃ e : MapEntry, es[i]? = some e ∧ e.key = k ∧ VR m v e.val
theorem RR.mono {m m' : Em} (hm : m.le m') {r : Row} {x : Nat × Nat × Nat} {o : Option Obj} (h : RR m r x o) : RR m' r x o := by
  cases r with
  | cells n c =>
    obtain ⟨h1, cs, el, fz, h2, h3, h4, h5⟩ := h
    exact ⟨h1, cs, el, fz, h2, h3, h4, fun i v e => by obtain ⟨a, v', b, d⟩ := h5 i v e; exact ⟨a, v', b, d.mono hm⟩⟩
  | map l =>
    obtain ⟨h1, es, clock, h2, h3, h4⟩ := h
    exact ⟨h1, es, clock, h2, h3, fun i k v e => by obtain ⟨x, a, b, d⟩ := h4 i k v e; exact ⟨x, a, b, d.mono hm⟩⟩
/-- The evaluator's heap in a world: every live row has a block of its own, from lo on. -/
structure HR (h : H) (m : Em) (lo : Nat) (w : World) : Prop where
  low : lo ≤ w.heap.size
  fresh : ∀ id, h.next ≤ id → m id = none
  blocks : ∀ id x, m id = some x → lo ≤ x.1 ∧ x.1 < w.heap.size
  rows : ∀ id r, h.rows.get id = some r → ∃ x, m id = some x ∧ RR m r x (w.heap[x.1]?)
  apart : ∀ id id' r r' x x', h.rows.get id = some r → h.rows.get id' = some r' → m id = some x → m id' = some x' → id ≠ id' → x.1 ≠ x'.1
/-- What a step leaves as it was: all that is no row of the evaluator's own. -/
structure Fr (h : H) (m : Em) (w : World) (h' : H) (m' : Em) (w' : World) : Prop where
  os : w'.os = w.os
  tape : w'.tape = w.tape
  output : w'.output = w.output
  size : w.heap.size ≤ w'.heap.size
  kept : ∀ k, k < w.heap.size → (∀ id r x, h.rows.get id = some r → m id = some x → x.1 ≠ k) → w'.heap[k]? = w.heap[k]?
  own : ∀ id r x, h'.rows.get id = some r → m' id = some x → (∃ id0 r0 x0, h.rows.get id0 = some r0 ∧ m id0 = some x0 ∧ x0.1 = x.1) ∨ w.heap.size ≤ x.1
  old : ∀ id, id < h.next → m' id = m id
  next : h.next ≤ h'.next
theorem Fr.refl (h : H) (m : Em) (w : World) : Fr h m w h m w :=
  ⟨rfl, rfl, rfl, Nat.le_refl _, fun _ _ _ => rfl, fun id r x e e' => .inl ⟨id, r, x, e, e', rfl⟩, fun _ _ => rfl, Nat.le_refl _⟩
theorem Fr.trans {h : H} {m : Em} {w : World} {h1 : H} {m1 : Em} {w1 : World} {h2 : H} {m2 : Em} {w2 : World} (a : Fr h m w h1 m1 w1) (b : Fr h1 m1 w1 h2 m2 w2) : Fr h m w h2 m2 w2 where
  os := b.os.trans a.os
  tape := b.tape.trans a.tape
  output := b.output.trans a.output
  size := Nat.le_trans a.size b.size
  kept := fun k hk hn => by
    rw [b.kept k (Nat.lt_of_lt_of_le hk a.size) fun id r x e e' => ?_, a.kept k hk hn]
    rcases a.own id r x e e' with ⟨id0, r0, x0, q1, q2, q3⟩ | q
    · rw [← q3]; exact hn id0 r0 x0 q1 q2
    · omega
  own := fun id r x e e' => by
    rcases b.own id r x e e' with ⟨id0, r0, x0, q1, q2, q3⟩ | q
    · rcases a.own id0 r0 x0 q1 q2 with ⟨id1, r1, x1, p1, p2, p3⟩ | p
      · exact .inl ⟨id1, r1, x1, p1, p2, p3.trans q3⟩
      · exact .inr (by omega)
    · exact .inr (Nat.le_trans a.size q)
  old := fun id hid => (b.old id (Nat.lt_of_lt_of_le hid a.next)).trans (a.old id hid)
  next := Nat.le_trans a.next b.next
theorem Fr.below {h : H} {m : Em} {lo : Nat} {w : World} {h' : H} {m' : Em} {w' : World} (hW : HR h m lo w) (f : Fr h m w h' m' w') : Go.RowKit.Below lo w w' :=
  ⟨f.os, f.tape, f.output, f.size, fun k hk => f.kept k (Nat.lt_of_lt_of_le hk hW.low) fun id r x _ e' => by have := (hW.blocks id x e').1; omega⟩
theorem Fr.congr {h : H} {m : Em} {w : World} {h' : H} {m' : Em} {w' : World} (f : Fr h m w h' m' w') {rows : T Row} (hr : ∀ id r, rows.get id = some r → h'.rows.get id = some r) : Fr h m w ⟨h'.next, rows⟩ m' w' :=
  ⟨f.os, f.tape, f.output, f.size, f.kept, fun id r x e e' => f.own id r x (hr id r e) e', f.old, f.next⟩
end Go.Proofs.YtldbkigenaakkaaGreatDoorExe
namespace Go.Proofs.YtldbkigenaakkaaGreatDoorExe
open Go
set_option linter.unusedVariables false
set_option linter.unusedSimpArgs false
set_option linter.unusedSectionVars false
/-! ### numbers are reckoned at once -/
def fN.{u} {β : Sort u} (a : Nat) (k : Nat → β) : β := Nat.casesOn (motive := fun _ => β) a (k 0) fun a' => k (Nat.succ a')
def fI.{u} {β : Sort u} (n : Int) (k : Int → β) : β := Int.casesOn (motive := fun _ => β) n (fun a => fN a fun a => k (.ofNat a)) (fun a => fN a fun a => k (.negSucc a))
theorem fN_eq.{u} {β : Sort u} (a : Nat) (k : Nat → β) : fN a k = k a := by cases a <;> rfl
theorem fI_eq.{u} {β : Sort u} (n : Int) (k : Int → β) : fI n k = k n := by
  cases n with
  | ofNat a => exact fN_eq a fun a => k (.ofNat a)
  | negSucc a => exact fN_eq a fun a => k (.negSucc a)
def fV.{u} {β : Sort u} (v : Value) (k : Value → β) : β :=
  match v with
  | .int i n => fI n fun n => k (.int i n)
  | .pointer (some ⟨id, o, none⟩) => fN id fun id => fN o fun o => k (.pointer (some ⟨id, o, none⟩))
  | .slice (some ⟨id, o, none⟩) n c => fN id fun id => fN o fun o => fN n fun n => k (.slice (some ⟨id, o, none⟩) n c)
  | v => k v
theorem fV_eq.{u} {β : Sort u} (v : Value) (k : Value → β) : fV v k = k v := by
  unfold fV; split <;> simp only [fI_eq, fN_eq]
abbrev Res := Option (Value × H)
/-! ### what the types say -/
def aggB (P : Program) (t : TypeId) : Option Bool :=
  match P.underlying t with
  | some (.struct _) => some true
  | some (.array _ _) => some true
  | some _ => some false
  | none => none
def szT (P : Program) (t : TypeId) : Option Nat := (P.info? t).map (·.size)
def bytesT (P : Program) (t : TypeId) : Option Nat := (P.info? t).map (·.bytes)
def zeroT (P : Program) (t : TypeId) : Option Value := (P.info? t).bind fun i => i.zero.bind fun v => if plainV 3 v then some v else none
def elemT (P : Program) (t : TypeId) : Option TypeId :=
  match P.underlying t with
  | some (.slice e) => some e
  | _ => none
def fieldsT (P : Program) (t : TypeId) : Option (Array Field) :=
  match P.underlying t with
  | some (.struct fs) => some fs
  | _ => none
def arrT (P : Program) (t : TypeId) : Option (Nat × TypeId) :=
  match P.underlying t with
  | some (.array n e) => some (n, e)
  | _ => none
def isU8 (P : Program) (t : TypeId) : Bool :=
  match P.underlying t with
  | some (.int .u8) => true
  | _ => false
def isStr (P : Program) (t : TypeId) : Bool :=
  match P.underlying t with
  | some .string => true
  | _ => false
/-! ### rows -/
def loadL (c : T Value) : Nat → Nat → Option (List Value)
  | _, 0 => some []
  | o, n + 1 => (c.get o).bind fun v => (loadL c (o + 1) n).bind fun l => some (v :: l)
def storeL (c : T Value) : Nat → List Value → T Value
  | _, [] => c
  | o, v :: l => storeL (c.set o (some v)) (o + 1) l
def H.new_ (h : H) (r : Row) (k : Nat → H → Res) : Res := fN h.next fun id => k id ⟨Nat.succ id, h.rows.set id (some r)⟩
def H.put (h : H) (id : Nat) (r : Row) : H := ⟨h.next, h.rows.set id (some r)⟩
def cellsL (v : Value) : List Value := v.cells.toList
def reL (l : List Value) : Nat → List Value
  | 0 => []
  | n + 1 => l ++ reL l n
/-- The cells of n elements of a list or a text. -/
def firstE (h : H) (es n : Nat) : Value → Option (List Value)
  | .slice (some ⟨id, o, none⟩) _ _ => (h.rows.get id).bind fun
    | .cells _ c => loadL c o (Nat.mul n es)
    | _ => none
  | .slice none 0 _ => some []
  | .string s => some ((s.data.toList.take n).map fun b => .int .u8 b.toNat)
  | _ => none
def lenV : Value → Option Nat
  | .slice _ n _ => some n
  | .string s => some s.size
  | _ => none
/-! ### one operation -/
def opV (ρ : T Value) : Operand → Option Value
  | .tmp t => ρ.get t
  | .const v => if plainV 3 v then some v else none
  | .func f => some (.func (.func f) #[] #[])
  | .global _ => none
def mapR (r : Operand → Option Value) : List Operand → Option (List Value)
  | [] => some []
  | x :: l => (r x).bind fun v => (mapR r l).bind fun l => some (v :: l)
def mapP (r : Operand → Option Value) : List (Nat × Operand) → Option (List (Nat × Value))
  | [] => some []
  | (i, x) :: l => (r x).bind fun v => (mapP r l).bind fun l => some ((i, v) :: l)
def pureO (x : Sem Value) : Option Value :=
  match x with
  | .pure v => if plainV 1 v then some v else none
  | _ => none
/-- Whether a value is nil, held against nil. -/
def nilE (P : Program) (t : TypeId) (a b : Value) : Option Bool :=
  match P.underlying t with
  | some (.slice _) => (match a, b with
    | .slice (some _) _ _, .slice none 0 0 => some false
    | .slice none 0 0, .slice none 0 0 => some true
    | _, _ => none)
  | some (.pointer _) => (match a, b with
    | .pointer (some _), .pointer none => some false
    | .pointer none, .pointer none => some true
    | _, _ => none)
  | some (.func _ _ _) => (match a, b with
    | .func _ _ _, .nilFunc => some false
    | .nilFunc, .nilFunc => some true
    | _, _ => none)
  | _ => none
def binE (P : Program) (op : BinOp) (t : TypeId) (a b : Value) : Option Value :=
  match a, b with
  | .int _ _, .int _ _ => pureO (binOp op t a b)
  | .string x, .string y => (match op with
    | .eql => some (.bool (x.data.toList == y.data.toList))
    | .neq => some (.bool (!(x.data.toList == y.data.toList)))
    | _ => none)
  | .bool x, .bool y =>
    match P.underlying t with
    | some .bool => (match op with
      | .eql => some (.bool (x == y))
      | .neq => some (.bool (x != y))
      | _ => none)
    | _ => none
  | a, b => (match op with
    | .eql => (nilE P t a b).bind fun c => some (.bool c)
    | .neq => (nilE P t a b).bind fun c => some (.bool (!c))
    | _ => none)
def unE (op : UnOp) (v : Value) : Option Value :=
  match v with
  | .int _ _ => pureO (Op.unary op v)
  | .bool _ => pureO (Op.unary op v)
  | _ => none
def partL (P : Program) (t : TypeId) (l : List Value) (off : Nat) : Option Value :=
  (aggB P t).bind fun
    | true => (szT P t).bind fun n => some (.agg ⟨(l.drop off).take n⟩)
    | false => l[off]?
/-- The place of an element. -/
def placeE (n : Int) (len : Nat) : Option Nat :=
  match n with
  | .ofNat i => if Nat.blt i len then some i else none
  | _ => none
def loadE (P : Program) (r : Operand → Option Value) (h : H) (t : TypeId) (a : Operand) : Res := (r a).bind fun
    | .pointer (some ⟨id, o, none⟩) => (h.rows.get id).bind fun
      | .cells _ c => (aggB P t).bind fun
        | true => (szT P t).bind fun n => (loadL c o n).bind fun l => some (.agg ⟨l⟩, h)
        | false => (c.get o).bind fun v => some (v, h)
      | _ => none
    | _ => none
def storeE (P : Program) (r : Operand → Option Value) (h : H) (t : TypeId) (a x : Operand) : Res := (r a).bind fun
    | .pointer (some ⟨id, o, none⟩) => (h.rows.get id).bind fun
      | .cells n c => (r x).bind fun v => (szT P t).bind fun k =>
        if Nat.beq (cellsL v).length k && Nat.ble (Nat.add o k) n && (cellsL v).all Value.oneCell' then some (undef, h.put id (.cells n (storeL c o (cellsL v)))) else none
      | _ => none
    | _ => none
def memE (P : Program) (r : Operand → Option Value) (h : H) : Op → Res
  | .load t a => loadE P r h t a
  | .store t a x => storeE P r h t a x
  | _ => none
def fieldAddrE (P : Program) (r : Operand → Option Value) (s : TypeId) (x : Operand) (f : Nat) : Option Value := (fieldsT P s).bind fun fs => (fs[f]?).bind fun g => (szT P g.type).bind fun n => (r x).bind fun
    | .pointer (some ⟨id, o, none⟩) => if Nat.blt 0 n then some (.pointer (some ⟨id, Nat.add o g.offset, none⟩)) else none
    | _ => none
def fieldE (P : Program) (r : Operand → Option Value) (s : TypeId) (x : Operand) (f : Nat) : Option Value := (fieldsT P s).bind fun fs => (fs[f]?).bind fun g => (r x).bind fun
    | .agg c => partL P g.type c.toList g.offset
    | _ => none
def indexAddrE (P : Program) (r : Operand → Option Value) (t : TypeId) (x i : Operand) : Option Value := (r i).bind fun
    | .int _ n => (r x).bind fun
      | .slice (some ⟨id, o, none⟩) len _ => (elemT P t).bind fun e => (szT P e).bind fun es => (placeE n len).bind fun j => some (.pointer (some ⟨id, Nat.add o (Nat.mul j es), none⟩))
      | .pointer (some ⟨id, o, none⟩) => (arrT P t).bind fun e => (szT P e.2).bind fun es => (placeE n e.1).bind fun j => some (.pointer (some ⟨id, Nat.add o (Nat.mul j es), none⟩))
      | _ => none
    | _ => none
def indexE (P : Program) (r : Operand → Option Value) (t : TypeId) (x i : Operand) : Option Value := (r i).bind fun
    | .int _ n => (r x).bind fun
      | .agg c => (arrT P t).bind fun e => (szT P e.2).bind fun es => (placeE n e.1).bind fun j => partL P e.2 c.toList (Nat.mul j es)
      | .string s => if isStr P t then (placeE n s.size).bind fun j => (s.data.toList[j]?).bind fun b => some (.int .u8 b.toNat) else none
      | _ => none
    | _ => none
def nilCheckE (r : Operand → Option Value) (x : Operand) : Option Value := (r x).bind fun
    | .pointer (some a) => some (.pointer (some a))
    | .func (.func g) f c => some (.func (.func g) f c)
    | _ => none
def extractE (r : Operand → Option Value) (x : Operand) (i : Nat) : Option Value := (r x).bind fun
    | .tuple vs => vs.toList[i]?
    | _ => none
def makeFuncE (r : Operand → Option Value) (fn : Fn) (first cap : Array Operand) : Option Value := (mapR r first.toList).bind fun f => (mapR r cap.toList).bind fun c => some (.func fn ⟨f⟩ ⟨c⟩)
def addrE (P : Program) (r : Operand → Option Value) : Op → Option Value
  | .fieldAddr s x f => fieldAddrE P r s x f
  | .field s x f => fieldE P r s x f
  | .indexAddr t x i => indexAddrE P r t x i
  | .index t x i => indexE P r t x i
  | .nilCheck x => nilCheckE r x
  | .extract x i => extractE r x i
  | .makeFunc fn first cap => makeFuncE r fn first cap
  | _ => none
/-! ### parts -/
def boundE (r : Operand → Option Value) : Option Operand → Nat → Option Nat
  | none, d => some d
  | some x, _ => (r x).bind fun
    | .int _ (.ofNat n) => some n
    | _ => none
def sliceE (P : Program) (r : Operand → Option Value) (t : TypeId) (x : Operand) (lo hi : Option Operand) : Option Value :=
  (r x).bind fun
    | .slice a n es => (elemT P t).bind fun e => (szT P e).bind fun es' => (boundE r hi n).bind fun j => (boundE r lo 0).bind fun i =>
      if Nat.ble i j && Nat.ble j n then
        (match a with
        | some ⟨id, o, none⟩ => if Nat.beq i j && Nat.blt 0 i then some (.slice none 0 1) else
            if Nat.beq es es' then some (.slice (some ⟨id, Nat.add o (Nat.mul i es), none⟩) (Nat.sub j i) es) else none
        | none => if Nat.beq n 0 then some (.slice none 0 es) else none
        | _ => none)
      else none
    | .string s => if isStr P t then (boundE r hi s.size).bind fun j => (boundE r lo 0).bind fun i =>
      if Nat.ble i j && Nat.ble j s.size then some (.string ⟨⟨(s.data.toList.drop i).take (Nat.sub j i)⟩⟩) else none else none
    | _ => none
def fillL (place : Nat → Option (Nat × Nat)) : List Value → List (Nat × Value) → Option (List Value)
  | z, [] => some z
  | z, (i, v) :: l => (place i).bind fun p =>
    if Nat.beq (cellsL v).length p.2 && Nat.ble (Nat.add p.1 p.2) z.length then fillL place (z.take p.1 ++ (cellsL v ++ z.drop (Nat.add p.1 p.2))) l else none
def placeF (P : Program) (fs : Array Field) (i : Nat) : Option (Nat × Nat) := (fs[i]?).bind fun g => (szT P g.type).bind fun n => some (g.offset, n)
def sizesB (P : Program) (fs : Array Field) : Bool := fs.toList.all fun g => (szT P g.type).isSome
def recE (P : Program) (r : Operand → Option Value) (h : H) (t : TypeId) (ps : Array (Nat × Operand)) : Res := (zeroT P t).bind fun z => (mapP r ps.toList).bind fun l =>
    match P.underlying t with
    | some (.struct fs) => if sizesB P fs then (fillL (placeF P fs) (cellsL z) l).bind fun l => some (.agg ⟨l⟩, h) else none
    | some (.array _ e) => (szT P e).bind fun es => (fillL (fun i => some (Nat.mul i es, es)) (cellsL z) l).bind fun l => some (.agg ⟨l⟩, h)
    | _ => none
def buildE (P : Program) (r : Operand → Option Value) (h : H) : Op → Res
  | .build t ps => recE P r h t ps
  | _ => none
/-- What makes a row of its own and turns nothing else. -/
def makeSliceE (P : Program) (r : Operand → Option Value) (id : Nat) (t : TypeId) (l c : Operand) : Option (Value × Row) := (elemT P t).bind fun e => (szT P e).bind fun es => (bytesT P e).bind fun by_ => (zeroT P e).bind fun z => (r l).bind fun
    | .int _ (.ofNat n) => (r c).bind fun
      | .int _ (.ofNat n') => if Nat.beq n n' && Nat.ble n 1000000 && Nat.ble by_ 1000000 && Nat.blt 0 es && Nat.beq (cellsL z).length es then
          fN n fun n => some (.slice (some ⟨id, 0, none⟩) n es, .cells (Nat.mul n es) (storeL .l 0 (reL (cellsL z) n))) else none
      | _ => none
    | _ => none
def buildSliceE (P : Program) (r : Operand → Option Value) (id : Nat) (t : TypeId) (n : Nat) (ps : Array (Nat × Operand)) : Option (Value × Row) := (elemT P t).bind fun e => (szT P e).bind fun es => (zeroT P e).bind fun z => (mapP r ps.toList).bind fun l =>
    if Nat.blt 0 es && Nat.beq (cellsL z).length es && Nat.ble (Nat.mul n es) 1000000 then
      (fillL (fun i => some (Nat.mul i es, es)) (reL (cellsL z) n) l).bind fun l => some (.slice (some ⟨id, 0, none⟩) n es, .cells (Nat.mul n es) (storeL .l 0 l))
    else none
def freshE (P : Program) (r : Operand → Option Value) (id : Nat) : Op → Option (Value × Row)
  | .alloc t => (zeroT P t).bind fun v => some (.pointer (some ⟨id, 0, none⟩), .cells (cellsL v).length (storeL .l 0 (cellsL v)))
  | .box _ x => (r x).bind fun v => some (.pointer (some ⟨id, 0, none⟩), .cells (cellsL v).length (storeL .l 0 (cellsL v)))
  | .makeSlice t l c => makeSliceE P r id t l c
  | .buildSlice t n ps => buildSliceE P r id t n ps
  | .makeMap _ none => some (.map (some id), .map [])
  | _ => none
def newE (P : Program) (r : Operand → Option Value) (h : H) (op : Op) : Res := fN h.next fun id => (freshE P r id op).bind fun x => some (x.1, ⟨Nat.succ id, h.rows.set id (some x.2)⟩)
/-! ### maps from whole numbers -/
/-- Whether two keys are one: none where they are not of one kind. -/
def sameK : Value → Value → Option Bool
  | .int .i64 a, .int .i64 b => some (a == b)
  | .string a, .string b => some (a.data.toList == b.data.toList)
  | _, _ => none
def findL (k : Value) : List (Value × Value) → Option (Option Value)
  | [] => some none
  | (j, v) :: l => (sameK k j).bind fun
    | true => some (some v)
    | false => findL k l
def keyB (P : Program) (t : TypeId) (k : Value) : Bool :=
  match P.underlying t with
  | some (.int .i64) => (match k with
    | .int .i64 _ => true
    | _ => false)
  | some .string => (match k with
    | .string _ => true
    | _ => false)
  | _ => false
def mapT (P : Program) (t : TypeId) (k : Value) : Option TypeId :=
  match P.underlying t with
  | some (.map q e) => if keyB P q k then some e else none
  | _ => none
def putMapE (P : Program) (r : Operand → Option Value) (h : H) (t : TypeId) (m k x : Operand) : Res := (r k).bind fun key => (mapT P t key).bind fun _ => (r m).bind fun
    | .map (some id) => (h.rows.get id).bind fun
      | .map l => (r x).bind fun v => (findL key l).bind fun
        | none => some (undef, h.put id (.map (l ++ [(key, v)])))
        | _ => none
      | _ => none
    | _ => none
def lookupE (P : Program) (r : Operand → Option Value) (h : H) (t : TypeId) (m k : Operand) (ok : Bool) : Res := (r k).bind fun key => (mapT P t key).bind fun e => (r m).bind fun
    | .map (some id) => (h.rows.get id).bind fun
      | .map l => (findL key l).bind fun
        | some v => some (if ok then .tuple #[v, .bool true] else v, h)
        | none => (zeroT P e).bind fun v => some (if ok then .tuple #[v, .bool false] else v, h)
      | _ => none
    | _ => none
def mapE (P : Program) (r : Operand → Option Value) (h : H) : Op → Res
  | .mapUpdate t m k x => putMapE P r h t m k x
  | .insert t m k x => putMapE P r h t m k x
  | .lookup t m k ok => lookupE P r h t m k ok
  | _ => none
/-! ### conversions -/
def byteL : List Value → Option (List UInt8)
  | [] => some []
  | .int .u8 n :: l => (byteL l).bind fun l => some (UInt8.ofNat n.toNat :: l)
  | _ => none
def bytesE (P : Program) (h : H) (ds dd : TypeDesc) (x : Value) (n : Nat) : Res :=
  match ds, dd with
  | .slice e, .string => if isU8 P e then (firstE h 1 n x).bind fun l => (byteL l).bind fun l => some (.string ⟨⟨l⟩⟩, h) else none
  | _, _ => none
def convE (P : Program) (h : H) (s d : TypeId) (x : Value) : Res :=
  (P.underlying s).bind fun ds => (P.underlying d).bind fun dd =>
    match x with
    | .int _ n => (match dd with
      | .int k => some (.int k (k.wrap n), h)
      | _ => none)
    | .string b => (match dd with
      | .string => some (.string b, h)
      | _ => none)
    | .slice a n es => bytesE P h ds dd (.slice a n es) n
    | _ => none
/-! ### the built-in functions -/
def isInt : Value → Bool
  | .int _ _ => true
  | _ => false
def lenE (P : Program) (h : H) (t : TypeId) (x : Value) : Option Nat :=
  match P.underlying t with
  | some .string => (match x with
    | .string s => some s.size
    | _ => none)
  | some (.array n _) => some n
  | some (.slice _) => (match x with
    | .slice _ n _ => some n
    | _ => none)
  | some (.map _ _) => (match x with
    | .map none => some 0
    | .map (some id) => (h.rows.get id).bind fun
      | .map l => some l.length
      | _ => none
    | _ => none)
  | _ => none
/-- The cells of a list, counted from 0. -/
def baseT (c : T Value) (n o k : Nat) : Option (T Value) := if Nat.beq o 0 && Nat.beq n k then some c else (loadL c o k).bind fun l => some (storeL .l 0 l)
def strSl (P : Program) (t : TypeId) : Bool :=
  match P.underlying t with
  | some .string => true
  | some (.slice _) => true
  | _ => false
def appendE (P : Program) (h : H) (t u : TypeId) (s x : Value) : Res :=
  (elemT P t).bind fun e => (szT P e).bind fun es => (bytesT P e).bind fun by_ => (zeroT P e).bind fun z => (lenV x).bind fun n =>
    if strSl P u && Nat.blt 0 es && Nat.ble by_ 1000000 && Nat.ble n 1000000 && Nat.beq (cellsL z).length es then
      if Nat.beq n 0 then (match s with
        | .slice a k c => some (.slice a k c, h)
        | _ => none)
      else (firstE h es n x).bind fun l => if Nat.beq l.length (Nat.mul n es) && l.all Value.oneCell' then
        (match s with
        | .slice none 0 0 => h.new_ (.cells (Nat.mul n es) (storeL .l 0 l)) fun id h => some (.slice (some ⟨id, 0, none⟩) n es, h)
        | .slice (some ⟨id, o, none⟩) k es' => if Nat.beq es es' && Nat.ble k 1000000 then
            (h.rows.get id).bind fun
            | .cells m c => if Nat.ble (Nat.add o (Nat.mul k es)) m then
                (baseT c m o (Nat.mul k es)).bind fun c => fN (Nat.add k n) fun q => fN h.next fun id' =>
                  some (.slice (some ⟨id', 0, none⟩) q es, ⟨Nat.succ id', (h.rows.set id none).set id' (some (.cells (Nat.mul q es) (storeL c (Nat.mul k es) l)))⟩) else none
            | _ => none
          else none
        | _ => none) else none
    else none
def copyE (P : Program) (h : H) (t : TypeId) (d s : Value) : Res :=
  (elemT P t).bind fun e => (szT P e).bind fun es => (lenV s).bind fun n =>
    match d with
    | .slice (some ⟨id, o, none⟩) k _ => fN (Nat.min n k) fun n => (firstE h es n s).bind fun l => (h.rows.get id).bind fun
      | .cells m c => if Nat.beq l.length (Nat.mul n es) && Nat.ble (Nat.add o (Nat.mul n es)) m && l.all Value.oneCell' then some (.int .i64 (.ofNat n), h.put id (.cells m (storeL c o l))) else none
      | _ => none
    | _ => none
def builtinE (P : Program) (h : H) (b : Builtin) (ts : List TypeId) (args : List Value) : Res :=
  match b, ts, args with
  | .len, t :: _, x :: _ => (lenE P h t x).bind fun n => some (.int .i64 (.ofNat n), h)
  | .append, t :: u :: _, s :: x :: _ => appendE P h t u s x
  | .copy, t :: _, d :: s :: _ => copyE P h t d s
  | .min, _, args => if args.all isInt then (pureO (Builtin.min_ #[] 0 ⟨args⟩)).bind fun v => some (v, h) else none
  | .max, _, args => if args.all isInt then (pureO (Builtin.max_ #[] 0 ⟨args⟩)).bind fun v => some (v, h) else none
  | _, _, _ => none
/-- What a function answers. -/
abbrev Fun := FuncId → List Value → H → Res
def callE (P : Program) (call : Fun) (r : Operand → Option Value) (h : H) (c : Call) : Res :=
  (mapR r c.args.toList).bind fun args => match c.callee with
    | .value f => (r f).bind fun
      | .func (.func g) first cap => call g (first.toList ++ args ++ cap.toList) h
      | _ => none
    | .builtin b => builtinE P h b c.argTypes.toList args
    | .invoke _ _ => none
def okE (h : H) (v : Option Value) : Res := v.bind fun v => some (v, h)
def pickE (r : Operand → Option Value) (h : H) (c a b : Operand) : Res := (r c).bind fun
    | .bool true => (r a).bind fun v => some (v, h)
    | .bool false => (r b).bind fun v => some (v, h)
    | _ => none
def binopE (P : Program) (r : Operand → Option Value) (h : H) (op : BinOp) (t : TypeId) (x y : Operand) : Res := (r x).bind fun a => (r y).bind fun b => (binE P op t a b).bind fun v => some (v, h)
def opE (P : Program) (call : Fun) (r : Operand → Option Value) (h : H) : Op → Res
  | .move x => okE h (r x)
  | .assign x => okE h (r x)
  | .pick c a b => pickE r h c a b
  | .binOp op t x y _ => binopE P r h op t x y
  | .unOp op _ x => (r x).bind fun a => okE h (unE op a)
  | .convert s d x => (r x).bind fun a => convE P h s d a
  | .slice t x lo hi none => okE h (sliceE P r t x lo hi)
  | .call c => callE P call r h c
  | .build t ps => recE P r h t ps
  | .buildSlice t n ps => newE P r h (.buildSlice t n ps)
  | .makeMap t n => newE P r h (.makeMap t n)
  | .mapUpdate t m k x => putMapE P r h t m k x
  | .insert t m k x => putMapE P r h t m k x
  | .lookup t m k ok => lookupE P r h t m k ok
  | .alloc t => newE P r h (.alloc t)
  | .box t x => newE P r h (.box t x)
  | .load t a => loadE P r h t a
  | .store t a x => storeE P r h t a x
  | .makeSlice t l c => newE P r h (.makeSlice t l c)
  | .fieldAddr s x f => okE h (fieldAddrE P r s x f)
  | .field s x f => okE h (fieldE P r s x f)
  | .indexAddr t x i => okE h (indexAddrE P r t x i)
  | .index t x i => okE h (indexE P r t x i)
  | .nilCheck x => okE h (nilCheckE r x)
  | .extract x i => okE h (extractE r x i)
  | .makeFunc fn f c => okE h (makeFuncE r fn f c)
  | _ => none
/-- An operation with its guard. -/
def guardE (ops : Array Oper) (ρ : T Value) : Option (Nat × Bool) → Option Bool
  | none => some true
  | some (g, b) => (ops[g]?).bind fun o => o.dst.bind fun d => (ρ.get d).bind fun
    | .bool c => some (c == b)
    | .tuple _ => some false
    | _ => none
def operE (P : Program) (call : Fun) (ops : Array Oper) (ρ : T Value) (h : H) (o : Oper) : Res :=
  (guardE ops ρ o.guard).bind fun
    | true => opE P call (opV ρ) h o.op
    | false => some (undef, h)
def putE {β : Type} (nt : Nat) (ρ : T Value) (dst : Option Tmp) (v : Value) (k : T Value → Option β) : Option β :=
  match dst with
  | none => k ρ
  | some d => if Nat.blt d nt then fV v fun v => k (ρ.set d (some v)) else none
def textE (P : Program) (call : Fun) (nt : Nat) (ops : Array Oper) : List Oper → T Value → H → Option (T Value × H)
  | [], ρ, h => some (ρ, h)
  | o :: l, ρ, h => (operE P call ops ρ h o).bind fun v => putE nt ρ o.dst v.1 fun ρ => textE P call nt ops l ρ v.2
end Go.Proofs.YtldbkigenaakkaaGreatDoorExe
namespace Go.Proofs.YtldbkigenaakkaaGreatDoorExe
open Go Go.RowKit
set_option linter.unusedVariables false
set_option linter.unusedSimpArgs false
set_option linter.unusedSectionVars false
variable {P : Program} {h : H} {m : Em} {lo : Nat} {w : World}
theorem HR.cells (hW : HR h m lo w) {id n b s z : Nat} {c : T Value} (hr : h.rows.get id = some (.cells n c)) (hm : m id = some (b, s, z)) :
    s + n ≤ z ∧ ∃ (cs : Array Value) (el : TypeId) (fz : Nat × Nat), w.heap[b]? = some (.cells cs el fz) ∧ cs.size = z ∧ (∀ i, i < z → ¬ (fz.1 ≤ i ∧ i < fz.2)) ∧ ∀ i v, c.get i = some v → i < n ∧ ∃ v', cs[s + i]? = some v' ∧ VR m v v' := by
  obtain ⟨x, h1, h2⟩ := hW.rows id _ hr
  rw [hm] at h1; obtain rfl : (b, s, z) = x := by simpa using h1
  exact h2
theorem HR.cell (hW : HR h m lo w) {id n b s z i : Nat} {c : T Value} {v : Value} (hr : h.rows.get id = some (.cells n c)) (hm : m id = some (b, s, z)) (hv : c.get i = some v) :
    ∃ v', w.cell? ⟨b, s + i, none⟩ = some v' ∧ VR m v v' := by
  obtain ⟨_, cs, el, fz, h2, _, _, h6⟩ := hW.cells hr hm
  obtain ⟨_, v', h7, h8⟩ := h6 i v hv
  exact ⟨v', by simp [World.cell?, h2, h7], h8⟩
theorem HR.heap (hW : HR h m lo w) {w' : World} (e : w'.heap = w.heap) : HR h m lo w' :=
  ⟨by rw [e]; exact hW.low, hW.fresh, by rw [e]; exact hW.blocks, by rw [e]; exact hW.rows, hW.apart⟩
theorem loadL_get {c : T Value} : ∀ {n o : Nat} {l : List Value}, loadL c o n = some l → l.length = n ∧ ∀ (i : Nat) (v : Value), l[i]? = some v → c.get (o + i) = some v
  | 0, o, l, e => by simp only [loadL, Option.some.injEq] at e; subst e; simp
  | n + 1, o, l, e => by
    simp only [loadL] at e
    replace e := Option.bind_eq_some_iff.mp e
    obtain ⟨v, h1, e⟩ := e
    replace e := Option.bind_eq_some_iff.mp e
    obtain ⟨l', h2, e⟩ := e
    simp only [Option.some.injEq] at e; subst e
    obtain ⟨h3, h4⟩ := loadL_get h2
    refine ⟨by simp [h3], fun i x hx => ?_⟩
    cases i with
    | zero => simp at hx; subst hx; exact h1
    | succ i => simp at hx; have := h4 i x hx; rw [← this]; congr 1; omega
theorem aggB_run {t : TypeId} {b : Bool} (hb : aggB P t = some b) : (isAgg t).run P w = .ok b w := by
  unfold aggB at hb; unfold isAgg underlying
  simp only [Sem.run_bind, run_program, Result.andThen_ok]
  split at hb <;> simp_all <;> (split <;> simp_all)
theorem szT_run {t n : Nat} (hn : szT P t = some n) : (sizeOf t).run P w = .ok n w := by
  unfold szT at hn; unfold sizeOf typeInfo
  simp only [Sem.run_bind, run_program, Result.andThen_ok]
  cases h : P.info? t with
  | none => rw [h] at hn; simp at hn
  | some i => rw [h] at hn; simp at hn; simp [hn]
/-- What is read of a row's cells, one for one. -/
theorem HR.list (hW : HR h m lo w) {id n b s z o k : Nat} {c : T Value} {l : List Value} (hr : h.rows.get id = some (.cells n c)) (hm : m id = some (b, s, z)) (hl : loadL c o k = some l) :
    ∃ l' : List Value, l'.length = k ∧ LR m l l' ∧ ∀ (j : Nat) (v : Value), l'[j]? = some v → w.cell? ⟨b, s + (o + j), none⟩ = some v := by
  induction k generalizing o l with
  | zero => simp only [loadL, Option.some.injEq] at hl; subst hl; exact ⟨[], rfl, LR.nil m, by simp⟩
  | succ k ih =>
    simp only [loadL] at hl
    replace hl := Option.bind_eq_some_iff.mp hl
    obtain ⟨v, h1, hl⟩ := hl
    replace hl := Option.bind_eq_some_iff.mp hl
    obtain ⟨l1, h2, hl⟩ := hl
    simp only [Option.some.injEq] at hl; subst hl
    obtain ⟨v', h3, h4⟩ := hW.cell hr hm h1
    obtain ⟨l', a1, a2, a3⟩ := ih h2
    refine ⟨v' :: l', by simp [a1], LR.cons h4 a2, fun j x hx => ?_⟩
    cases j with
    | zero => simp at hx; subst hx; exact h3
    | succ j => simp at hx; have := a3 j x hx; rw [← this]; congr 3; omega
/-- Cells read where a row lies. -/
theorem HR.loads (hW : HR h m lo w) {id n b s z o k : Nat} {c : T Value} {l : List Value} (hr : h.rows.get id = some (.cells n c)) (hm : m id = some (b, s, z)) (hl : loadL c o k = some l) :
    ∃ l' : List Value, l'.length = k ∧ LR m l l' ∧ (loadCells ⟨b, s + o, none⟩ k).run P w = .ok ⟨l'⟩ w := by
  obtain ⟨l', a1, a2, a3⟩ := hW.list hr hm hl
  refine ⟨l', a1, a2, ?_⟩
  subst a1
  rw [run_loadCells_list w ⟨b, s + o, none⟩ l' (fun j x hx => by
    have := a3 j x hx
    rw [← this]; unfold Addr.add; split
    · rename_i hj; subst hj; rfl
    · simp [Nat.add_assoc])]
theorem storeL_get : ∀ (l : List Value) (c : T Value) (o i : Nat), (storeL c o l).get i = if o ≤ i ∧ i < o + l.length then l[i - o]? else c.get i
  | [], c, o, i => by simp only [storeL, List.length_nil]; rw [if_neg (by omega)]
  | v :: l, c, o, i => by
    simp only [storeL]
    rw [storeL_get l, T.get_set]
    by_cases h1 : o + 1 ≤ i ∧ i < o + 1 + l.length
    · rw [if_pos h1, if_pos (by simp only [List.length_cons]; omega)]
      obtain ⟨j, rfl⟩ : ∃ j, i = o + 1 + j := ⟨i - (o + 1), by omega⟩
      rw [show o + 1 + j - (o + 1) = j by omega, show o + 1 + j - o = j + 1 by omega]; rfl
    · rw [if_neg h1]
      by_cases h2 : i = o
      · subst h2; rw [if_pos rfl, if_pos (by simp only [List.length_cons]; omega)]; simp
      · rw [if_neg h2, if_neg (by simp only [List.length_cons]; omega)]
theorem storeL0_get {l : List Value} {i : Nat} {v : Value} (e : (storeL .l 0 l).get i = some v) : i < l.length ∧ l[i]? = some v := by
  rw [storeL_get, T.get_l] at e
  split at e
  · rename_i hr; exact ⟨by omega, by simpa using e⟩
  · cases e
theorem RR.list {l : List Value} {cs : Array Value} {el : TypeId} {b z : Nat} {fz : Nat × Nat} (hz : cs.size = z) (hsz : l.length ≤ z) (hf : ∀ i, i < z → ¬ (fz.1 ≤ i ∧ i < fz.2))
    (hv : ∀ (i : Nat) (v : Value), l[i]? = some v → ∃ v', cs[i]? = some v' ∧ VR m v v') : RR m (.cells l.length (storeL .l 0 l)) (b, 0, z) (some (.cells cs el fz)) := by
  refine ⟨by simpa using hsz, cs, el, fz, rfl, hz, hf, fun i v e => ?_⟩
  obtain ⟨a, b⟩ := storeL0_get e
  obtain ⟨v', d1, d2⟩ := hv i v b
  exact ⟨a, v', by simpa using d1, d2⟩
/-- A new row. -/
theorem HR.new (hW : HR h m lo w) {r : Row} {o : Obj} {z : Nat} (hr : ∀ m', m.le m' → RR m' r (w.heap.size, 0, z) (some o)) :
    ∃ m' : Em, m.le m' ∧ m' h.next = some (w.heap.size, 0, z) ∧ HR ⟨Nat.succ h.next, h.rows.set h.next (some r)⟩ m' lo { w with heap := w.heap.push o } ∧
      Fr h m w ⟨Nat.succ h.next, h.rows.set h.next (some r)⟩ m' { w with heap := w.heap.push o } := by
  have hnone : m h.next = none := hW.fresh _ (Nat.le_refl _)
  have hle : m.le fun id => if id = h.next then some (w.heap.size, 0, z) else m id := fun id x e => by
    have : id ≠ h.next := fun q => by rw [q, hnone] at e; cases e
    simp [this, e]
  refine ⟨fun id => if id = h.next then some (w.heap.size, 0, z) else m id, hle, by simp, ?_, ⟨rfl, rfl, rfl, by simp only [Array.size_push]; omega, fun k hk _ => by rw [Array.getElem?_push, if_neg (by omega)], fun id r' x e e' => ?_, fun id hid => by simp [Nat.ne_of_lt hid], Nat.le_succ _⟩⟩
  rotate_left
  · rw [T.get_set] at e
    by_cases g : id = h.next
    · simp [g] at e'; subst e'; exact .inr (Nat.le_refl _)
    · rw [if_neg g] at e; simp only [g, if_false] at e'
      exact .inl ⟨id, r', x, e, e', rfl⟩
  refine ⟨by simp only [Array.size_push]; exact Nat.le_succ_of_le hW.low, fun id hid => ?_, fun id x e => ?_, fun id r' e => ?_, fun id id' r r' x x' e e' q q' ne => ?_⟩
  · have : id ≠ h.next := by have : Nat.succ h.next ≤ id := hid; omega
    simp only [this, if_false]; exact hW.fresh id (by have : Nat.succ h.next ≤ id := hid; omega)
  · simp only [Array.size_push]
    by_cases g : id = h.next
    · simp [g] at e; subst e; exact ⟨hW.low, Nat.lt_succ_self _⟩
    · simp only [g, if_false] at e; have := hW.blocks id x e; exact ⟨this.1, Nat.lt_succ_of_lt this.2⟩
  · rw [T.get_set] at e
    by_cases g : id = h.next
    · rw [if_pos g] at e; obtain rfl : r = r' := by simpa using e
      exact ⟨(w.heap.size, 0, z), by simp [g], by simpa using hr _ hle⟩
    · rw [if_neg g] at e
      obtain ⟨x, h1, h2⟩ := hW.rows id r' e
      refine ⟨x, by simp [g, h1], ?_⟩
      have := (hW.blocks id x h1).2
      rw [Array.getElem?_push, if_neg (by omega)]; exact h2.mono hle
  · rw [T.get_set] at e e'
    by_cases g : id = h.next
    · by_cases g' : id' = h.next
      · exact absurd (g.trans g'.symm) ne
      · simp only [g, if_true, g', if_false] at q q'
        have := (hW.blocks id' x' q').2
        simp only [Option.some.injEq] at q; subst q; simp only [ne_eq]; omega
    · by_cases g' : id' = h.next
      · simp only [g, if_false, g', if_true] at q q'
        have := (hW.blocks id x q).2
        simp only [Option.some.injEq] at q'; subst q'; simp only [ne_eq]; omega
      · rw [if_neg g] at e; rw [if_neg g'] at e'
        simp only [g, g', if_false] at q q'
        exact hW.apart id id' r r' x x' e e' q q' ne
/-- A row takes another shape. -/
theorem HR.upd (hW : HR h m lo w) {id b s z : Nat} {r r' : Row} (hr : h.rows.get id = some r) (hm : m id = some (b, s, z)) {w' : World} (hsame : w'.os = w.os ∧ w'.tape = w.tape ∧ w'.output = w.output) (hsz : w'.heap.size = w.heap.size)
    (hk : ∀ k, k ≠ b → w'.heap[k]? = w.heap[k]?) (hn : RR m r' (b, s, z) (w'.heap[b]?)) : HR (h.put id r') m lo w' ∧ Fr h m w (h.put id r') m w' := by
  refine ⟨?_, ⟨hsame.1, hsame.2.1, hsame.2.2, by rw [hsz]; exact Nat.le_refl _, fun k _ hl => hk k fun e => hl id r _ hr hm e.symm, fun id2 r2 x e e' => ?_, fun _ _ => rfl, Nat.le_refl _⟩⟩
  rotate_left
  · simp only [H.put, T.get_set] at e
    by_cases g : id2 = id
    · exact .inl ⟨id, r, x, hr, g ▸ e', rfl⟩
    · rw [if_neg g] at e; exact .inl ⟨id2, r2, x, e, e', rfl⟩
  refine ⟨by rw [hsz]; exact hW.low, hW.fresh, fun id x e => by rw [hsz]; exact hW.blocks id x e, fun id2 r2 e => ?_, fun id2 id' r2 r3 x x' e e' q q' ne => ?_⟩
  · simp only [H.put, T.get_set] at e
    by_cases g : id2 = id
    · rw [if_pos g] at e; obtain rfl : r' = r2 := by simpa using e
      exact ⟨_, g ▸ hm, hn⟩
    · rw [if_neg g] at e
      obtain ⟨x, k1, k2⟩ := hW.rows id2 r2 e
      exact ⟨x, k1, by rw [hk _ (hW.apart id2 id _ _ _ _ e hr k1 hm g)]; exact k2⟩
  · simp only [H.put, T.get_set] at e e'
    have f1 : ∃ r1, h.rows.get id2 = some r1 := by
      by_cases g : id2 = id
      · exact ⟨_, g ▸ hr⟩
      · rw [if_neg g] at e; exact ⟨_, e⟩
    have f2 : ∃ r1, h.rows.get id' = some r1 := by
      by_cases g : id' = id
      · exact ⟨_, g ▸ hr⟩
      · rw [if_neg g] at e'; exact ⟨_, e'⟩
    obtain ⟨r1, f1⟩ := f1; obtain ⟨r2, f2⟩ := f2
    exact hW.apart id2 id' r1 r2 x x' f1 f2 q q' ne
theorem HR.congr (hW : HR h m lo w) {rows : T Row} (hr : ∀ id, rows.get id = h.rows.get id) : HR ⟨h.next, rows⟩ m lo w :=
  ⟨hW.low, hW.fresh, hW.blocks, fun id r e => hW.rows id r (by rw [← hr]; exact e), fun id id' r r' x x' e e' q q' ne => hW.apart id id' r r' x x' (by rw [← hr]; exact e) (by rw [← hr]; exact e') q q' ne⟩
/-- Rows are forgotten. -/
theorem HR.less (hW : HR h m lo w) {rows : T Row} (hr : ∀ id r, rows.get id = some r → h.rows.get id = some r) : HR ⟨h.next, rows⟩ m lo w :=
  ⟨hW.low, hW.fresh, hW.blocks, fun id r e => hW.rows id r (hr _ _ e), fun id id' r r' x x' e e' q q' ne => hW.apart id id' r r' x x' (hr _ _ e) (hr _ _ e') q q' ne⟩
/-- A row goes on under a new number, from a later cell on. -/
theorem HR.move (hW : HR h m lo w) {id n b s z o n' : Nat} {c c' : T Value} (hr : h.rows.get id = some (.cells n c)) (hm : m id = some (b, s, z)) (ho : s + o + n' ≤ z)
    (hc : ∀ i v, c'.get i = some v → i < n' ∧ c.get (o + i) = some v) :
    ∃ m' : Em, m.le m' ∧ m' h.next = some (b, s + o, z) ∧ HR ⟨Nat.succ h.next, (h.rows.set id none).set h.next (some (.cells n' c'))⟩ m' lo w ∧
      Fr h m w ⟨Nat.succ h.next, (h.rows.set id none).set h.next (some (.cells n' c'))⟩ m' w := by
  have hnone : m h.next = none := hW.fresh _ (Nat.le_refl _)
  have hle : m.le fun id => if id = h.next then some (b, s + o, z) else m id := fun id x e => by
    have : id ≠ h.next := fun q => by rw [q, hnone] at e; cases e
    simp [this, e]
  have hidn : id ≠ h.next := fun q => by rw [q, hnone] at hm; cases hm
  obtain ⟨k1, cs, el, fz, k2, k3, k4, k5⟩ := hW.cells hr hm
  have hold : ∀ id2 r2, id2 ≠ h.next → ((h.rows.set id none).set h.next (some (.cells n' c'))).get id2 = some r2 → id2 ≠ id ∧ h.rows.get id2 = some r2 := fun id2 r2 g e => by
    rw [T.get_set, if_neg g, T.get_set] at e
    by_cases q : id2 = id
    · rw [if_pos q] at e; cases e
    · rw [if_neg q] at e; exact ⟨q, e⟩
  refine ⟨fun id => if id = h.next then some (b, s + o, z) else m id, hle, by simp, ?_, ⟨rfl, rfl, rfl, Nat.le_refl _, fun _ _ _ => rfl, fun id2 r' x e e' => ?_, fun id hid => by simp [Nat.ne_of_lt hid], Nat.le_succ _⟩⟩
  rotate_left
  · by_cases g : id2 = h.next
    · simp [g] at e'; subst e'; exact .inl ⟨id, _, _, hr, hm, rfl⟩
    · simp only [g, if_false] at e'
      exact .inl ⟨id2, r', x, (hold id2 r' g e).2, e', rfl⟩
  refine ⟨hW.low, fun id hid => ?_, fun id2 x e => ?_, fun id2 r' e => ?_, fun id2 id' r r' x x' e e' q q' ne => ?_⟩
  · have : id ≠ h.next := by have : Nat.succ h.next ≤ id := hid; omega
    simp only [this, if_false]; exact hW.fresh id (by have : Nat.succ h.next ≤ id := hid; omega)
  · by_cases g : id2 = h.next
    · simp [g] at e; subst e; show lo ≤ b ∧ b < _; exact hW.blocks id _ hm
    · simp only [g, if_false] at e; exact hW.blocks id2 x e
  · by_cases g : id2 = h.next
    · subst g; rw [T.get_set, if_pos rfl] at e; obtain rfl : Row.cells n' c' = r' := by simpa using e
      refine ⟨(b, s + o, z), by simp, ho, cs, el, fz, k2, k3, k4, fun i v e => ?_⟩
      obtain ⟨a1, a2⟩ := hc i v e
      obtain ⟨_, v', a3, a4⟩ := k5 _ _ a2
      exact ⟨a1, v', by rw [← a3]; congr 1; show s + o + i = _; omega, a4.mono hle⟩
    · obtain ⟨_, e⟩ := hold id2 r' g e
      obtain ⟨x, h1, h2⟩ := hW.rows id2 r' e
      exact ⟨x, by simp [g, h1], h2.mono hle⟩
  · by_cases g : id2 = h.next
    · by_cases g' : id' = h.next
      · exact absurd (g.trans g'.symm) ne
      · obtain ⟨d1, d2⟩ := hold id' r' g' e'
        simp only [g, if_true, g', if_false] at q q'
        simp only [Option.some.injEq] at q; subst q
        show b ≠ x'.1
        exact hW.apart id id' _ _ (b, s, z) x' hr d2 hm q' (Ne.symm d1)
    · obtain ⟨d1, d2⟩ := hold id2 r g e
      by_cases g' : id' = h.next
      · simp only [g, if_false, g', if_true] at q q'
        simp only [Option.some.injEq] at q'; subst q'
        show x.1 ≠ b
        exact hW.apart id2 id _ _ x (b, s, z) d2 hr q hm d1
      · obtain ⟨d3, d4⟩ := hold id' r' g' e'
        simp only [g, g', if_false] at q q'
        exact hW.apart id2 id' r r' x x' d2 d4 q q' ne
theorem setCell_heap (w : World) (b o : Nat) (v : Value) (k : Nat) :
    (w.setCell ⟨b, o, none⟩ v).heap[k]? = if k = b then (w.heap[k]?).map (fun | .cells c elem fz => .cells (c.setIfInBounds o v) elem fz | x => x) else w.heap[k]? := by
  unfold World.setCell
  simp only [Array.getElem?_modify, Option.isSome_none]
  by_cases h : k = b
  · subst h; simp only [if_true]; cases w.heap[k]? with
    | none => rfl
    | some x => cases x <;> rfl
  · rw [if_neg (fun e => h e.symm), if_neg h]
/-- A cell of a row takes a value. -/
theorem HR.cellPut (hW : HR h m lo w) {id n b s z i : Nat} {c : T Value} {v v' : Value} (hr : h.rows.get id = some (.cells n c)) (hm : m id = some (b, s, z)) (hi : i < n) (hv : VR m v v') :
    HR (h.put id (.cells n (c.set i (some v)))) m lo (w.setCell ⟨b, s + i, none⟩ v') ∧ Fr h m w (h.put id (.cells n (c.set i (some v)))) m (w.setCell ⟨b, s + i, none⟩ v') := by
  obtain ⟨h4, cs, el, fz, h2, h3, h5, h6⟩ := hW.cells hr hm
  refine hW.upd hr hm ⟨rfl, rfl, rfl⟩ (by simp [World.setCell]) (fun k hk => by rw [setCell_heap, if_neg hk]) ⟨h4, cs.setIfInBounds (s + i) v', el, fz, by rw [setCell_heap, if_pos rfl, h2]; rfl, by simpa using h3, h5, fun j u hj => ?_⟩
  rw [T.get_set] at hj
  have h4 : s + n ≤ z := h4
  have h3 : cs.size = z := h3
  by_cases q : j = i
  · rw [if_pos q] at hj; obtain rfl : v = u := by simpa using hj
    subst q
    exact ⟨hi, v', by show (cs.setIfInBounds (s + j) v')[s + j]? = _; rw [Array.getElem?_setIfInBounds_self_of_lt (by omega)], hv⟩
  · rw [if_neg q] at hj
    obtain ⟨q1, u', q2, q3⟩ := h6 j u hj
    exact ⟨q1, u', by show (cs.setIfInBounds (s + i) v')[s + j]? = _; rw [Array.getElem?_setIfInBounds_ne (by omega)]; exact q2, q3⟩
theorem VR.one {v v' : Value} (hv : VR m v v') (h1 : v.oneCell' = true) : v'.oneCell' = true := by cases hv <;> simp_all [Value.oneCell']
/-- What is needed to store at a cell of a row. -/
theorem HR.may (hW : HR h m lo w) {id n b s z i : Nat} {c : T Value} (hr : h.rows.get id = some (.cells n c)) (hm : m id = some (b, s, z)) (hi : i < n) :
    (∃ u, w.cell? ⟨b, s + i, none⟩ = some u) ∧ w.frozen? ⟨b, s + i, none⟩ = false := by
  obtain ⟨h4, cs, el, fz, h2, h3, h5, h6⟩ := hW.cells hr hm
  refine ⟨⟨cs[s + i]'(by omega), by simp [World.cell?, h2]⟩, ?_⟩
  have := h5 (s + i) (by omega)
  simp only [World.frozen?, h2]
  cases fz; simp_all
theorem store_list (b s z id n lo : Nat) (m : Em) (hm : m id = some (b, s, z)) (hlo : lo ≤ b) : ∀ (l l' : List Value) (h : H) (c : T Value) (w : World) (i j : Nat), HR h m lo w → h.rows.get id = some (.cells n c) →
    LR m l l' → i + j + l.length ≤ n → l.all Value.oneCell' = true →
    ∃ w', (storeCells ⟨b, s + i, none⟩ l' j).run P w = .ok () w' ∧ HR (h.put id (.cells n (storeL c (i + j) l))) m lo w' ∧ Fr h m w (h.put id (.cells n (storeL c (i + j) l))) m w'
  | [], [], h, c, w, i, j, hW, hr, _, _, _ => by
    have e : ∀ k, (h.rows.set id (some (.cells n c))).get k = h.rows.get k := fun k => by
      rw [T.get_set]; by_cases g : k = id
      · rw [if_pos g, g, hr]
      · rw [if_neg g]
    exact ⟨w, rfl, hW.congr e, (Fr.refl h m w).congr fun k r q => by rw [← e]; exact q⟩
  | v :: l, v' :: l', h, c, w, i, j, hW, hr, hl, hb, hv => by
    obtain ⟨h1, hl⟩ := hl.tail
    simp only [List.all_cons, Bool.and_eq_true] at hv
    have hij : i + j < n := by simp only [List.length_cons] at hb; omega
    obtain ⟨⟨u, h3⟩, h4⟩ := hW.may hr hm hij
    obtain ⟨hput, fput⟩ := hW.cellPut hr hm hij h1
    obtain ⟨w', k1, k2, k3⟩ := store_list b s z id n lo m hm hlo l l' _ (c.set (i + j) (some v)) (w.setCell ⟨b, s + (i + j), none⟩ v') i (j + 1) hput (T.get_set_same _ _ _) hl (by simp only [List.length_cons] at hb; omega) hv.2
    refine ⟨w', ?_, k2.congr fun k => ?_, (fput.trans k3).congr fun k r q => ?_⟩
    · have ha : (⟨b, s + i, none⟩ : Addr).add j = ⟨b, s + (i + j), none⟩ := by
        unfold Addr.add; split
        · rename_i hj; subst hj; rfl
        · simp [Nat.add_assoc]
      simp only [storeCells, Sem.run_bind, ha]
      rw [run_store P w _ v' .plain (h1.one hv.1), h3]
      simp only [h4, Bool.false_eq_true, if_false, Result.andThen_ok]
      try exact k1
    · simp only [H.put, T.get_set]; by_cases g : k = id
      · simp only [if_pos g]; rfl
      · simp only [if_neg g]
    · simp only [H.put, T.get_set] at q ⊢; by_cases g : k = id
      · simp only [if_pos g] at q ⊢; exact q
      · simp only [if_neg g] at q ⊢; exact q
  | [], _ :: _, _, _, _, _, _, _, _, hl, _, _ => by simp [LR] at hl
  | _ :: _, [], _, _, _, _, _, _, _, hl, _, _ => by simp [LR] at hl
theorem oneCell_cells {v : Value} (h : v.oneCell' = true) : v.cells = #[v] := by cases v <;> simp_all [Value.oneCell', Value.cells]
theorem VR.cells {v v' : Value} (hv : VR m v v') : LR m (cellsL v) (cellsL v') := by
  have one : ∀ u u' : Value, u.cells = #[u] → u'.cells = #[u'] → VR m u u' → LR m (cellsL u) (cellsL u') := by
    intro u u' e e' hu
    simp only [cellsL, e, e']; exact LR.cons hu (LR.nil m)
  cases hv with
  | agg hc h => exact LR.of_arr hc h
  | bool b => exact one _ _ rfl rfl (.bool b)
  | int k n => exact one _ _ rfl rfl (.int k n)
  | string s => exact one _ _ rfl rfl (.string s)
  | nilPointer => exact one _ _ rfl rfl .nilPointer
  | pointer e => exact one _ _ rfl rfl (.pointer e)
  | nilSlice => exact one _ _ rfl rfl .nilSlice
  | empty => exact one _ _ rfl rfl .empty
  | slice e a b => exact one _ _ rfl rfl (.slice e a b)
  | nilMap => exact one _ _ rfl rfl .nilMap
  | map e => exact one _ _ rfl rfl (.map e)
  | func a b c d => exact one _ _ rfl rfl (.func a b c d)
  | nilFunc => exact one _ _ rfl rfl .nilFunc
  | junk h => exact one _ _ rfl (oneCell_cells h) (.junk h)
  | nilIface => exact one _ _ rfl rfl .nilIface
  | tuple a b => exact one _ _ rfl rfl (.tuple a b)
theorem plainV_VR (m : Em) : ∀ (n : Nat) (v : Value), plainV n v = true → VR m v v := by
  intro n; induction n with
  | zero => intro v hv; simp [plainV] at hv
  | succ n ih =>
    have arr : ∀ c : Array Value, c.toList.all (plainV n) = true → ∀ (i : Nat) (x x' : Value), c[i]? = some x → c[i]? = some x' → VR m x x' := fun c hc i x x' hx hx' => by
      rw [hx] at hx'; obtain rfl : x = x' := by simpa using hx'
      exact ih x (List.all_eq_true.mp hc x (List.mem_of_getElem? (by rw [Array.getElem?_toList]; exact hx)))
    intro v hv
    cases v with
    | bool b => exact .bool b
    | int k n => exact .int k n
    | string s => exact .string s
    | pointer a => cases a with
      | none => exact .nilPointer
      | some a => simp [plainV] at hv
    | slice a l c => cases a with
      | none => cases l with
        | zero => cases c with
          | zero => exact .nilSlice
          | succ c => simp [plainV] at hv
        | succ l => simp [plainV] at hv
      | some a => simp [plainV] at hv
    | map r => cases r with
      | none => exact .nilMap
      | some r => simp [plainV] at hv
    | nilFunc => exact .nilFunc
    | nilIface => exact .nilIface
    | agg c => exact .agg rfl (arr c (by simpa [plainV] using hv))
    | tuple c => exact .tuple rfl (arr c (by simpa [plainV] using hv))
    | func fn f c => simp only [plainV, Bool.and_eq_true] at hv; exact .func rfl rfl (arr f hv.1) (arr c hv.2)
    | float k b => simp [plainV] at hv
    | complex k a b => simp [plainV] at hv
    | chan r => simp [plainV] at hv
    | iface t v => simp [plainV] at hv
theorem zeroT_info {t : TypeId} {v : Value} (hz : zeroT P t = some v) : ∃ i, P.info? t = some i ∧ i.zero = some v ∧ ∀ m : Em, VR m v v := by
  unfold zeroT at hz
  replace hz := Option.bind_eq_some_iff.mp hz
  obtain ⟨i, h1, hz⟩ := hz
  replace hz := Option.bind_eq_some_iff.mp hz
  obtain ⟨u, h2, hz⟩ := hz
  split at hz
  · rename_i hp; obtain rfl : u = v := by simpa using hz
    exact ⟨i, h1, h2, fun m => plainV_VR m 3 u hp⟩
  · cases hz
theorem zeroT_run {t : TypeId} {v : Value} (hz : zeroT P t = some v) : (zeroValue t).run P w = .ok v w ∧ ∀ m : Em, VR m v v := by
  obtain ⟨i, h1, h2, h3⟩ := zeroT_info hz
  refine ⟨?_, h3⟩
  unfold zeroValue typeInfo
  simp [h1, h2]
theorem push_below_ (hW : HR h m lo w) (o : Obj) : Below lo w { w with heap := w.heap.push o } :=
  ⟨rfl, rfl, rfl, by simp only [Array.size_push]; omega, fun k hk => by rw [Array.getElem?_push, if_neg (by have := hW.low; omega)]⟩
theorem fieldsT_eq {t : TypeId} {fs : Array Field} (hf : fieldsT P t = some fs) : P.underlying t = some (.struct fs) := by
  unfold fieldsT at hf
  split at hf
  · rename_i g e; obtain rfl : g = fs := by simpa using hf
    exact e
  · cases hf
theorem elemT_eq {t e : TypeId} (hf : elemT P t = some e) : P.underlying t = some (.slice e) := by
  unfold elemT at hf
  split at hf
  · rename_i g q; obtain rfl : g = e := by simpa using hf
    exact q
  · cases hf
theorem arrT_eq {t : TypeId} {e : Nat × TypeId} (hf : arrT P t = some e) : P.underlying t = some (.array e.1 e.2) := by
  unfold arrT at hf
  split at hf
  · rename_i a b q; obtain rfl : (a, b) = e := by simpa using hf
    exact q
  · cases hf
theorem isStr_eq {t : TypeId} (hf : isStr P t = true) : P.underlying t = some .string := by
  unfold isStr at hf
  split at hf
  · rename_i q; exact q
  · cases hf
theorem isU8_eq {t : TypeId} (hf : isU8 P t = true) : P.underlying t = some (.int .u8) := by
  unfold isU8 at hf
  split at hf
  · rename_i q; exact q
  · cases hf
theorem placeE_eq {n : Int} {len j : Nat} (h : placeE n len = some j) : n = (j : Int) ∧ j < len := by
  unfold placeE at h
  split at h
  · split at h
    · rename_i a g; simp only [Option.some.injEq] at h; subst h; exact ⟨rfl, by simpa using g⟩
    · cases h
  · cases h
theorem addr_add (b s o k : Nat) : (⟨b, s + o, none⟩ : Addr).add k = ⟨b, s + (o + k), none⟩ := by
  unfold Addr.add; split
  · rename_i hj; subst hj; rfl
  · simp [Nat.add_assoc]
theorem pureO_run {x : Sem Value} {v : Value} (hx : pureO x = some v) : x.run P w = .ok v w ∧ ∀ m : Em, VR m v v := by
  cases x with
  | pure u =>
    simp only [pureO] at hx
    split at hx
    · rename_i hp; obtain rfl : u = v := by simpa using hx
      exact ⟨rfl, fun m => plainV_VR m 1 u hp⟩
    · cases hx
  | _ => simp [pureO] at hx
end Go.Proofs.YtldbkigenaakkaaGreatDoorExe
namespace Go.Proofs.YtldbkigenaakkaaGreatDoorExe
open Go Go.RowKit
set_option linter.unusedVariables false
set_option linter.unusedSimpArgs false
set_option linter.unusedSectionVars false
variable {P : Program} {h : H} {m : Em} {lo : Nat} {w : World}
/-- What is reckoned is what is done. -/
def Ok (P : Program) (lo : Nat) (h : H) (m : Em) (x : Sem Value) (w : World) (v : Value) (h' : H) : Prop :=
  ∃ (m' : Em) (v' : Value) (w' : World), m.le m' ∧ x.run P w = .ok v' w' ∧ VR m' v v' ∧ HR h' m' lo w' ∧ Fr h m w h' m' w'
theorem Ok.same (hW : HR h m lo w) {x : Sem Value} {v v' : Value} (hx : x.run P w = .ok v' w) (hv : VR m v v') : Ok P lo h m x w v h := ⟨m, v', w, Em.le_refl m, hx, hv, hW, Fr.refl _ _ _⟩
/-- How operands are read. -/
def Reads (m : Em) (r : Operand → Option Value) (ev : Operand → Value) : Prop := ∀ x v, r x = some v → VR m v (ev x)
variable {r : Operand → Option Value} {ev : Operand → Value}
theorem load_run (hW : HR h m lo w) (hR : Reads m r ev) {t : TypeId} {a : Operand} {v : Value} {h' : H}
    (he : memE P r h (.load t a) = some (v, h')) : ∃ v', (Instr.loadAt t (ev a)).run P w = .ok v' w ∧ VR m v v' ∧ h' = h := by
  simp only [memE, loadE, storeE] at he
  replace he := Option.bind_eq_some_iff.mp he
  obtain ⟨x, h1, he⟩ := he
  have hx := hR a x h1
  generalize ev a = y at hx ⊢
  cases hx <;> (try (simp at he; done))
  rename_i id o b s z hm
  replace he := Option.bind_eq_some_iff.mp he
  obtain ⟨row, h2, he⟩ := he
  cases row with
  | map _ => simp at he
  | cells n c =>
    replace he := Option.bind_eq_some_iff.mp he
    obtain ⟨g, h3, he⟩ := he
    have hg := aggB_run (w := w) h3
    cases g with
    | true =>
      replace he := Option.bind_eq_some_iff.mp he
      obtain ⟨k, h4, he⟩ := he
      replace he := Option.bind_eq_some_iff.mp he
      obtain ⟨l, h5, he⟩ := he
      simp only [Option.some.injEq, Prod.mk.injEq] at he; obtain ⟨rfl, rfl⟩ := he
      obtain ⟨l', a1, a2, a3⟩ := hW.loads (P := P) h2 hm h5
      have hs := szT_run (w := w) h4
      refine ⟨.agg ⟨l'⟩, ?_, a2.agg, rfl⟩
      simp only [Instr.loadAt, Instr.sureAddr, loadVar, Sem.run_bind, Sem.run_pure, Result.andThen_ok, hg, hs, if_true, a3]
    | false =>
      replace he := Option.bind_eq_some_iff.mp he
      obtain ⟨u, h4, he⟩ := he
      simp only [Option.some.injEq, Prod.mk.injEq] at he; obtain ⟨rfl, rfl⟩ := he
      obtain ⟨v', h5, h6⟩ := hW.cell h2 hm h4
      refine ⟨v', ?_, h6, rfl⟩
      simp [Instr.loadAt, Instr.sureAddr, loadVar, hg, h5]
theorem load_sound (hW : HR h m lo w) (hR : Reads m r ev) {t : TypeId} {a : Operand} {v : Value} {h' : H}
    (he : memE P r h (.load t a) = some (v, h')) : Ok P lo h m (Instr.loadAt t (ev a)) w v h' := by
  obtain ⟨v', h1, h2, rfl⟩ := load_run hW hR he
  exact .same hW h1 h2
theorem store_sound (hW : HR h m lo w) (hR : Reads m r ev) {t : TypeId} {a x : Operand} {v : Value} {h' : H}
    (he : memE P r h (.store t a x) = some (v, h')) : v = undef ∧ ∃ w', (Instr.storeAt t (ev a) (ev x)).run P w = .ok () w' ∧ HR h' m lo w' ∧ Fr h m w h' m w' := by
  simp only [memE, loadE, storeE] at he
  replace he := Option.bind_eq_some_iff.mp he
  obtain ⟨y, h1, he⟩ := he
  have hy := hR a y h1
  generalize ev a = ya at hy ⊢
  cases hy <;> (try (simp at he; done))
  rename_i id o b s z hm
  replace he := Option.bind_eq_some_iff.mp he
  obtain ⟨row, h2, he⟩ := he
  cases row with
  | map _ => simp at he
  | cells n c =>
    replace he := Option.bind_eq_some_iff.mp he
    obtain ⟨u, h3, he⟩ := he
    replace he := Option.bind_eq_some_iff.mp he
    obtain ⟨k, h4, he⟩ := he
    have hu := hR x u h3
    split at he
    · rename_i hc
      simp only [Bool.and_eq_true] at hc
      obtain ⟨⟨c1, c2⟩, c3⟩ := hc
      have c1 : (cellsL u).length = k := Nat.eq_of_beq_eq_true c1
      have c2 : o + k ≤ n := Nat.le_of_ble_eq_true c2
      simp only [Option.some.injEq, Prod.mk.injEq] at he; obtain ⟨rfl, rfl⟩ := he
      have e1 := hu.cells
      obtain ⟨w', k1, k2, k3⟩ := store_list (P := P) b s z id n lo m hm (hW.blocks _ _ hm).1 (cellsL u) (cellsL (ev x)) h c w o 0 hW h2 e1 (by omega) c3
      refine ⟨rfl, w', ?_, k2, k3⟩
      have hs := szT_run (w := w) h4
      have hsz : (ev x).cells.size = k := by rw [← c1, e1.1]; simp [cellsL]
      simp only [Instr.storeAt, Instr.sureAddr, storeVar, Sem.run_bind, Sem.run_pure, Result.andThen_ok, hs, hsz, ne_eq, not_true_eq_false, if_false]
      exact k1
    · cases he
/-- What makes a row of its own. -/
def FreshOk (P : Program) (m : Em) (id : Nat) (x : Sem Value) (w : World) (v : Value) (row : Row) : Prop :=
  ∃ (o : Obj) (z : Nat), (∀ m' : Em, m.le m' → RR m' row (w.heap.size, 0, z) (some o)) ∧
    ∀ m' : Em, m.le m' → m' id = some (w.heap.size, 0, z) → ∃ v', x.run P w = .ok v' { w with heap := w.heap.push o } ∧ VR m' v v'
theorem FreshOk.ok (hW : HR h m lo w) {x : Sem Value} {v : Value} {row : Row} (hf : FreshOk P m h.next x w v row) : Ok P lo h m x w v ⟨Nat.succ h.next, h.rows.set h.next (some row)⟩ := by
  obtain ⟨o, z, h1, h2⟩ := hf
  obtain ⟨m', k1, k2, k3, k4⟩ := hW.new h1
  obtain ⟨v', p1, p2⟩ := h2 m' k1 k2
  exact ⟨m', v', _, k1, p1, p2, k3, k4⟩
theorem fresh_box {id : Nat} {v v' : Value} {t : TypeId} (hv : VR m v v') : FreshOk P m id (Instr.box t v') w (.pointer (some ⟨id, 0, none⟩)) (.cells (cellsL v).length (storeL .l 0 (cellsL v))) := by
  have e := hv.cells
  refine ⟨.cells v'.cells t, v'.cells.size, fun m' hm' => RR.list rfl (by rw [e.1]; simp [cellsL]) (by intro i _ hi; simp at hi) (fun i x hx => ?_), fun m' _ hid => ⟨.pointer (some ⟨w.heap.size, 0 + 0, none⟩), by simp [Instr.box, newVar, newRow], .pointer hid⟩⟩
  obtain ⟨y, a, b⟩ := (e.mono hm').get hx
  exact ⟨y, by simpa [cellsL] using a, b⟩
theorem fresh_alloc {id : Nat} {t : TypeId} {v : Value} (hz : zeroT P t = some v) : FreshOk P m id (Instr.alloc t true (.tuple #[])) w (.pointer (some ⟨id, 0, none⟩)) (.cells (cellsL v).length (storeL .l 0 (cellsL v))) := by
  obtain ⟨z1, z2⟩ := zeroT_run (w := w) hz
  obtain ⟨o, z, h1, h2⟩ := fresh_box (P := P) (w := w) (id := id) (t := t) (z2 m)
  refine ⟨o, z, h1, fun m' hm' hid => ?_⟩
  obtain ⟨v', p1, p2⟩ := h2 m' hm' hid
  refine ⟨v', ?_, p2⟩
  simp only [Instr.alloc, Sem.run_bind, z1, Result.andThen_ok]
  exact p1
theorem reL_length (l : List Value) (n : Nat) : (reL l n).length = n * l.length := by
  induction n with
  | zero => simp [reL]
  | succ n ih => simp only [reL, List.length_append, ih]; rw [Nat.succ_mul]; omega
theorem reL_get (l : List Value) : ∀ (n i : Nat) (v : Value), (reL l n)[i]? = some v → l[i % l.length]? = some v
  | 0, i, v, e => by simp [reL] at e
  | n + 1, i, v, e => by
    simp only [reL] at e
    by_cases g : i < l.length
    · rw [List.getElem?_append_left g] at e; rw [Nat.mod_eq_of_lt g]; exact e
    · rw [List.getElem?_append_right (by omega)] at e
      have := reL_get l n _ v e
      rw [Nat.mod_eq_sub_mod (by omega)]; exact this
theorem made_get {z : Value} {k : Nat} (hk : 0 < (cellsL z).length) {i n : Nat} {v : Value} (hn : n * (cellsL z).length = k) (e : (reL (cellsL z) n)[i]? = some v) : (madeCells z.cells k)[i]? = some v := by
  have h1 := reL_get (cellsL z) n i v e
  have h2 : i < (reL (cellsL z) n).length := (List.getElem?_eq_some_iff.mp e).1
  rw [reL_length, hn] at h2
  have hs : z.cells.size = (cellsL z).length := by simp [cellsL]
  have hlt : i % z.cells.size < z.cells.size := Nat.mod_lt _ (by omega)
  rw [← hs] at h1
  have h1' : z.cells[i % z.cells.size]? = some v := by simpa [cellsL] using h1
  simp only [madeCells, Array.getElem?_map, Array.getElem?_range, h2, if_true, Option.map_some, Option.some.injEq]
  rw [getElem!_pos z.cells _ hlt]
  rw [Array.getElem?_eq_getElem hlt] at h1'
  exact Option.some.inj h1'
theorem fresh_makeSlice {id : Nat} (hR : Reads m r ev) {t : TypeId} {a b : Operand} {v : Value} {row : Row}
    (he : freshE P r id (.makeSlice t a b) = some (v, row)) : FreshOk P m id (Instr.makeSlice t (ev a) (ev b)) w v row := by
  simp only [freshE, makeSliceE, buildSliceE] at he
  replace he := Option.bind_eq_some_iff.mp he
  obtain ⟨e, h1, he⟩ := he
  replace he := Option.bind_eq_some_iff.mp he
  obtain ⟨es, h2, he⟩ := he
  replace he := Option.bind_eq_some_iff.mp he
  obtain ⟨by_, h3, he⟩ := he
  replace he := Option.bind_eq_some_iff.mp he
  obtain ⟨z, h4, he⟩ := he
  replace he := Option.bind_eq_some_iff.mp he
  obtain ⟨x, h5, he⟩ := he
  have hx := hR a x h5
  generalize ev a = xa at hx ⊢
  cases hx <;> (try (simp at he; done))
  rename_i k1 n1
  cases n1 with
  | negSucc _ => simp at he
  | ofNat n =>
    replace he := Option.bind_eq_some_iff.mp he
    obtain ⟨y, h6, he⟩ := he
    have hy := hR b y h6
    generalize ev b = yb at hy ⊢
    cases hy <;> (try (simp at he; done))
    rename_i k2 n2
    cases n2 with
    | negSucc _ => simp at he
    | ofNat n' =>
      simp only at he
      split at he
      · rename_i hc
        simp only [Bool.and_eq_true] at hc
        obtain ⟨⟨⟨⟨c1, c2⟩, c3⟩, c4⟩, c5⟩ := hc
        obtain rfl : n = n' := Nat.eq_of_beq_eq_true c1
        have c2 : n ≤ 1000000 := Nat.le_of_ble_eq_true c2
        have c3 : by_ ≤ 1000000 := Nat.le_of_ble_eq_true c3
        have c4 : 0 < es := by simpa [Nat.blt_eq] using c4
        have c5 : (cellsL z).length = es := Nat.eq_of_beq_eq_true c5
        obtain ⟨i, q1, q2, q3⟩ := zeroT_info h4
        have hsz : i.size = es := by unfold szT at h2; rw [q1] at h2; simpa using h2
        have hby : i.bytes = by_ := by unfold bytesT at h3; rw [q1] at h3; simpa using h3
        have hb : i.bytes * n ≤ 1000000 * 1000000 := Nat.mul_le_mul (by omega) c2
        have hrun := run_make (P := P) w t e i z (elemT_eq h1) q1 q2 k1 k2 (Int.ofNat n) (Int.ofNat n) (Int.natCast_nonneg n) (Int.le_refl _)
          (by have : ((i.bytes * n : Nat) : Int) ≤ 281474976710656 := by omega
              rwa [Int.natCast_mul] at this) (by show (n : Int) ≤ _; omega)
        rw [fN_eq] at he
        simp only [Option.some.injEq, Prod.mk.injEq] at he; obtain ⟨rfl, rfl⟩ := he
        have hlen : (reL (cellsL z) n).length = n * es := by rw [reL_length, c5]
        have hms : (madeCells z.cells (n * i.size)).size = n * es := by rw [size_madeCells, hsz]
        refine ⟨.cells (madeCells z.cells (n * i.size)) e, n * es, fun m' _ => ?_, fun m' _ hid => ⟨.slice (some ⟨w.heap.size, 0 + 0, none⟩) n n, hrun, .slice hid (Nat.le_refl _) (by omega)⟩⟩
        have := RR.list (m := m') (b := w.heap.size) (el := e) (fz := (0, 0)) (l := reL (cellsL z) n) (cs := madeCells z.cells (n * i.size)) hms (by omega) (by intro i _ hi; simp at hi) (fun j x hj =>
          ⟨x, made_get (by omega) (by rw [c5, hsz]) hj, by
            have := reL_get (cellsL z) n j x hj
            exact (q3 m').cells.2 _ _ _ this this⟩)
        rw [hlen] at this; exact this
      · cases he
theorem part_sound {l l' : List Value} (hl : LR m l l') {t : TypeId} {off : Nat} {v : Value} (he : partL P t l off = some v) : ∃ v', (part t ⟨l'⟩ off).run P w = .ok v' w ∧ VR m v v' := by
  unfold partL at he
  replace he := Option.bind_eq_some_iff.mp he
  obtain ⟨g, h1, he⟩ := he
  have hg := aggB_run (w := w) h1
  cases g with
  | true =>
    replace he := Option.bind_eq_some_iff.mp he
    obtain ⟨n, h2, he⟩ := he
    simp only [Option.some.injEq] at he; subst he
    refine ⟨.agg ⟨(l'.drop off).take n⟩, ?_, ((hl.drop off).take n).agg⟩
    simp only [part, Sem.run_bind, hg, Result.andThen_ok, if_true, szT_run h2, Sem.run_pure]
    congr 2
    apply Array.ext'
    simp [Array.toList_extract]
  | false =>
    have he : l[off]? = some v := he
    obtain ⟨v', h2, h3⟩ := hl.get he
    refine ⟨v', ?_, h3⟩
    have h2' : (⟨l'⟩ : Array Value)[off]? = some v' := by simpa using h2
    simp only [part, Sem.run_bind, hg, Result.andThen_ok, Bool.false_eq_true, if_false, h2', Sem.run_pure]
theorem fieldAddr_sound (hW : HR h m lo w) (hR : Reads m r ev) {t : TypeId} {x : Operand} {f : Nat} {v : Value}
    (he : addrE P r (.fieldAddr t x f) = some v) : Ok P lo h m (Instr.fieldAt t (ev x) f) w v h := by
  simp only [addrE, fieldAddrE, fieldE, indexAddrE, indexE, nilCheckE, extractE, makeFuncE] at he
  replace he := Option.bind_eq_some_iff.mp he
  obtain ⟨fs, h1, he⟩ := he
  replace he := Option.bind_eq_some_iff.mp he
  obtain ⟨g, h2, he⟩ := he
  replace he := Option.bind_eq_some_iff.mp he
  obtain ⟨n, h3, he⟩ := he
  replace he := Option.bind_eq_some_iff.mp he
  obtain ⟨y, h4, he⟩ := he
  have hy := hR x y h4
  generalize ev x = ya at hy ⊢
  cases hy <;> (try (simp at he; done))
  rename_i id o b s z hm
  simp only at he
  split at he
  · rename_i hn
    simp only [Option.some.injEq] at he; subst he
    have hs := szT_run (w := w) h3
    have hn0 : n ≠ 0 := by intro e; subst e; simp at hn
    refine .same hW (v' := .pointer (some ⟨b, s + (o + g.offset), none⟩)) ?_ (.pointer hm)
    simp only [Instr.fieldAt, Instr.sureAddr, fieldPlace, Sem.run_bind, run_underlying (fieldsT_eq h1), Result.andThen_ok, h2, Sem.run_pure, hs, hn0, if_false, addr_add]
  · cases he
theorem field_sound (hW : HR h m lo w) (hR : Reads m r ev) {t : TypeId} {x : Operand} {f : Nat} {v : Value}
    (he : addrE P r (.field t x f) = some v) : Ok P lo h m (Instr.field t (ev x) f) w v h := by
  simp only [addrE, fieldAddrE, fieldE, indexAddrE, indexE, nilCheckE, extractE, makeFuncE] at he
  replace he := Option.bind_eq_some_iff.mp he
  obtain ⟨fs, h1, he⟩ := he
  replace he := Option.bind_eq_some_iff.mp he
  obtain ⟨g, h2, he⟩ := he
  replace he := Option.bind_eq_some_iff.mp he
  obtain ⟨y, h4, he⟩ := he
  have hy := hR x y h4
  generalize ev x = ya at hy ⊢
  cases hy <;> (try (simp at he; done))
  rename_i c c' hc hcc
  obtain ⟨v', k1, k2⟩ := part_sound (P := P) (w := w) (LR.of_arr hc hcc) (show partL P g.type c.toList g.offset = some v from he)
  refine .same hW (v' := v') ?_ k2
  simp only [Instr.field, asAgg, Sem.run_bind, run_underlying (fieldsT_eq h1), Result.andThen_ok, h2, Sem.run_pure]
  exact k1
theorem indexAddr_sound (hW : HR h m lo w) (hR : Reads m r ev) {t : TypeId} {x i : Operand} {v : Value}
    (he : addrE P r (.indexAddr t x i) = some v) : Ok P lo h m (Instr.indexAt t (ev x) (ev i)) w v h := by
  simp only [addrE, fieldAddrE, fieldE, indexAddrE, indexE, nilCheckE, extractE, makeFuncE] at he
  replace he := Option.bind_eq_some_iff.mp he
  obtain ⟨q, h1, he⟩ := he
  have hq := hR i q h1
  generalize ev i = qa at hq ⊢
  cases hq <;> (try (simp at he; done))
  rename_i kk nn
  replace he := Option.bind_eq_some_iff.mp he
  obtain ⟨y, h2, he⟩ := he
  have hy := hR x y h2
  generalize ev x = ya at hy ⊢
  cases hy <;> (try (simp at he; done))
  case slice id o b s z len es c' hm hn hc =>
    replace he := Option.bind_eq_some_iff.mp he
    obtain ⟨e, h3, he⟩ := he
    replace he := Option.bind_eq_some_iff.mp he
    obtain ⟨k, h4, he⟩ := he
    replace he := Option.bind_eq_some_iff.mp he
    obtain ⟨j, h5, he⟩ := he
    simp only [Option.some.injEq] at he; subst he
    obtain ⟨rfl, hj⟩ := placeE_eq h5
    refine .same hW (v' := .pointer (some ⟨b, s + (o + j * k), none⟩)) ?_ (.pointer hm)
    have hs := szT_run (w := w) h4
    simp only [Instr.indexAt, asIntOf, Sem.run_bind, Sem.run_pure, run_underlying (elemT_eq h3), Result.andThen_ok]
    rw [if_pos (by omega)]
    simp only [Sem.run_bind, hs, Result.andThen_ok, Sem.run_pure, Int.toNat_natCast, addr_add]
  case pointer id o b s z hm =>
    replace he := Option.bind_eq_some_iff.mp he
    obtain ⟨e, h3, he⟩ := he
    replace he := Option.bind_eq_some_iff.mp he
    obtain ⟨k, h4, he⟩ := he
    replace he := Option.bind_eq_some_iff.mp he
    obtain ⟨j, h5, he⟩ := he
    simp only [Option.some.injEq] at he; subst he
    obtain ⟨rfl, hj⟩ := placeE_eq h5
    refine .same hW (v' := .pointer (some ⟨b, s + (o + j * k), none⟩)) ?_ (.pointer hm)
    have hs := szT_run (w := w) h4
    simp only [Instr.indexAt, asIntOf, Instr.sureAddr, Sem.run_bind, Sem.run_pure, run_underlying (arrT_eq h3), Result.andThen_ok]
    rw [if_pos (by omega)]
    simp only [Sem.run_bind, hs, Result.andThen_ok, Sem.run_pure, Int.toNat_natCast, addr_add]
theorem index_sound (hW : HR h m lo w) (hR : Reads m r ev) {t : TypeId} {x i : Operand} {v : Value}
    (he : addrE P r (.index t x i) = some v) : Ok P lo h m (Instr.index t (ev x) (ev i)) w v h := by
  simp only [addrE, fieldAddrE, fieldE, indexAddrE, indexE, nilCheckE, extractE, makeFuncE] at he
  replace he := Option.bind_eq_some_iff.mp he
  obtain ⟨q, h1, he⟩ := he
  have hq := hR i q h1
  generalize ev i = qa at hq ⊢
  cases hq <;> (try (simp at he; done))
  rename_i kk nn
  replace he := Option.bind_eq_some_iff.mp he
  obtain ⟨y, h2, he⟩ := he
  have hy := hR x y h2
  generalize ev x = ya at hy ⊢
  cases hy <;> (try (simp at he; done))
  case agg c c' hc hcc =>
    replace he := Option.bind_eq_some_iff.mp he
    obtain ⟨e, h3, he⟩ := he
    replace he := Option.bind_eq_some_iff.mp he
    obtain ⟨k, h4, he⟩ := he
    obtain ⟨j, h5, he2⟩ := Option.bind_eq_some_iff.mp he
    obtain ⟨rfl, hj⟩ := placeE_eq h5
    obtain ⟨v', k1, k2⟩ := part_sound (P := P) (w := w) (LR.of_arr hc hcc) he2
    refine .same hW (v' := v') ?_ k2
    have hs := szT_run (w := w) h4
    simp only [Instr.index, asIntOf, Sem.run_bind, Sem.run_pure, run_underlying (arrT_eq h3), Result.andThen_ok]
    rw [if_pos (by omega)]
    simp only [Sem.run_bind, hs, Result.andThen_ok, Int.toNat_natCast]
    exact k1
  case string s =>
    simp only at he
    split at he
    · rename_i hst
      replace he := Option.bind_eq_some_iff.mp he
      obtain ⟨j, h5, he⟩ := he
      replace he := Option.bind_eq_some_iff.mp he
      obtain ⟨bt, h6, he⟩ := he
      simp only [Option.some.injEq] at he; subst he
      obtain ⟨rfl, hj⟩ := placeE_eq h5
      refine .same hW (v' := .int .u8 bt.toNat) ?_ (.int _ _)
      have h7 : s[j]? = some bt := by
        rw [ByteArray.getElem?_lt' s j hj]
        have : s.data[j]? = some bt := by simpa using h6
        rw [Array.getElem?_eq_getElem (show j < s.data.size from hj)] at this
        exact this
      simp only [Instr.index, asIntOf, Sem.run_bind, Sem.run_pure, run_underlying (isStr_eq hst), Result.andThen_ok]
      rw [if_pos (Int.natCast_nonneg j)]
      simp only [Int.toNat_natCast, h7, Sem.run_pure]
    · cases he
theorem extract_sound (hW : HR h m lo w) (hR : Reads m r ev) {x : Operand} {i : Nat} {v : Value}
    (he : addrE P r (.extract x i) = some v) : Ok P lo h m (Instr.extract (ev x) i) w v h := by
  simp only [addrE, fieldAddrE, fieldE, indexAddrE, indexE, nilCheckE, extractE, makeFuncE] at he
  replace he := Option.bind_eq_some_iff.mp he
  obtain ⟨y, h4, he⟩ := he
  have hy := hR x y h4
  generalize ev x = ya at hy ⊢
  cases hy <;> (try (simp at he; done))
  rename_i c c' hc hcc
  obtain ⟨v', k1, k2⟩ := (LR.of_arr hc hcc).get (show c.toList[i]? = some v from he)
  refine .same hW (v' := v') ?_ k2
  have k1' : c'[i]? = some v' := by simpa using k1
  simp only [Instr.extract, k1', Sem.run_pure]
theorem mapR_sound (hR : Reads m r ev) : ∀ {xs : List Operand} {l : List Value}, mapR r xs = some l → LR m l (xs.map ev)
  | [], l, e => by simp only [mapR, Option.some.injEq] at e; subst e; exact LR.nil m
  | x :: xs, l, e => by
    simp only [mapR] at e
    replace e := Option.bind_eq_some_iff.mp e
    obtain ⟨v, h1, e⟩ := e
    replace e := Option.bind_eq_some_iff.mp e
    obtain ⟨l', h2, e⟩ := e
    simp only [Option.some.injEq] at e; subst e
    exact LR.cons (hR x v h1) (mapR_sound hR h2)
theorem LR.func {f f' c c' : List Value} {fn : Fn} (h1 : LR m f f') (h2 : LR m c c') : VR m (.func fn ⟨f⟩ ⟨c⟩) (.func fn ⟨f'⟩ ⟨c'⟩) :=
  .func (by simpa using h1.1) (by simpa using h2.1) (fun i v v' e e' => h1.2 i v v' (by simpa using e) (by simpa using e')) (fun i v v' e e' => h2.2 i v v' (by simpa using e) (by simpa using e'))
theorem makeFunc_sound (hW : HR h m lo w) (hR : Reads m r ev) {fn : Fn} {f c : Array Operand} {v : Value}
    (he : addrE P r (.makeFunc fn f c) = some v) : Ok P lo h m (Instr.makeFunc fn (f.map ev) (c.map ev)) w v h := by
  simp only [addrE, fieldAddrE, fieldE, indexAddrE, indexE, nilCheckE, extractE, makeFuncE] at he
  replace he := Option.bind_eq_some_iff.mp he
  obtain ⟨l, h1, he⟩ := he
  replace he := Option.bind_eq_some_iff.mp he
  obtain ⟨k, h2, he⟩ := he
  simp only [Option.some.injEq] at he; subst he
  refine .same hW (v' := .func fn (f.map ev) (c.map ev)) rfl ?_
  have e1 : f.map ev = ⟨f.toList.map ev⟩ := by apply Array.ext'; simp
  have e2 : c.map ev = ⟨c.toList.map ev⟩ := by apply Array.ext'; simp
  rw [e1, e2]
  exact LR.func (mapR_sound hR h1) (mapR_sound hR h2)
end Go.Proofs.YtldbkigenaakkaaGreatDoorExe
namespace Go.Proofs.YtldbkigenaakkaaGreatDoorExe
open Go Go.RowKit
set_option linter.unusedVariables false
set_option linter.unusedSimpArgs false
set_option linter.unusedSectionVars false
variable {P : Program} {h : H} {m : Em} {lo : Nat} {w : World} {r : Operand → Option Value} {ev : Operand → Value}
theorem boundE_run (hR : Reads m r ev) {x : Option Operand} {d n k : Nat} {code : BoundsCode} (he : boundE r x d = some n) (hn : n ≤ k) :
    (match x.map ev with | some v => Instr.sliceBound v k code | none => pure d : Sem Nat).run P w = .ok n w := by
  cases x with
  | none => simp only [boundE, Option.some.injEq] at he; subst he; rfl
  | some x =>
    simp only [boundE] at he
    replace he := Option.bind_eq_some_iff.mp he
    obtain ⟨v, h1, he⟩ := he
    have hv := hR x v h1
    simp only [Option.map_some]
    generalize ev x = y at hv ⊢
    cases hv <;> (try (simp at he; done))
    rename_i kk nn
    cases nn with
    | negSucc _ => simp at he
    | ofNat j =>
      obtain rfl : j = n := by simpa using he
      simp only [Instr.sliceBound, asIntOf, Sem.run_bind, Sem.run_pure, Result.andThen_ok]
      rw [if_pos ⟨Int.natCast_nonneg j, by show (j : Int) ≤ k; omega⟩]
      rfl
theorem bounds_run (hR : Reads m r ev) {lo' hi : Option Operand} {len cap i j : Nat} (b : Bool) (h1 : boundE r hi len = some j) (h2 : boundE r lo' 0 = some i) (hij : i ≤ j) (hjc : j ≤ cap) :
    (Instr.sliceBounds b len cap (lo'.map ev) (hi.map ev) none).run P w = .ok (i, j, cap) w := by
  have e1 := fun code => boundE_run (P := P) (w := w) (code := code) hR h1 hjc
  have e2 := fun code => boundE_run (P := P) (w := w) (code := code) hR h2 hij
  unfold Instr.sliceBounds
  simp only [Sem.run_bind, Sem.run_pure, Result.andThen_ok, Option.isSome_none, Bool.false_eq_true, if_false]
  cases hi with
  | none =>
    simp only [boundE, Option.some.injEq] at h1; subst h1
    simp only [Option.map_none, Sem.run_bind, Sem.run_pure, Result.andThen_ok]
    cases lo' with
    | none => simp only [boundE, Option.some.injEq] at h2; subst h2; simp
    | some x => simp only [Option.map_some] at e2 ⊢; simp only [Sem.run_bind, e2, Result.andThen_ok, Sem.run_pure]
  | some y =>
    simp only [Option.map_some] at e1 ⊢
    simp only [Sem.run_bind, e1, Result.andThen_ok]
    cases lo' with
    | none => simp only [boundE, Option.some.injEq] at h2; subst h2; simp
    | some x => simp only [Option.map_some] at e2 ⊢; simp only [Sem.run_bind, e2, Result.andThen_ok, Sem.run_pure]
theorem slice_sound (hW : HR h m lo w) (hR : Reads m r ev) {t : TypeId} {x : Operand} {a b : Option Operand} {v : Value}
    (he : sliceE P r t x a b = some v) : Ok P lo h m (Instr.sliceAt t (ev x) (a.map ev) (b.map ev) none) w v h := by
  unfold sliceE at he
  replace he := Option.bind_eq_some_iff.mp he
  obtain ⟨y, h1, he⟩ := he
  have hy := hR x y h1
  generalize ev x = ya at hy ⊢
  have slc : ∀ (A : Option Addr) (n c i j e es : Nat), elemT P t = some e → szT P e = some es → boundE r b n = some j → boundE r a 0 = some i → i ≤ j → j ≤ n → n ≤ c →
      (Instr.sliceAt t (.slice A n c) (a.map ev) (b.map ev) none).run P w = .ok (.slice (if c = i then A else A.map (·.add (i * es))) (j - i) (c - i)) w := fun A n c i j e es q1 q2 q3 q4 q5 q6 q7 => by
    have hb := bounds_run (P := P) (w := w) (cap := c) hR true q3 q4 q5 (by omega)
    simp only [Instr.sliceAt, Instr.slice, Sem.run_bind, run_underlying (elemT_eq q1), Result.andThen_ok, hb, szT_run q2, Sem.run_pure]
  cases hy <;> (try (simp at he; done))
  case string s =>
    simp only at he
    split at he
    · rename_i hst
      replace he := Option.bind_eq_some_iff.mp he
      obtain ⟨j, h2, he⟩ := he
      replace he := Option.bind_eq_some_iff.mp he
      obtain ⟨i, h3, he⟩ := he
      split at he
      · rename_i hc
        simp only [Bool.and_eq_true] at hc
        have c1 : i ≤ j := Nat.le_of_ble_eq_true hc.1
        have c2 : j ≤ s.size := Nat.le_of_ble_eq_true hc.2
        simp only [Option.some.injEq] at he; subst he
        have hb := bounds_run (P := P) (w := w) (cap := s.size) hR false h2 h3 c1 c2
        refine .same hW (v' := .string (s.extract i j)) ?_ ?_
        · simp only [Instr.sliceAt, Instr.slice, Sem.run_bind, run_underlying (isStr_eq hst), Result.andThen_ok, hb, Option.isSome_none, Bool.false_eq_true, if_false, Sem.run_pure]
        · have : s.extract i j = ⟨⟨(s.data.toList.drop i).take (j - i)⟩⟩ := ByteArray.extract_mk s.data.toList i j
          rw [this]; exact .string _
      · cases he
    · cases he
  case nilSlice =>
    replace he := Option.bind_eq_some_iff.mp he
    obtain ⟨e, h2, he⟩ := he
    replace he := Option.bind_eq_some_iff.mp he
    obtain ⟨es, h3, he⟩ := he
    replace he := Option.bind_eq_some_iff.mp he
    obtain ⟨j, h4, he⟩ := he
    replace he := Option.bind_eq_some_iff.mp he
    obtain ⟨i, h5, he⟩ := he
    split at he
    · rename_i hc
      simp only [Bool.and_eq_true] at hc
      have c1 : i ≤ j := Nat.le_of_ble_eq_true hc.1
      have c2 : j ≤ 0 := Nat.le_of_ble_eq_true hc.2
      obtain rfl : j = 0 := by omega
      obtain rfl : i = 0 := by omega
      simp only at he
      split at he
      · simp only [Option.some.injEq] at he; subst he
        have := slc none 0 0 0 0 e es h2 h3 h4 h5 (Nat.le_refl _) (Nat.le_refl _) (Nat.le_refl _)
        exact .same hW (v' := .slice none 0 0) (by simpa using this) .nilSlice
      · cases he
    · cases he
  case empty A c =>
    replace he := Option.bind_eq_some_iff.mp he
    obtain ⟨e, h2, he⟩ := he
    replace he := Option.bind_eq_some_iff.mp he
    obtain ⟨es, h3, he⟩ := he
    replace he := Option.bind_eq_some_iff.mp he
    obtain ⟨j, h4, he⟩ := he
    replace he := Option.bind_eq_some_iff.mp he
    obtain ⟨i, h5, he⟩ := he
    split at he
    · rename_i hc
      simp only [Bool.and_eq_true] at hc
      have c1 : i ≤ j := Nat.le_of_ble_eq_true hc.1
      have c2 : j ≤ 0 := Nat.le_of_ble_eq_true hc.2
      obtain rfl : j = 0 := by omega
      obtain rfl : i = 0 := by omega
      simp only at he
      split at he
      · simp only [Option.some.injEq] at he; subst he
        have := slc A 0 c 0 0 e es h2 h3 h4 h5 (Nat.le_refl _) (Nat.le_refl _) (Nat.zero_le _)
        exact .same hW this .empty
      · cases he
    · cases he
  case slice id o bb s z es0 n c' hm hn hcap =>
    replace he := Option.bind_eq_some_iff.mp he
    obtain ⟨e, h2, he⟩ := he
    replace he := Option.bind_eq_some_iff.mp he
    obtain ⟨es, h3, he⟩ := he
    replace he := Option.bind_eq_some_iff.mp he
    obtain ⟨j, h4, he⟩ := he
    replace he := Option.bind_eq_some_iff.mp he
    obtain ⟨i, h5, he⟩ := he
    split at he
    · rename_i hc
      simp only [Bool.and_eq_true] at hc
      have c1 : i ≤ j := Nat.le_of_ble_eq_true hc.1
      have c2 : j ≤ n := Nat.le_of_ble_eq_true hc.2
      have hrun := slc (some ⟨bb, s + o, none⟩) n c' i j e es h2 h3 h4 h5 c1 c2 hn
      have he9 := he
      clear he
      simp only at he9
      split at he9
      · rename_i hij
        simp only [Bool.and_eq_true] at hij
        obtain rfl : i = j := Nat.eq_of_beq_eq_true hij.1
        simp only [Option.some.injEq] at he9; subst he9
        rw [Nat.sub_self] at hrun
        exact .same hW hrun .empty
      · rename_i hij
        split at he9
        · rename_i hes
          obtain rfl : es0 = es := Nat.eq_of_beq_eq_true hes
          simp only [Option.some.injEq] at he9; subst he9
          by_cases hci : c' = i
          · -- then nothing was cut off ahead
            have hi0 : i = 0 := by
              have : j = i := by omega
              subst this
              simp only [Bool.and_eq_true, not_and] at hij
              have hb : Nat.beq j j = true := Nat.beq_refl j
              have := hij hb
              simpa [Nat.blt_eq] using this
            subst hi0
            rw [if_pos hci] at hrun
            refine .same hW hrun ?_
            have : (⟨bb, s + o, none⟩ : Addr) = ⟨bb, s + (o + 0 * es0), none⟩ := by simp
            rw [this]
            exact .slice (z := z) hm (by show j - 0 ≤ c'; omega) (by simpa using hcap)
          · rw [if_neg hci] at hrun
            simp only [Option.map_some, addr_add] at hrun
            refine .same hW hrun (.slice hm (by show j - i ≤ c' - i; omega) ?_)
            have : i * es0 + (c' - i) * es0 = c' * es0 := by rw [← Nat.add_mul]; congr 1; omega
            show s + (o + i * es0) + (c' - i) * es0 ≤ z
            omega
        · cases he9
    · cases he
/-! ### elements of a list or a text -/
theorem lenV_run {x x' : Value} {n : Nat} (hx : VR m x x') (he : lenV x = some n) (w2 : World) : (Builtin.lenOf x').run P w2 = .ok n w2 := by
  cases hx <;> simp only [lenV, Option.some.injEq, reduceCtorEq] at he <;> subst he <;> rfl
theorem first_sound (hW : HR h m lo w) {x x' : Value} {es n k : Nat} {l : List Value} (hx : VR m x x') (hk : lenV x = some k) (hnk : n ≤ k) (he : firstE h es n x = some l) :
    ∃ l' : List Value, LR m l l' ∧ ∀ w2 : World, w2.heap = w.heap → (Builtin.firstCells es n x').run P w2 = .ok ⟨l'⟩ w2 := by
  cases hx <;> simp only [firstE, reduceCtorEq] at he <;> (try (simp only [lenV, reduceCtorEq] at hk; done))
  case string s =>
    simp only [Option.some.injEq] at he; subst he
    refine ⟨_, ⟨rfl, fun i v v' e e' => ?_⟩, fun w2 _ => ?_⟩
    rotate_left
    · simp only [Builtin.firstCells, Sem.run_pure]
      congr 1
      apply Array.ext'
      rw [Array.toList_map, ByteArray.extract_mk s.data.toList 0 n |> (fun e : s.extract 0 n = _ => congrArg (fun b : ByteArray => b.data.toList) e)]
      simp
    · rw [e] at e'; obtain rfl : v = v' := by simpa using e'
      have := List.mem_of_getElem? e
      simp only [List.mem_map] at this
      obtain ⟨b, _, rfl⟩ := this
      exact .int _ _
  case nilSlice =>
    simp only [Option.some.injEq] at he; subst he
    exact ⟨[], LR.nil m, fun w2 _ => by simp [Builtin.firstCells]⟩
  case empty A c =>
    simp only [Option.some.injEq] at he; subst he
    simp only [lenV, Option.some.injEq] at hk; subst hk
    obtain rfl : n = 0 := by omega
    refine ⟨[], LR.nil m, fun w2 _ => ?_⟩
    cases A with
    | none => simp [Builtin.firstCells]
    | some A => simp [Builtin.firstCells, loadCells, loadCellsFrom]
  case slice id o b s z es0 n0 c' hm hn hc =>
    replace he := Option.bind_eq_some_iff.mp he
    obtain ⟨row, h1, he⟩ := he
    cases row with
    | map _ => simp at he
    | cells q c =>
      obtain ⟨l', b1, a2, b3⟩ := hW.list h1 hm he
      refine ⟨l', a2, fun w2 hw2 => ?_⟩
      have := run_loadCells_list (P := P) w2 ⟨b, s + o, none⟩ l' (fun j v e => by
        rw [addr_add]; have := b3 j v e
        simpa [World.cell?, hw2] using this)
      rw [b1] at this
      exact this
end Go.Proofs.YtldbkigenaakkaaGreatDoorExe
namespace Go.Proofs.YtldbkigenaakkaaGreatDoorExe
open Go Go.RowKit
set_option linter.unusedVariables false
set_option linter.unusedSimpArgs false
set_option linter.unusedSectionVars false
variable {P : Program} {h : H} {m : Em} {lo : Nat} {w : World} {r : Operand → Option Value} {ev : Operand → Value}
theorem strSl_eq {u : TypeId} (hu : strSl P u = true) : P.underlying u = some .string ∨ ∃ e, P.underlying u = some (.slice e) := by
  unfold strSl at hu
  split at hu
  · rename_i q; exact .inl q
  · rename_i e q; exact .inr ⟨e, q⟩
  · cases hu
/-- An append that finds room. -/
theorem append_room {ts : Array TypeId} {ty t u e : TypeId} {i : TypeInfo} {args : Array Value} {a : Addr} {sLen sCap n : Nat} {x' : Value} {news : Array Value} {w' : World} (ht : P.underlying t = some (.slice e)) (hu : strSl P u = true)
    (hi : P.info? e = some i) (h0 : ts[0]? = some t) (h1 : ts[1]? = some u) (a0 : args[0]? = some (.slice (some a) sLen sCap)) (a1 : args[1]? = some x') (hn : ∀ w2 : World, (Builtin.lenOf x').run P w2 = .ok n w2)
    (hnew : (Builtin.firstCells i.size n x').run P w = .ok news w) (hroom : sLen + n ≤ sCap) (hst : (storeCells (a.add (sLen * i.size)) news.toList).run P w = .ok () w') :
    (Builtin.append_ ts ty args).run P w = .ok (.slice (some a) (sLen + n) sCap) w' := by
  rcases strSl_eq hu with hu | ⟨_, hu⟩ <;>
    simp [Builtin.append_, h0, h1, a0, a1, run_underlying ht, run_underlying hu, sizeOf, typeInfo, hi, hn, hroom, hnew, hst]
/-- An append of nothing. -/
theorem append_zero {ts : Array TypeId} {ty t u e : TypeId} {i : TypeInfo} {args : Array Value} {base : Option Addr} {sLen sCap : Nat} {x' : Value} (ht : P.underlying t = some (.slice e)) (hu : strSl P u = true)
    (hi : P.info? e = some i) (h0 : ts[0]? = some t) (h1 : ts[1]? = some u) (a0 : args[0]? = some (.slice base sLen sCap)) (a1 : args[1]? = some x') (hn : ∀ w2 : World, (Builtin.lenOf x').run P w2 = .ok 0 w2)
    (hnew : (Builtin.firstCells i.size 0 x').run P w = .ok #[] w) (hroom : sLen ≤ sCap) :
    (Builtin.append_ ts ty args).run P w = .ok (.slice base sLen sCap) w := by
  cases base <;> rcases strSl_eq hu with hu | ⟨_, hu⟩ <;>
    simp [Builtin.append_, h0, h1, a0, a1, run_underlying ht, run_underlying hu, sizeOf, typeInfo, hi, hn, hroom, hnew, storeCells]
/-- An append that moves the list. -/
theorem append_grow {ts : Array TypeId} {ty t u e : TypeId} {i : TypeInfo} {z : Value} {args : Array Value} {base : Option Addr} {sLen sCap n : Nat} {x' : Value} {olds news : Array Value} (ht : P.underlying t = some (.slice e)) (hu : strSl P u = true)
    (hi : P.info? e = some i) (hz : i.zero = some z) (h0 : ts[0]? = some t) (h1 : ts[1]? = some u) (a0 : args[0]? = some (.slice base sLen sCap)) (a1 : args[1]? = some x') (hn : ∀ w2 : World, (Builtin.lenOf x').run P w2 = .ok n w2)
    (hold : (Builtin.firstCells i.size sLen (.slice base sLen sCap)).run P w.drew = .ok olds w.drew) (hnew : (Builtin.firstCells i.size n x').run P w.drew = .ok news w.drew)
    (hg : sCap < sLen + n) (h63 : ((sLen + n : Nat) : Int) ≤ 9223372036854775807) (hfit : Builtin.nextslicecap (sLen + n) sCap * i.bytes ≤ 281474976710656) :
    (Builtin.append_ ts ty args).run P w = .ok (.slice (some ⟨w.heap.size, 0, none⟩) (sLen + n) (grownCap w (sLen + n) sCap e))
      (w.drew.alloc (.cells (olds ++ news ++ Builtin.zeroCells z.cells (grownCap w (sLen + n) sCap e - (sLen + n))) e)) := by
  have hn' : ¬ (sLen + n ≤ sCap) := by omega
  have h63' : ¬ (9223372036854775807 < ((sLen : Int) + (n : Int))) := by omega
  have h48' : ¬ (281474976710656 < Builtin.nextslicecap (sLen + n) sCap * i.bytes) := by omega
  rcases strSl_eq hu with hu | ⟨_, hu⟩ <;>
    simp [Builtin.append_, h0, h1, a0, a1, run_underlying ht, run_underlying hu, sizeOf, typeInfo, zeroValue, hi, hz, hn, hn', h63', h48', Question.forced, hold, hnew, newRow, grownCap]
theorem first_zero {x x' : Value} {es n : Nat} (hx : VR m x x') (hk : lenV x = some n) : (Builtin.firstCells es 0 x').run P w = .ok #[] w := by
  cases hx <;> (try (simp only [lenV, reduceCtorEq] at hk; done))
  case string s => simp [Builtin.firstCells]
  case nilSlice => simp [Builtin.firstCells]
  case empty A c => cases A <;> simp [Builtin.firstCells, loadCells, loadCellsFrom]
  case slice => simp [Builtin.firstCells, loadCells, loadCellsFrom]
theorem baseT_get {c d : T Value} {n o k : Nat} (hc : ∀ i v, c.get i = some v → i < n) (hd : baseT c n o k = some d) : ∀ i v, d.get i = some v → i < k ∧ c.get (o + i) = some v := by
  intro i v e
  unfold baseT at hd
  split at hd
  · rename_i hb
    simp only [Bool.and_eq_true] at hb
    obtain rfl : o = 0 := Nat.eq_of_beq_eq_true hb.1
    obtain rfl : n = k := Nat.eq_of_beq_eq_true hb.2
    obtain rfl : c = d := by simpa using hd
    exact ⟨hc i v e, by rwa [Nat.zero_add]⟩
  · obtain ⟨l, h1, hd⟩ := Option.bind_eq_some_iff.mp hd
    obtain rfl : storeL .l 0 l = d := by simpa using hd
    obtain ⟨h2, h3⟩ := loadL_get h1
    obtain ⟨h4, h5⟩ := storeL0_get e
    exact ⟨by omega, h3 i v h5⟩
/-- The cells of the world where a row lies. -/
theorem HR.raw (hW : HR h m lo w) {id n b s z o k : Nat} {c : T Value} (hr : h.rows.get id = some (.cells n c)) (hm : m id = some (b, s, z)) (hk : o + k ≤ n) :
    ∃ l' : List Value, l'.length = k ∧ (∀ (j : Nat) (v : Value), l'[j]? = some v → w.cell? ⟨b, s + (o + j), none⟩ = some v) ∧ ∀ j v, j < k → c.get (o + j) = some v → ∃ v', l'[j]? = some v' ∧ VR m v v' := by
  obtain ⟨h4, cs, el, fz, h2, h3, h5, h6⟩ := hW.cells hr hm
  have key : ∀ j, j < k → ((cs.toList.drop (s + o)).take k)[j]? = cs[s + (o + j)]? := fun j hj => by
    rw [List.getElem?_take, if_pos hj, List.getElem?_drop, Array.getElem?_toList]; congr 1; omega
  refine ⟨(cs.toList.drop (s + o)).take k, by simp; omega, fun j v e => ?_, fun j v hj e => ?_⟩
  · have hj : j < k := by have := (List.getElem?_eq_some_iff.mp e).1; simp at this; omega
    rw [key j hj] at e
    simp [World.cell?, h2, e]
  · obtain ⟨_, v', q1, q2⟩ := h6 _ _ e
    exact ⟨v', by rw [key j hj]; exact q1, q2⟩
theorem Fr.drew (h : H) (m : Em) (w : World) : Fr h m w h m w.drew :=
  ⟨rfl, rfl, rfl, Nat.le_refl _, fun _ _ _ => rfl, fun id r x e e' => .inl ⟨id, r, x, e, e', rfl⟩, fun _ _ => rfl, Nat.le_refl _⟩
theorem append_sound (hW : HR h m lo w) {t u ty : TypeId} {ts : Array TypeId} {args : Array Value} {s x s' x' v : Value} {h' : H} (hs : VR m s s') (hx : VR m x x') (h0 : ts[0]? = some t) (h1 : ts[1]? = some u)
    (a0 : args[0]? = some s') (a1 : args[1]? = some x') (he : appendE P h t u s x = some (v, h')) : Ok P lo h m (Builtin.append_ ts ty args) w v h' := by
  unfold appendE at he
  replace he := Option.bind_eq_some_iff.mp he
  obtain ⟨e, e1, he⟩ := he
  replace he := Option.bind_eq_some_iff.mp he
  obtain ⟨es, e2, he⟩ := he
  replace he := Option.bind_eq_some_iff.mp he
  obtain ⟨by_, e3, he⟩ := he
  replace he := Option.bind_eq_some_iff.mp he
  obtain ⟨z, e4, he⟩ := he
  replace he := Option.bind_eq_some_iff.mp he
  obtain ⟨n, e5, he⟩ := he
  obtain ⟨i, q1, q2, q3⟩ := zeroT_info e4
  have hsz : i.size = es := by unfold szT at e2; rw [q1] at e2; simpa using e2
  have hby : i.bytes = by_ := by unfold bytesT at e3; rw [q1] at e3; simpa using e3
  have hn := lenV_run (P := P) hx e5
  split at he
  · rename_i hc
    simp only [Bool.and_eq_true] at hc
    obtain ⟨⟨⟨⟨hu, c2⟩, c3⟩, c4⟩, c5⟩ := hc
    have c2 : 0 < es := by simpa [Nat.blt_eq] using c2
    have c3 : by_ ≤ 1000000 := Nat.le_of_ble_eq_true c3
    have c4 : n ≤ 1000000 := Nat.le_of_ble_eq_true c4
    have c5 : (cellsL z).length = es := Nat.eq_of_beq_eq_true c5
    have hzs : z.cells.size = es := by rw [← c5]; simp [cellsL]
    split at he
    · rename_i hn0
      obtain rfl : n = 0 := Nat.eq_of_beq_eq_true hn0
      have hf := first_zero (P := P) (w := w) (es := i.size) hx e5
      cases hs <;> simp only [reduceCtorEq] at he
      case nilSlice =>
        simp only [Option.some.injEq, Prod.mk.injEq] at he; obtain ⟨rfl, rfl⟩ := he
        exact .same hW (append_zero (elemT_eq e1) hu q1 h0 h1 a0 a1 hn hf (Nat.le_refl _)) .nilSlice
      case empty =>
        simp only [Option.some.injEq, Prod.mk.injEq] at he; obtain ⟨rfl, rfl⟩ := he
        exact .same hW (append_zero (elemT_eq e1) hu q1 h0 h1 a0 a1 hn hf (Nat.zero_le _)) .empty
      case slice hm hnc hcap =>
        simp only [Option.some.injEq, Prod.mk.injEq] at he; obtain ⟨rfl, rfl⟩ := he
        exact .same hW (append_zero (elemT_eq e1) hu q1 h0 h1 a0 a1 hn hf hnc) (.slice hm hnc hcap)
    · rename_i hn0
      have hn0 : 0 < n := by
        rcases Nat.eq_zero_or_pos n with g | g
        · subst g; exact absurd rfl hn0
        · exact g
      replace he := Option.bind_eq_some_iff.mp he
      obtain ⟨l, f1, he⟩ := he
      obtain ⟨l', f2, f3⟩ := first_sound (P := P) hW hx e5 (Nat.le_refl _) f1
      split at he
      · rename_i hl
        simp only [Bool.and_eq_true] at hl
        have l1 : l.length = n * es := Nat.eq_of_beq_eq_true hl.1
        have l2 : l'.length = n * es := by rw [← f2.1]; exact l1
        cases hs <;> simp only [reduceCtorEq] at he
        case nilSlice =>
          -- onto nil
          unfold H.new_ at he; rw [fN_eq] at he
          simp only [Option.some.injEq, Prod.mk.injEq] at he; obtain ⟨rfl, rfl⟩ := he
          have hrun := append_grow (w := w) (ty := ty) (olds := #[]) (news := ⟨l'⟩) (elemT_eq e1) hu q1 q2 h0 h1 a0 a1 hn (by simp [Builtin.firstCells]) (by rw [hsz]; exact f3 w.drew rfl) (by omega) (by omega)
            (growslice_fits (by omega) (by have : (0 + n) * i.bytes ≤ 1000000 * 1000000 := Nat.mul_le_mul (by omega) (by omega); omega))
          have hge := grownCap_ge w (0 + n) 0 e
          generalize hq : grownCap w (0 + n) 0 e = cap at hrun hge
          obtain ⟨cs, hcs⟩ : ∃ cs : Array Value, cs = #[] ++ (⟨l'⟩ : Array Value) ++ Builtin.zeroCells z.cells (cap - (0 + n)) := ⟨_, rfl⟩
          rw [← hcs] at hrun
          have hsize : cs.size = cap * es := by
            have e0 : cs.size = l'.length + (cap - (0 + n)) * es := by rw [hcs]; simp [size_zeroCells, hzs]
            have : (cap - (0 + n)) * es + n * es = cap * es := by rw [← Nat.add_mul]; congr 1; omega
            omega
          have hmul : n * es ≤ cap * es := Nat.mul_le_mul_right _ (by omega)
          obtain ⟨m', k1, k2, k3, k4⟩ := (hW.heap (show w.drew.heap = w.heap from rfl)).new (r := .cells (n * es) (storeL .l 0 l)) (o := .cells cs e) (z := cs.size) (fun m' hm' => by
            have := RR.list (m := m') (b := w.drew.heap.size) (el := e) (fz := (0, 0)) (l := l) (cs := cs) rfl (by omega) (by intro i _ hi; simp at hi) (fun j y hj => by
              obtain ⟨y', p1, p2⟩ := f2.get hj
              refine ⟨y', ?_, p2.mono hm'⟩
              have hjl : j < l'.length := (List.getElem?_eq_some_iff.mp p1).1
              rw [hcs, Array.getElem?_append_left (by simpa using hjl)]
              simpa using p1)
            rw [l1] at this; exact this)
          rw [show (0 + n) = n by omega] at hrun
          exact ⟨m', _, _, k1, hrun, .slice (b := w.heap.size) (s := 0) (o := 0) (z := cs.size) k2 (by omega) (by rw [hsize]; omega), k3, (Fr.drew h m w).trans k4⟩
        case slice id o b sh zz es' k c' hm hkc hcap =>
          -- onto a list
          split at he
          · rename_i hes
            simp only [Bool.and_eq_true] at hes
            obtain rfl : es = es' := Nat.eq_of_beq_eq_true hes.1
            have hk6 : k ≤ 1000000 := Nat.le_of_ble_eq_true hes.2
            replace he := Option.bind_eq_some_iff.mp he
            obtain ⟨row, r1, he⟩ := he
            cases row with
            | map _ => simp at he
            | cells mm c =>
              simp only at he
              split at he
              · rename_i hom
                have hom : o + k * es ≤ mm := Nat.le_of_ble_eq_true hom
                replace he := Option.bind_eq_some_iff.mp he
                obtain ⟨cb, b1, he⟩ := he
                rw [fN_eq, fN_eq] at he
                simp only [Option.some.injEq, Prod.mk.injEq] at he; obtain ⟨rfl, rfl⟩ := he
                obtain ⟨r4, cs0, el0, fz0, r2, r3, r5, r6⟩ := hW.cells r1 hm
                have hcb : ∀ (i : Nat) (v : Value), cb.get i = some v → i < k * es ∧ c.get (o + i) = some v := baseT_get (fun i v e => (r6 i v e).1) b1
                have hq : Nat.add k n = k + n := rfl
                have hmulE : (k + n) * es = k * es + n * es := Nat.add_mul _ _ _
                by_cases hroom : k + n ≤ c'
                · -- in place
                  have hmul2 : (k + n) * es ≤ c' * es := Nat.mul_le_mul_right _ hroom
                  have hN : sh + max mm (o + c' * es) ≤ zz := by omega
                  obtain ⟨hw1, fw1⟩ : HR (h.put id (.cells (max mm (o + c' * es)) c)) m lo w ∧ Fr h m w (h.put id (.cells (max mm (o + c' * es)) c)) m w := hW.upd r1 hm ⟨rfl, rfl, rfl⟩ rfl (fun _ _ => rfl) ⟨hN, cs0, el0, fz0, r2, r3, r5, fun i v e => by
                    obtain ⟨p1, p2⟩ := r6 i v e; exact ⟨by omega, p2⟩⟩
                  obtain ⟨w', p1, p2, p3⟩ := store_list (P := P) b sh zz id (max mm (o + c' * es)) lo m hm (hW.blocks _ _ hm).1 l l' _ c w (o + k * es) 0 hw1 (T.get_set_same _ _ _) f2 (by omega) hl.2
                  have hrun := append_room (w := w) (ty := ty) (a := ⟨b, sh + o, none⟩) (news := ⟨l'⟩) (elemT_eq e1) hu q1 h0 h1 a0 a1 hn (by rw [hsz]; exact f3 w rfl) hroom (by rw [hsz, addr_add]; exact p1)
                  obtain ⟨m', k1, k2, k3, k4⟩ := p2.move (id := id) (n := max mm (o + c' * es)) (b := b) (s := sh) (z := zz) (o := o) (n' := (k + n) * es) (c := storeL c (o + k * es + 0) l) (c' := storeL cb (k * es) l) (T.get_set_same _ _ _) hm (by omega)
                    (fun i v e => by
                      rw [storeL_get] at e
                      split at e
                      · rename_i hr
                        refine ⟨by omega, ?_⟩
                        rw [storeL_get, if_pos (by omega), ← e]; congr 1; omega
                      · obtain ⟨d1, d2⟩ := hcb i v e
                        refine ⟨by omega, ?_⟩
                        rw [storeL_get, if_neg (by omega)]; exact d2)
                  refine ⟨m', _, w', k1, hrun, .slice (b := b) (s := sh + o) (o := 0) (z := zz) k2 hroom (by omega), k3.congr fun j => ?_, ((fw1.trans p3).trans k4).congr fun j rr q => ?_⟩
                  · simp only [H.put, T.get_set, hq]
                    by_cases g1 : j = h.next
                    · simp [g1]
                    · by_cases g2 : j = id
                      · simp [g1, g2]
                      · simp [g1, g2]
                  · simp only [H.put, T.get_set, hq] at q ⊢
                    by_cases g1 : j = h.next
                    · simp [g1] at q ⊢; exact q
                    · by_cases g2 : j = id
                      · simp [g1, g2] at q ⊢
                        first | exact q | exact absurd q (by simp_all) | simp_all
                      · simp [g1, g2] at q ⊢; exact q
                · -- moved
                  obtain ⟨ol, o1, o2, o3⟩ := hW.raw r1 hm hom
                  have hload := run_loadCells_list (P := P) w.drew ⟨b, sh + o, none⟩ ol (fun j v e => by rw [addr_add]; exact o2 j v e)
                  rw [o1] at hload
                  have hrun := append_grow (w := w) (ty := ty) (olds := ⟨ol⟩) (news := ⟨l'⟩) (elemT_eq e1) hu q1 q2 h0 h1 a0 a1 hn (by rw [hsz]; exact hload) (by rw [hsz]; exact f3 w.drew rfl) (by omega) (by omega)
                    (growslice_fits (by omega) (by have : (k + n) * i.bytes ≤ 2000000 * 1000000 := Nat.mul_le_mul (by omega) (by omega); omega))
                  have hge := grownCap_ge w (k + n) c' e
                  generalize hq2 : grownCap w (k + n) c' e = cap at hrun hge
                  obtain ⟨cs, hcs⟩ : ∃ cs : Array Value, cs = (⟨ol⟩ : Array Value) ++ (⟨l'⟩ : Array Value) ++ Builtin.zeroCells z.cells (cap - (k + n)) := ⟨_, rfl⟩
                  rw [← hcs] at hrun
                  have hsize : cs.size = cap * es := by
                    rw [hcs]; simp only [Array.size_append, size_zeroCells, hzs, List.size_toArray]
                    have : (cap - (k + n)) * es + (k + n) * es = cap * es := by rw [← Nat.add_mul]; congr 1; omega
                    omega
                  have hmul : (k + n) * es ≤ cap * es := Nat.mul_le_mul_right _ hge
                  obtain ⟨m', k1, k2, k3, k4⟩ := (hW.heap (show w.drew.heap = w.heap from rfl)).new (r := .cells ((k + n) * es) (storeL cb (k * es) l)) (o := .cells cs e) (z := cs.size) (fun m' hm' =>
                    ⟨by show 0 + (k + n) * es ≤ cs.size; omega, cs, e, (0, 0), rfl, rfl, by intro i _ hi; simp at hi, fun i v e => by
                      rw [storeL_get] at e
                      show i < (k + n) * es ∧ ∃ v', cs[0 + i]? = some v' ∧ _
                      rw [Nat.zero_add]
                      split at e
                      · rename_i hr
                        obtain ⟨v', d1, d2⟩ := f2.get e
                        refine ⟨by omega, v', ?_, d2.mono hm'⟩
                        rw [hcs, Array.getElem?_append_left (by simp; omega), Array.getElem?_append_right (by simp; omega)]
                        simp [o1, d1]
                      · obtain ⟨d1, d2⟩ := hcb i v e
                        obtain ⟨v', d3, d4⟩ := o3 i v d1 d2
                        refine ⟨by omega, v', ?_, d4.mono hm'⟩
                        rw [hcs, Array.getElem?_append_left (by simp; omega), Array.getElem?_append_left (by simp; omega)]
                        simp [d3]⟩)
                  have less : ∀ (j : Nat) (rr : Row), ((h.rows.set id none).set h.next (some (.cells ((k + n) * es) (storeL cb (k * es) l)))).get j = some rr → (h.rows.set h.next (some (.cells ((k + n) * es) (storeL cb (k * es) l)))).get j = some rr := fun j rr e => by
                    simp only [T.get_set] at e ⊢
                    by_cases g1 : j = h.next
                    · simp only [g1, if_true] at e ⊢; exact e
                    · by_cases g2 : j = id
                      · subst g2; simp [g1] at e
                      · simpa [g1, g2] using e
                  refine ⟨m', _, _, k1, hrun, .slice (b := w.heap.size) (s := 0) (o := 0) (z := cs.size) k2 hge (by rw [hsize]; omega), k3.less fun j rr e => less j rr e, ((Fr.drew h m w).trans k4).congr fun j rr e => less j rr e⟩
              · cases he
          · cases he
      · cases he
  · cases he
theorem copy_sound (hW : HR h m lo w) {t ty : TypeId} {ts : Array TypeId} {args : Array Value} {s x s' x' v : Value} {h' : H} (hs : VR m s s') (hx : VR m x x') (h0 : ts[0]? = some t)
    (a0 : args[0]? = some s') (a1 : args[1]? = some x') (he : copyE P h t s x = some (v, h')) : Ok P lo h m (Builtin.copy_ ts ty args) w v h' := by
  unfold copyE at he
  replace he := Option.bind_eq_some_iff.mp he
  obtain ⟨e, e1, he⟩ := he
  replace he := Option.bind_eq_some_iff.mp he
  obtain ⟨es, e2, he⟩ := he
  replace he := Option.bind_eq_some_iff.mp he
  obtain ⟨n, e5, he⟩ := he
  have hn := lenV_run (P := P) hx e5 w
  cases hs <;> simp only [reduceCtorEq] at he
  case slice id o b sh zz es' k c' hm hkc hcap =>
    rw [fN_eq] at he
    replace he := Option.bind_eq_some_iff.mp he
    obtain ⟨l, f1, he⟩ := he
    replace he := Option.bind_eq_some_iff.mp he
    obtain ⟨row, r1, he⟩ := he
    cases row with
    | map _ => simp at he
    | cells mm c =>
      simp only at he
      split at he
      · rename_i hc
        simp only [Bool.and_eq_true] at hc
        obtain ⟨⟨c1, c2⟩, c3⟩ := hc
        have c1 : l.length = Nat.min n k * es := Nat.eq_of_beq_eq_true c1
        have c2 : o + Nat.min n k * es ≤ mm := Nat.le_of_ble_eq_true c2
        simp only [Option.some.injEq, Prod.mk.injEq] at he; obtain ⟨rfl, rfl⟩ := he
        obtain ⟨l', f2, f3⟩ := first_sound (P := P) hW hx e5 (Nat.min_le_left n k) f1
        obtain ⟨w', p1, p2, p3⟩ := store_list (P := P) b sh zz id mm lo m hm (hW.blocks _ _ hm).1 l l' _ c w o 0 hW r1 f2 (by omega) c3
        refine ⟨m, .int .i64 (Nat.min n k : Nat), w', Em.le_refl m, ?_, .int _ _, p2, p3⟩
        have hs := szT_run (w := w) e2
        simp only [Builtin.copy_, h0, a0, a1, Sem.run_bind, run_underlying (elemT_eq e1), Result.andThen_ok, hn, hs, f3 w rfl, p1, Sem.run_pure, goInt]
      · cases he
end Go.Proofs.YtldbkigenaakkaaGreatDoorExe
namespace Go.Proofs.YtldbkigenaakkaaGreatDoorExe
open Go Go.RowKit
set_option linter.unusedVariables false
set_option linter.unusedSimpArgs false
set_option linter.unusedSectionVars false
variable {P : Program} {h : H} {m : Em} {lo : Nat} {w : World} {r : Operand → Option Value} {ev : Operand → Value}
/-! ### records -/
theorem sets_list (off : Nat) : ∀ (L : List Value) (k : Nat) (C : Array Value), off + k + L.length ≤ C.size →
    ((L.zipIdx k).foldl (fun cs (p : Value × Nat) => cs.setIfInBounds (off + p.2) p.1) C).toList = C.toList.take (off + k) ++ (L ++ C.toList.drop (off + k + L.length))
  | [], k, C, _ => by simp
  | c :: L, k, C, hC => by
    simp only [List.length_cons] at hC
    have ih := sets_list off L (k + 1) (C.setIfInBounds (off + k) c) (by simp only [Array.size_setIfInBounds]; omega)
    simp only [List.zipIdx_cons, List.foldl_cons]
    rw [ih, Array.toList_setIfInBounds]
    apply List.ext_getElem?
    intro i
    have hlen : C.toList.length = C.size := by simp
    simp only [List.length_cons, List.getElem?_append, List.length_take, List.length_set, List.getElem?_take, List.getElem?_drop, List.getElem?_set, hlen]
    have e1 : min (off + (k + 1)) C.size = off + k + 1 := by omega
    have e2 : min (off + k) C.size = off + k := by omega
    rw [e1, e2]
    by_cases g1 : i < off + k
    · rw [if_pos (by omega), if_pos (by omega), if_neg (by omega), if_pos g1, if_pos g1]
    · by_cases g2 : i = off + k
      · subst g2
        rw [if_pos (by omega), if_pos (by omega), if_pos rfl, if_pos (by omega), if_neg (by omega), if_pos (by omega)]
        simp
      · rw [if_neg (by omega), if_neg g1]
        obtain ⟨j, rfl⟩ : ∃ j, i = off + k + 1 + j := ⟨i - (off + k + 1), by omega⟩
        by_cases g3 : j < L.length
        · rw [if_pos (by omega), if_pos (by omega), show off + k + 1 + j - (off + k) = j + 1 by omega, List.getElem?_cons_succ]
          congr 1; omega
        · rw [if_neg (by omega), if_neg (by omega), if_neg (by omega)]
          congr 1; omega
theorem sets_cells (off : Nat) (v : Value) (C : Array Value) (hC : off + v.cells.size ≤ C.size) :
    (v.cells.zipIdx.foldl (fun cs (x : Value × Nat) => match x with | (c, j) => cs.setIfInBounds (off + j) c) C).toList = C.toList.take off ++ (cellsL v ++ C.toList.drop (off + v.cells.size)) := by
  have := sets_list off (cellsL v) 0 C (by simpa [cellsL] using hC)
  rw [← Array.foldl_toList, Array.toList_zipIdx]
  simpa [cellsL] using this
theorem fill_sound (hR : Reads m r ev) {place place' : Nat → Option (Nat × Nat)} (hp : ∀ i p, place i = some p → place' i = some p) :
    ∀ (ps : List (Nat × Operand)) (l : List (Nat × Value)) (Z Z' : List Value) (C : Array Value), mapP r ps = some l → fillL place Z l = some Z' → LR m Z C.toList →
      ∃ C' : Array Value, Instr.fill place' C (ps.map fun (i, x) => (i, ev x)) = some C' ∧ LR m Z' C'.toList
  | [], l, Z, Z', C, hl, hf, hZ => by
    simp only [mapP, Option.some.injEq] at hl; subst hl
    simp only [fillL, Option.some.injEq] at hf; subst hf
    exact ⟨C, by simp [Instr.fill], hZ⟩
  | (i, x) :: ps, l, Z, Z', C, hl, hf, hZ => by
    simp only [mapP] at hl
    replace hl := Option.bind_eq_some_iff.mp hl
    obtain ⟨v, h1, hl⟩ := hl
    replace hl := Option.bind_eq_some_iff.mp hl
    obtain ⟨l1, h2, hl⟩ := hl
    simp only [Option.some.injEq] at hl; subst hl
    simp only [fillL] at hf
    replace hf := Option.bind_eq_some_iff.mp hf
    obtain ⟨p, h3, hf⟩ := hf
    split at hf
    · rename_i hc
      simp only [Bool.and_eq_true] at hc
      have c1 : (cellsL v).length = p.2 := Nat.eq_of_beq_eq_true hc.1
      have c2 : p.1 + p.2 ≤ Z.length := Nat.le_of_ble_eq_true hc.2
      have hv := (hR x v h1).cells
      have hs : (ev x).cells.size = p.2 := by rw [← c1, hv.1]; simp [cellsL]
      have hC : p.1 + (ev x).cells.size ≤ C.size := by rw [hs]; have := hZ.1; simp at this; omega
      obtain ⟨C', k1, k2⟩ := fill_sound hR hp ps l1 _ Z' ((ev x).cells.zipIdx.foldl (fun cs (x : Value × Nat) => match x with | (c, j) => cs.setIfInBounds (p.1 + j) c) C) h2 hf (by
        rw [sets_cells p.1 (ev x) C hC, hs]
        exact (hZ.take _).append (hv.append (hZ.drop _)))
      refine ⟨C', ?_, k2⟩
      simp only [List.map_cons, Instr.fill, hp i p h3]
      rw [if_neg (by simp [hs]; have := hC; rw [hs] at this; omega)]
      exact k1
    · cases hf
theorem mapM_some {α β : Type} (f : α → Option β) : ∀ (l : List α), (∀ x ∈ l, (f x).isSome = true) → ∃ ys : List β, l.mapM f = some ys ∧ ∀ i : Nat, ys[i]? = (l[i]?).bind f
  | [], _ => ⟨[], rfl, fun i => by simp⟩
  | x :: l, hx => by
    obtain ⟨y, hy⟩ := Option.isSome_iff_exists.mp (hx x (by simp))
    obtain ⟨ys, h1, h2⟩ := mapM_some f l (fun z hz => hx z (by simp [hz]))
    refine ⟨y :: ys, by simp [List.mapM_cons, hy, h1], fun i => ?_⟩
    cases i with
    | zero => simp [hy]
    | succ i => simpa using h2 i
theorem build_sound (hW : HR h m lo w) (hR : Reads m r ev) {t : TypeId} {ps : Array (Nat × Operand)} {v : Value} {h' : H}
    (he : buildE P r h (.build t ps) = some (v, h')) : Ok P lo h m (Instr.build t (ps.map fun (i, x) => (i, ev x))) w v h' := by
  simp only [buildE, recE] at he
  replace he := Option.bind_eq_some_iff.mp he
  obtain ⟨z, h1, he⟩ := he
  replace he := Option.bind_eq_some_iff.mp he
  obtain ⟨l, h2, he⟩ := he
  obtain ⟨i, q1, q2, q3⟩ := zeroT_info h1
  have hz : LR m (cellsL z) z.cells.toList := (q3 m).cells
  split at he
  · rename_i fs hu
    split at he
    · rename_i hs
      replace he := Option.bind_eq_some_iff.mp he
      obtain ⟨Z', h3, he⟩ := he
      simp only [Option.some.injEq, Prod.mk.injEq] at he; obtain ⟨rfl, rfl⟩ := he
      obtain ⟨ys, y1, y2⟩ := mapM_some (fun f : Field => (P.info? f.type).map fun i => (f.offset, i.size)) fs.toList (fun x hx => by
        have := List.all_eq_true.mp hs x hx
        simpa [szT] using this)
      obtain ⟨C', k1, k2⟩ := fill_sound hR (place' := (ys.toArray[·]?)) (fun i p e => by
        unfold placeF at e
        replace e := Option.bind_eq_some_iff.mp e
        obtain ⟨g, e1, e⟩ := e
        replace e := Option.bind_eq_some_iff.mp e
        obtain ⟨n, e2, e⟩ := e
        simp only [Option.some.injEq] at e; subst e
        have := y2 i
        simp only [Array.getElem?_toList, e1, Option.bind_some] at this
        unfold szT at e2
        obtain ⟨ti, e3, e4⟩ := Option.map_eq_some_iff.mp e2
        simp [this, e3, e4]) ps.toList l _ Z' z.cells h2 h3 hz
      refine .same hW (v' := .agg C') (run_build w t _ C' ?_) (.agg (by simpa using k2.1) (fun j x x' e e' => k2.2 j x x' (by simpa using e) (by simpa using e')))
      simp only [Program.built, q1, hu, q2, y1, Array.toList_map]
      exact k1
    · cases he
  · rename_i nn e hu
    replace he := Option.bind_eq_some_iff.mp he
    obtain ⟨es, h3, he⟩ := he
    replace he := Option.bind_eq_some_iff.mp he
    obtain ⟨Z', h4, he⟩ := he
    simp only [Option.some.injEq, Prod.mk.injEq] at he; obtain ⟨rfl, rfl⟩ := he
    unfold szT at h3
    obtain ⟨ie, e3, e4⟩ := Option.map_eq_some_iff.mp h3
    obtain ⟨C', k1, k2⟩ := fill_sound hR (place' := fun i => some (i * ie.size, ie.size)) (fun i p e => by rw [e4]; exact e) ps.toList l _ Z' z.cells h2 h4 hz
    refine .same hW (v' := .agg C') (run_build w t _ C' ?_) (.agg (by simpa using k2.1) (fun j x x' e e' => k2.2 j x x' (by simpa using e) (by simpa using e')))
    simp only [Program.built, q1, hu, q2, e3, Array.toList_map]
    exact k1
  · cases he
theorem fresh_buildSlice {id : Nat} (hR : Reads m r ev) {t : TypeId} {n : Nat} {ps : Array (Nat × Operand)} {v : Value} {row : Row}
    (he : freshE P r id (.buildSlice t n ps) = some (v, row)) : FreshOk P m id (Instr.buildSlice t n (ps.map fun (i, x) => (i, ev x))) w v row := by
  simp only [freshE, makeSliceE, buildSliceE] at he
  replace he := Option.bind_eq_some_iff.mp he
  obtain ⟨e, h1, he⟩ := he
  replace he := Option.bind_eq_some_iff.mp he
  obtain ⟨es, h2, he⟩ := he
  replace he := Option.bind_eq_some_iff.mp he
  obtain ⟨z, h3, he⟩ := he
  replace he := Option.bind_eq_some_iff.mp he
  obtain ⟨l, h4, he⟩ := he
  split at he
  · rename_i hc
    simp only [Bool.and_eq_true] at hc
    obtain ⟨⟨c1, c2⟩, c3⟩ := hc
    have c1 : 0 < es := by simpa [Nat.blt_eq] using c1
    have c2 : (cellsL z).length = es := Nat.eq_of_beq_eq_true c2
    have c3 : n * es ≤ 1000000 := Nat.le_of_ble_eq_true c3
    replace he := Option.bind_eq_some_iff.mp he
    obtain ⟨Z', h5, he⟩ := he
    obtain ⟨i, q1, q2, q3⟩ := zeroT_info h3
    have hsz : i.size = es := by unfold szT at h2; rw [q1] at h2; simpa using h2
    have hlen : (reL (cellsL z) n).length = n * es := by rw [reL_length, c2]
    obtain ⟨Zr, hZr⟩ : ∃ Zr : Array Value, Zr = if n * es = 0 then #[] else z.cells := ⟨_, rfl⟩
    have hmade : LR m (reL (cellsL z) n) (madeCells Zr (n * es)).toList := by
      refine ⟨by rw [hlen]; simp [size_madeCells], fun j x x' e e' => ?_⟩
      have hj : j < n * es := by rw [← hlen]; exact (List.getElem?_eq_some_iff.mp e).1
      rw [hZr, if_neg (by omega)] at e'
      have e2 := made_get (by omega) (by rw [c2]) e
      have e' : (madeCells z.cells (n * es))[j]? = some x' := by simpa using e'
      rw [e2] at e'; obtain rfl : x = x' := by simpa using e'
      have := reL_get (cellsL z) n j x e
      exact (q3 m).cells.2 _ _ _ this this
    obtain ⟨C', k1, k2⟩ := fill_sound hR (place' := fun i => some (i * es, es)) (fun i p e => e) ps.toList l _ Z' _ h4 h5 hmade
    have hCs : C'.size = Z'.length := by have := k2.1; simp at this; omega
    simp only [Option.some.injEq, Prod.mk.injEq] at he; obtain ⟨rfl, rfl⟩ := he
    have hfl : ∀ (l : List (Nat × Value)) (Z Z' : List Value), fillL (fun i => some (Nat.mul i es, es)) Z l = some Z' → Z'.length = Z.length := by
      intro l
      induction l with
      | nil => intro Z Z' e; simp only [fillL, Option.some.injEq] at e; rw [e]
      | cons p l ih =>
        intro Z Z' e
        obtain ⟨pi, pv⟩ := p
        simp only [fillL, Option.bind_some] at e
        split at e
        · rename_i hc
          simp only [Bool.and_eq_true] at hc
          have d1 : (cellsL pv).length = es := Nat.eq_of_beq_eq_true hc.1
          have d2 : pi * es + es ≤ Z.length := Nat.le_of_ble_eq_true hc.2
          rw [ih _ _ e]
          simp only [List.length_append, List.length_take, List.length_drop, d1]
          show min (pi * es) Z.length + (es + (Z.length - (pi * es + es))) = Z.length
          omega
        · cases e
    have hZ' : Z'.length = n * es := by rw [hfl _ _ _ h5, hlen]
    refine ⟨.cells C' e, n * es, fun m' hm' => ?_, fun m' _ hid => ⟨.slice (some ⟨w.heap.size, 0 + 0, none⟩) n n, ?_, .slice hid (Nat.le_refl _) (by omega)⟩⟩
    · have := RR.list (m := m') (b := w.heap.size) (el := e) (fz := (0, 0)) (l := Z') (cs := C') (by omega : C'.size = n * es) (by omega) (by intro i _ hi; simp at hi) (fun j x hj => by
        obtain ⟨y, d1, d2⟩ := k2.get hj
        exact ⟨y, by simpa using d1, d2.mono hm'⟩)
      rw [hZ'] at this; exact this
    have h24 : ¬ (16777216 < n * es) := by omega
    have k1' : Instr.fill (fun i => some (i * es, es)) (madeCells Zr (n * es)) (ps.map fun x => (x.1, ev x.2)).toList = some C' := by rw [Array.toList_map]; exact k1
    have hpow : (2 : Nat) ^ 24 = 16777216 := by decide
    simp only [madeCells] at k1'
    simp only [Instr.buildSlice, Sem.run_bind, run_underlying (elemT_eq h1), Result.andThen_ok, szT_run h2, gt_iff_lt, hpow, if_neg h24]
    by_cases g0 : n * es = 0
    · rw [if_pos g0] at hZr ⊢
      subst hZr
      simp only [Sem.run_bind, Sem.run_pure, Result.andThen_ok]
      rw [k1']
      rfl
    · rw [if_neg g0] at hZr ⊢
      subst hZr
      have hz0 : (zeroValue e).run P w = .ok z w := by simp [zeroValue, typeInfo, q1, q2]
      simp only [Sem.run_bind, Sem.run_pure, Result.andThen_ok, hz0]
      rw [k1']
      rfl
  · cases he
/-! ### maps -/
/-- A kind of keys and a key of it. -/
def KeyOk (d : TypeDesc) (k : Value) : Prop := (d = .int .i64 ∧ ∃ n, k = .int .i64 n) ∨ (d = .string ∧ ∃ s, k = .string s)
theorem keyB_eq {t : TypeId} {k : Value} (hf : keyB P t k = true) : ∃ d, P.underlying t = some d ∧ KeyOk d k := by
  unfold keyB at hf
  split at hf
  · rename_i q
    refine ⟨_, q, .inl ⟨rfl, ?_⟩⟩
    split at hf
    · exact ⟨_, rfl⟩
    · cases hf
  · rename_i q
    refine ⟨_, q, .inr ⟨rfl, ?_⟩⟩
    split at hf
    · exact ⟨_, rfl⟩
    · cases hf
  · cases hf
theorem mapT_eq {t e : TypeId} {key : Value} (hf : mapT P t key = some e) : ∃ k d, P.underlying t = some (.map k e) ∧ P.underlying k = some d ∧ KeyOk d key := by
  unfold mapT at hf
  split at hf
  · rename_i k e' q
    split at hf
    · rename_i hk; obtain rfl : e' = e := by simpa using hf
      obtain ⟨d, d1, d2⟩ := keyB_eq hk
      exact ⟨k, d, q, d1, d2⟩
    · cases hf
  · cases hf
theorem KeyOk.same {d : TypeDesc} {k k' : Value} (hk : KeyOk d k) (hv : VR m k k') : k' = k := by
  rcases hk with ⟨_, n, rfl⟩ | ⟨_, s, rfl⟩ <;> cases hv <;> rfl
theorem checkKey_run {t : TypeId} {d : TypeDesc} {key : Value} (ht : P.underlying t = some d) (hk : KeyOk d key) (b : Bool) : (Instr.checkKey b 10000 t key).run P w = .ok () w := by
  have g : ∀ n : Nat, (Instr.checkKey b (n + 1) t key).run P w = .ok () w := fun n => by
    rcases hk with ⟨rfl, n, rfl⟩ | ⟨rfl, s, rfl⟩ <;> simp only [Instr.checkKey, Sem.run_bind, run_underlying ht, Result.andThen_ok, Sem.run_pure]
  exact g 9999
theorem bytes_beq (a b : ByteArray) : (a == b) = (a.data.toList == b.data.toList) := by
  have e : (a == b) = (a.data == b.data) := rfl
  rw [e, Bool.eq_iff_iff, beq_iff_eq, beq_iff_eq]
  exact ⟨fun q => by rw [q], fun q => Array.ext' q⟩
theorem sameK_eq {d : TypeDesc} {key j : Value} {b : Bool} (hk : KeyOk d key) (hs : sameK key j = some b) : Instr.sameNow d key j = some b := by
  rcases hk with ⟨rfl, n, rfl⟩ | ⟨rfl, s, rfl⟩
  · unfold sameK at hs
    split at hs
    · rename_i a b' e; cases e; simpa [Instr.sameNow] using hs
    · rename_i e; cases e
    · cases hs
  · unfold sameK at hs
    split at hs
    · rename_i e; cases e
    · rename_i a b' e; cases e
      simp only [Instr.sameNow, bytes_beq]; exact hs
    · cases hs
theorem findNow_eq {d : TypeDesc} {key : Value} (hk : KeyOk d key) : ∀ (l : List (Value × Value)) (es : List MapEntry) (j : Nat) (res : Option Value), es.length = l.length →
    (∀ (i : Nat) (k v : Value), l[i]? = some (k, v) → ∃ e : MapEntry, es[i]? = some e ∧ e.key = k ∧ VR m v e.val) → findL key l = some res →
    (res = none → Instr.findNow d key es j = some none) ∧ (∀ v, res = some v → ∃ i v', Instr.findNow d key es j = some (some (i, v')) ∧ VR m v v')
  | [], [], j, res, _, _, hf => by
    obtain rfl : none = res := by simpa [findL] using hf
    exact ⟨fun _ => rfl, fun v e => by cases e⟩
  | (k, u) :: l, e :: es, j, res, hl, hv, hf => by
    obtain ⟨e', h1, h2, h3⟩ := hv 0 k u rfl
    obtain rfl : e = e' := by simpa using h1
    simp only [findL] at hf
    obtain ⟨b, f1, f2⟩ := Option.bind_eq_some_iff.mp hf
    have hs := sameK_eq hk f1
    rw [← h2] at hs
    cases b with
    | true =>
      obtain rfl : some u = res := by simpa using f2
      refine ⟨fun q => (by cases q), fun v q => ⟨j, e.val, by simp only [Instr.findNow, hs], ?_⟩⟩
      obtain rfl : u = v := by simpa using q
      exact h3
    | false =>
      simp only [Instr.findNow, hs]
      exact findNow_eq hk l es (j + 1) res (by simpa using hl) (fun i k v q => by simpa using hv (i + 1) k v (by simpa using q)) f2
  | [], _ :: _, _, _, hl, _, _ => by simp at hl
  | _ :: _, [], _, _, hl, _, _ => by simp at hl
theorem HR.mapRow (hW : HR h m lo w) {id b s z : Nat} {l : List (Value × Value)} (hr : h.rows.get id = some (.map l)) (hm : m id = some (b, s, z)) :
    s = 0 ∧ ∃ (es : Array MapEntry) (clock : Nat), w.heap[b]? = some (.map es clock) ∧ es.size = l.length ∧ ∀ (i : Nat) (k v : Value), l[i]? = some (k, v) → ∃ e : MapEntry, es[i]? = some e ∧ e.key = k ∧ VR m v e.val := by
  obtain ⟨x, h1, h2⟩ := hW.rows id _ hr
  rw [hm] at h1; obtain rfl : (b, s, z) = x := by simpa using h1
  exact h2
theorem fresh_makeMap {id : Nat} {t : TypeId} : FreshOk P m id (Instr.makeMap t none) w (.map (some id)) (.map []) :=
  ⟨.map #[] 0, 0, fun _ _ => ⟨rfl, #[], 0, rfl, rfl, by simp⟩, fun m' _ hid => ⟨.map (some w.heap.size), by simp [Instr.makeMap], .map hid⟩⟩
theorem mapUpdate_sound (hW : HR h m lo w) (hR : Reads m r ev) {t : TypeId} {a k x : Operand} {v : Value} {h' : H}
    (he : mapE P r h (.mapUpdate t a k x) = some (v, h')) : v = undef ∧ ∃ w', (Instr.mapUpdate t (ev a) (ev k) (ev x)).run P w = .ok () w' ∧ HR h' m lo w' ∧ Fr h m w h' m w' := by
  simp only [mapE, putMapE, lookupE] at he
  replace he := Option.bind_eq_some_iff.mp he
  obtain ⟨key, h2, he⟩ := he
  replace he := Option.bind_eq_some_iff.mp he
  obtain ⟨e, h1, he⟩ := he
  obtain ⟨kt, d, t1, t2, t3⟩ := mapT_eq h1
  have hkey := t3.same (hR k key h2)
  generalize ev k = kk at hkey ⊢
  subst hkey
  replace he := Option.bind_eq_some_iff.mp he
  obtain ⟨q, h3, he⟩ := he
  have hq := hR a q h3
  generalize ev a = aa at hq ⊢
  cases hq <;> (try (simp at he; done))
  case map id b z hm =>
  replace he := Option.bind_eq_some_iff.mp he
  obtain ⟨row, h4, he⟩ := he
  cases row with
  | cells _ _ => simp at he
  | map l =>
    replace he := Option.bind_eq_some_iff.mp he
    obtain ⟨u, h5, he⟩ := he
    have hu := hR x u h5
    replace he := Option.bind_eq_some_iff.mp he
    obtain ⟨res, hf, he⟩ := he
    cases res with
    | some _ => simp at he
    | none =>
      simp only [Option.some.injEq, Prod.mk.injEq] at he; obtain ⟨rfl, rfl⟩ := he
      obtain ⟨_, es, clock, r1, r2, r3⟩ := hW.mapRow h4 hm
      have hb : b < w.heap.size := (hW.blocks _ _ hm).2
      have hfn := (findNow_eq (m := m) t3 l es.toList 0 none (by simpa using r2) (fun i k v q => by
        obtain ⟨e, d1, d2⟩ := r3 i k v q; exact ⟨e, by simpa using d1, d2⟩) hf).1 rfl
      obtain ⟨u1, u2⟩ := hW.upd (w' := { w with heap := w.heap.setIfInBounds b (.map (es.push { key := kk, val := ev x, born := clock }) (clock + 1)) }) (r' := .map (l ++ [(kk, u)])) h4 hm ⟨rfl, rfl, rfl⟩ (by simp) (fun k hk => by simp [Array.getElem?_setIfInBounds_ne (Ne.symm hk)]) ⟨rfl, _, _, by simp [hb]; exact ⟨rfl, rfl⟩, by simp [r2], fun i k v q => by
        by_cases g : i < l.length
        · rw [List.getElem?_append_left g] at q
          obtain ⟨e, d1, d2⟩ := r3 i k v q
          exact ⟨e, by rw [Array.getElem?_push, if_neg (by omega)]; exact d1, d2⟩
        · rw [List.getElem?_append_right (by omega)] at q
          have hi : i = l.length := by
            have := (List.getElem?_eq_some_iff.mp q).1
            simp at this; omega
          subst hi
          simp at q
          obtain ⟨rfl, rfl⟩ := q
          exact ⟨_, by rw [Array.getElem?_push, if_pos r2.symm], rfl, hu⟩⟩
      refine ⟨rfl, _, ?_, u1, u2⟩
      simp only [Instr.mapUpdate, Sem.run_bind, run_underlying t1, Result.andThen_ok]
      simp [getObj, setObj, Sem.run, r1, checkKey_run t2 t3, Instr.findKey, run_underlying t2, hfn]
theorem lookup_sound (hW : HR h m lo w) (hR : Reads m r ev) {t : TypeId} {a k : Operand} {ok : Bool} {v : Value} {h' : H}
    (he : mapE P r h (.lookup t a k ok) = some (v, h')) : Ok P lo h m (Instr.lookup t (ev a) (ev k) ok) w v h' := by
  simp only [mapE, putMapE, lookupE] at he
  replace he := Option.bind_eq_some_iff.mp he
  obtain ⟨key, h2, he⟩ := he
  replace he := Option.bind_eq_some_iff.mp he
  obtain ⟨e, h1, he⟩ := he
  obtain ⟨kt, d, t1, t2, t3⟩ := mapT_eq h1
  have hkey := t3.same (hR k key h2)
  generalize ev k = kk at hkey ⊢
  subst hkey
  replace he := Option.bind_eq_some_iff.mp he
  obtain ⟨q, h3, he⟩ := he
  have hq := hR a q h3
  generalize ev a = aa at hq ⊢
  cases hq <;> (try (simp at he; done))
  case map id b z hm =>
  replace he := Option.bind_eq_some_iff.mp he
  obtain ⟨row, h4, he⟩ := he
  cases row with
  | cells _ _ => simp at he
  | map l =>
    obtain ⟨_, es, clock, r1, r2, r3⟩ := hW.mapRow h4 hm
    replace he := Option.bind_eq_some_iff.mp he
    obtain ⟨res, hf, he⟩ := he
    have hfn := findNow_eq (m := m) t3 l es.toList 0 res (by simpa using r2) (fun i k v q => by
      obtain ⟨e, d1, d2⟩ := r3 i k v q; exact ⟨e, by simpa using d1, d2⟩) hf
    have two : ∀ (u u' : Value) (c : Bool), VR m u u' → VR m (if ok then .tuple #[u, .bool c] else u) (if ok then .tuple #[u', .bool c] else u') := fun u u' c hu => by
      cases ok
      · exact hu
      · exact LR.tuple (LR.cons hu (LR.cons (.bool c) (LR.nil m)))
    cases res with
    | some u =>
      simp only [Option.some.injEq, Prod.mk.injEq] at he; obtain ⟨rfl, rfl⟩ := he
      obtain ⟨i, v', d1, d2⟩ := hfn.2 u rfl
      refine .same hW (v' := if ok then .tuple #[v', .bool true] else v') ?_ (two _ _ _ d2)
      simp [Instr.lookup, run_underlying t1, getObj, Sem.run, r1, checkKey_run t2 t3, Instr.findKey, run_underlying t2, d1]
    | none =>
      replace he := Option.bind_eq_some_iff.mp he
      obtain ⟨u, h5, he⟩ := he
      simp only [Option.some.injEq, Prod.mk.injEq] at he; obtain ⟨rfl, rfl⟩ := he
      obtain ⟨z1, z2⟩ := zeroT_run (w := w) h5
      refine .same hW (v' := if ok then .tuple #[u, .bool false] else u) ?_ (two _ _ _ (z2 m))
      simp [Instr.lookup, run_underlying t1, getObj, Sem.run, r1, checkKey_run t2 t3, Instr.findKey, run_underlying t2, hfn.1 rfl, z1]
/-! ### conversions -/
theorem byteL_eq : ∀ {l : List Value} {bs : List UInt8} {l' : List Value}, byteL l = some bs → LR m l l' → ∃ ns : List Int, l' = ns.map (Value.int .u8) ∧ bs = ns.map fun n => UInt8.ofNat n.toNat
  | [], bs, l', e, hl => by
    simp only [byteL, Option.some.injEq] at e; subst e
    have : l' = [] := by have := hl.1; simpa using this.symm
    exact ⟨[], by simp [this], rfl⟩
  | v :: l, bs, l', e, hl => by
    cases l' with
    | nil => simp [LR] at hl
    | cons v' l' =>
      obtain ⟨h1, h2⟩ := hl.tail
      cases h1 <;> (try (simp [byteL] at e; done))
      rename_i k n
      cases k <;> (try (simp [byteL] at e; done))
      simp only [byteL] at e
      replace e := Option.bind_eq_some_iff.mp e
      obtain ⟨bs', e1, e⟩ := e
      simp only [Option.some.injEq] at e; subst e
      obtain ⟨ns, n1, n2⟩ := byteL_eq e1 h2
      exact ⟨n :: ns, by simp [n1], by simp [n2]⟩
theorem conv_sound (hW : HR h m lo w) {s d : TypeId} {x x' : Value} {v : Value} {h' : H} (hx : VR m x x')
    (he : convE P h s d x = some (v, h')) : Ok P lo h m (convert s d x') w v h' := by
  unfold convE at he
  replace he := Option.bind_eq_some_iff.mp he
  obtain ⟨ds, h1, he⟩ := he
  replace he := Option.bind_eq_some_iff.mp he
  obtain ⟨dd, h2, he⟩ := he
  have bytes : ∀ (A A' : Option Addr) (n c es : Nat), VR m (.slice A n es) (.slice A' n c) → bytesE P h ds dd (.slice A n es) n = some (v, h') → Ok P lo h m (convert s d (.slice A' n c)) w v h' := fun A A' n c es hs hb => by
    unfold bytesE at hb
    cases ds with
    | slice e =>
      cases dd with
      | string =>
          simp only at hb
          split at hb
          · rename_i hu8
            replace hb := Option.bind_eq_some_iff.mp hb
            obtain ⟨l, f1, hb⟩ := hb
            replace hb := Option.bind_eq_some_iff.mp hb
            obtain ⟨bs, f2, hb⟩ := hb
            simp only [Option.some.injEq, Prod.mk.injEq] at hb; obtain ⟨rfl, rfl⟩ := hb
            obtain ⟨l', g1, g2⟩ := first_sound (P := P) hW hs rfl (Nat.le_refl n) f1
            obtain ⟨ns, n1, n2⟩ := byteL_eq f2 g1
            refine .same hW (v' := .string ⟨⟨bs⟩⟩) ?_ (.string _)
            rw [run_convert_bytes_string w s d e A' n c h1 (isU8_eq hu8) h2]
            have g := g2 w rfl
            cases A' with
            | none =>
              simp only [Builtin.firstCells, Sem.run_pure, Result.ok.injEq] at g
              have : l' = [] := by have := g.1; simpa using congrArg Array.toList this.symm
              subst this
              have : ns = [] := by simpa using n1.symm
              subst this
              simp only [Conv.bytesToString, Sem.run_pure, n2]
              rfl
            | some A' =>
              simp only [Builtin.firstCells, Nat.mul_one] at g
              rw [run_bytesToString w A' n c ns (by rw [g, n1])]
              rw [foldl_push_bytes, n2]
              simp [ByteArray.empty, ByteArray.emptyWithCapacity]
              rfl
          · cases hb
      | _ => cases hb
    | _ => cases hb
  cases hx <;> (try (simp at he; done))
  case int k n =>
    simp only at he
    split at he
    · rename_i k'
      simp only [Option.some.injEq, Prod.mk.injEq] at he; obtain ⟨rfl, rfl⟩ := he
      refine .same hW (v' := .int k' (k'.wrap n)) ?_ (.int _ _)
      simp [convert, run_underlying h1, run_underlying h2, Conv.intToInt]
    · cases he
  case string b =>
    simp only at he
    split at he
    · simp only [Option.some.injEq, Prod.mk.injEq] at he; obtain ⟨rfl, rfl⟩ := he
      refine .same hW (v' := .string b) ?_ (.string _)
      simp [convert, run_underlying h1, run_underlying h2]
    · cases he
  case nilSlice => exact bytes none none 0 0 0 .nilSlice he
  case empty A c => exact bytes none A 0 c 1 .empty he
  case slice id o b sh z es n c' hm hn hc => exact bytes _ _ n c' es (.slice hm hn hc) he
/-! ### built-in functions -/
theorem ints_eq : ∀ {l l' : List Value}, LR m l l' → l.all isInt = true → l = l'
  | [], l', hl, _ => by have := hl.1; simpa using this.symm
  | v :: l, [], hl, _ => by simp [LR] at hl
  | v :: l, v' :: l', hl, hi => by
    simp only [List.all_cons, Bool.and_eq_true] at hi
    obtain ⟨h1, h2⟩ := hl.tail
    rw [ints_eq h2 hi.2]
    cases h1 <;> (try (simp [isInt] at hi; done))
    rfl
theorem len_sound (hW : HR h m lo w) {t ty : TypeId} {ts : Array TypeId} {args : Array Value} {x x' : Value} {n : Nat} (hx : VR m x x') (h0 : ts[0]? = some t) (a0 : args[0]? = some x')
    (he : lenE P h t x = some n) : (Builtin.len_ ts ty args).run P w = .ok (.int .i64 (.ofNat n)) w := by
  unfold lenE at he
  split at he <;> rename_i hu
  · split at he
    · obtain rfl := Option.some.inj he
      cases hx
      simp [Builtin.len_, h0, a0, run_underlying hu, goInt]
    · cases he
  · obtain rfl := Option.some.inj he
    simp [Builtin.len_, h0, a0, run_underlying hu, goInt]
  · split at he
    · obtain rfl := Option.some.inj he
      cases hx <;> simp [Builtin.len_, h0, a0, run_underlying hu, goInt]
    · cases he
  · split at he
    · obtain rfl := Option.some.inj he
      cases hx
      simp [Builtin.len_, h0, a0, run_underlying hu, goInt]
    · cases hx
      rename_i id b z hm
      replace he := Option.bind_eq_some_iff.mp he
      obtain ⟨row, h4, he⟩ := he
      cases row with
      | cells _ _ => simp at he
      | map l =>
        obtain rfl : l.length = n := by simpa using he
        obtain ⟨_, es, clock, r1, r2, r3⟩ := hW.mapRow h4 hm
        simp [Builtin.len_, h0, a0, run_underlying hu, goInt, getObj, Sem.run, r1, r2]
    · cases he
  · cases he
end Go.Proofs.YtldbkigenaakkaaGreatDoorExe

-- PRINTED by print.py out of the translation. Not trusted: Lean checks it.
import Derived.Test.YtnkgelnkoljgdaaPrs
import Derived.Test.YtnkgelnkoljgdaaProg
import Derived.Below
import Derived.Deep.Draws
import Derived.Deep.AppendLies
import Derived.Maps.AppendAt
import Derived.OwnWalk
import Derived.Laws.BytesArg
import Derived.Laws.MakeOwn
import Derived.Laws.OwnMore
import Derived.Deep.OwnRows
import Derived.Tactics
import Derived.Lib.ConvBytes
import Derived.Laws.Slices
import Derived.WalkKit
import Derived.KernelRfl
import Derived.RowKit3
import Derived.Deep.LoopGhost
import Derived.Deep.QuietTactic
import Derived.BigQuiet
import Derived.WideLaws
import Derived.Deep.DeepCutAuto
import Derived.Deep.CutBlock
import Derived.Deep.RegionHeld3
import Derived.Laws.Rows
import Derived.Lib.AppendStr
import Derived.ArgAppend
import Derived.Laws.IdiomCopy
import Derived.OrdersHeld
import Derived.Laws.BitsLemmas
import Derived.RowKit
import Derived.Test.YtnkgelnkoljgdaaWWords
import Derived.Test.YtnkgelnkoljgdaaWLast
import Derived.Test.YtnkgelnkoljgdaaWTab
import Derived.Test.YtnkgelnkoljgdaaWFour
import Derived.Test.YtnkgelnkoljgdaaWQPut
import Derived.Test.YtnkgelnkoljgdaaWApart
import Derived.Test.YtnkgelnkoljgdaaWArr
import Derived.Test.YtnkgelnkoljgdaaWZeros
import Derived.Test.YtnkgelnkoljgdaaWFoot
import Derived.Test.YtnkgelnkoljgdaaWKept
import Derived.Test.YtnkgelnkoljgdaaWShare
import Derived.Test.YtnkgelnkoljgdaaWN
import Derived.Test.YtnkgelnkoljgdaaWFootNe
import Derived.Test.YtnkgelnkoljgdaaWAt
import Derived.Test.YtnkgelnkoljgdaaWEqStruct
import Derived.Test.YtnkgelnkoljgdaaWRepsOne
import Derived.Test.YtnkgelnkoljgdaaWInv
import Derived.Test.YtnkgelnkoljgdaaWInvWords
import Derived.Test.YtnkgelnkoljgdaaWGuard
import Derived.Test.YtnkgelnkoljgdaaWNEv
import Derived.Test.YtnkgelnkoljgdaaWMore
import Derived.Test.YtnkgelnkoljgdaaOwn
import Derived.Test.YtnkgelnkoljgdaaOpen
namespace Go.Proofs.Ytnkgelnkoljgdaa.Q
open Go.RowKit Go.Proofs.YtnkgelnkoljgdaaPrs Go.Proofs.YtnkgelnkoljgdaaOwn Go.Proofs.YtnkgelnkoljgdaaW.PrintWords Go.Proofs.YtnkgelnkoljgdaaW.PrintLast Go.Proofs.YtnkgelnkoljgdaaW.PrintMore
attribute [local go_sem] max2_int min2_int max_two min_two max_three min_three max_four min_four   -- for this text's walks alone
set_option linter.unusedVariables false
set_option linter.unusedSimpArgs false



def errW : Option Int → Value
  | none => .nilIface
  | some c => .iface 0 (.int .i64 c)
theorem errW_none : errW none = .nilIface := rfl
theorem errW_some (c : Int) : errW (some c) = .iface 0 (.int .i64 c) := rfl

theorem info3 : (Try.prog.info? 3).map (fun i => (i.zero, i.size, i.bytes)) = some (some (.int .i64 0), 1, 8) := by kernel_rfl
theorem info39 : (Try.prog.info? 39).map (fun i => (i.zero, i.size, i.bytes)) = some (some (.agg #[(.string ⟨#[]⟩), (.slice none 0 0), (.slice none 0 0)]), 3, 64) := by kernel_rfl
theorem info41 : (Try.prog.info? 41).map (fun i => (i.zero, i.size, i.bytes)) = some (some (.agg #[(.int .i64 0), (.int .i64 0)]), 2, 16) := by kernel_rfl
-- the values' own types
def rd_L2 (xs : List (List Int)) (i : Int) : (List Int) := xs.getD i.toNat ([] : List Int)
theorem at_L2 {w : World} {A : Option Addr} {n : Nat} {xs : List (List Int)} (h : Kd.C (Kd.slice 3 (Kd.int .i64)) w A n xs) (i : Int) (h0 : 0 ≤ i) (h1 : i < n) : ∃ ad A0 c0, A = some ad ∧ w.cell? (ad.add i.toNat) = some (.slice A0 (rd_L2 xs i).length c0) ∧ (rd_L2 xs i).length ≤ c0 ∧ (Kd.int .i64).C w A0 (rd_L2 xs i).length (rd_L2 xs i) := by
  obtain ⟨ad, c, e, _, hK, hc0⟩ := Kd.C_get h ([] : List Int) i h0 h1; have hc : ∀ j u, c[j]? = some u → w.cell? (ad.add (i.toNat * 1 + j)) = some u := hc0; obtain ⟨A0, c0, rfl, l0, g0⟩ := hK; exact ⟨ad, A0, c0, e, by have hq := hc 0 _ rfl; rwa [Nat.mul_one, Nat.add_zero] at hq, l0, g0⟩

/-! #### struct type 41 -/
structure S41 where
  f0 : Int
  f1 : Int
def z41 : S41 := ⟨(0 : Int), (0 : Int)⟩
def k41 : Kd S41 := Kd.iso (Kd.pair (Kd.int .i64) (Kd.int .i64)) (fun x : S41 => (x.f0, x.f1))
theorem k41_open {w : World} {x : S41} {cs : List Value} (h : k41.K w x cs) : cs = [.int .i64 x.f0, .int .i64 x.f1] := by
  obtain ⟨_, _, rfl, rfl, rfl⟩ := h; exact rfl
theorem k41_openM {w : World} {base : Nat} {ok : Nat → Prop} {x : S41} {cs : List Value} (h : k41.M w base ok x cs) : cs = [.int .i64 x.f0, .int .i64 x.f1] := by
  obtain ⟨_, _, rfl, rfl, rfl⟩ := h; exact rfl
theorem k41_mk (w : World) (x : S41)  : k41.K w x [.int .i64 x.f0, .int .i64 x.f1] := ⟨[.int .i64 x.f0], [.int .i64 x.f1], rfl, rfl, rfl⟩
theorem k41_mkM (w : World) (base : Nat) (ok : Nat → Prop) (x : S41)  : k41.M w base ok x [.int .i64 x.f0, .int .i64 x.f1] := ⟨[.int .i64 x.f0], [.int .i64 x.f1], rfl, rfl, rfl⟩
theorem k41_mkF (W : World) (ok : Nat → Prop) (x : S41) : Kd.FK k41 W ok x [.int .i64 x.f0, .int .i64 x.f1] := fun W2 _ => k41_mk W2 x
def rd_T41 (xs : List S41) (i : Int) : S41 := xs.getD i.toNat z41
theorem at_T41 {w : World} {A : Option Addr} {n : Nat} {xs : List S41} (h : Kd.C k41 w A n xs) (i : Int) (h0 : 0 ≤ i) (h1 : i < n) : ∃ ad , A = some ad ∧ w.cell? (ad.add (i.toNat * 2)) = some (.int .i64 (rd_T41 xs i).f0) ∧ w.cell? ⟨(ad.add (i.toNat * 2)).block, (ad.add (i.toNat * 2)).off + 1, none⟩ = some (.int .i64 (rd_T41 xs i).f1) := by
  obtain ⟨ad, c, e, _, hK, hc0⟩ := Kd.C_get h z41 i h0 h1; have hc : ∀ j u, c[j]? = some u → w.cell? (ad.add (i.toNat * 2 + j)) = some u := hc0; obtain rfl := k41_open hK; exact ⟨ad, e, hc 0 _ rfl, by rw [← add_field _ _ 1 (by omega)]; exact hc 1 _ rfl⟩

def rd_L4 (xs : List (List S41)) (i : Int) : (List S41) := xs.getD i.toNat ([] : List S41)
theorem at_L4 {w : World} {A : Option Addr} {n : Nat} {xs : List (List S41)} (h : Kd.C (Kd.slice 41 k41) w A n xs) (i : Int) (h0 : 0 ≤ i) (h1 : i < n) : ∃ ad A0 c0, A = some ad ∧ w.cell? (ad.add i.toNat) = some (.slice A0 (rd_L4 xs i).length c0) ∧ (rd_L4 xs i).length ≤ c0 ∧ k41.C w A0 (rd_L4 xs i).length (rd_L4 xs i) := by
  obtain ⟨ad, c, e, _, hK, hc0⟩ := Kd.C_get h ([] : List S41) i h0 h1; have hc : ∀ j u, c[j]? = some u → w.cell? (ad.add (i.toNat * 1 + j)) = some u := hc0; obtain ⟨A0, c0, rfl, l0, g0⟩ := hK; exact ⟨ad, A0, c0, e, by have hq := hc 0 _ rfl; rwa [Nat.mul_one, Nat.add_zero] at hq, l0, g0⟩

/-! #### struct type 39 -/
structure S39 where
  f0 : ByteArray
  f1 : (List Int)
  f2 : (List S41)
def z39 : S39 := ⟨(⟨#[]⟩ : ByteArray), ([] : List Int), ([] : List S41)⟩
def k39 : Kd S39 := Kd.iso (Kd.pair Kd.string (Kd.pair (Kd.slice 3 (Kd.int .i64)) (Kd.slice 41 k41))) (fun x : S39 => (x.f0, x.f1, x.f2))
theorem k39_open {w : World} {x : S39} {cs : List Value} (h : k39.K w x cs) : ∃ A1 c1 A2 c2, cs = [.string x.f0, .slice A1 x.f1.length c1, .slice A2 x.f2.length c2] ∧ x.f1.length ≤ c1 ∧ (Kd.int .i64).C w A1 x.f1.length x.f1 ∧ x.f2.length ≤ c2 ∧ k41.C w A2 x.f2.length x.f2 := by
  obtain ⟨_, _, rfl, rfl, ⟨_, _, rfl, ⟨A1, c1, rfl, l1, g1⟩, ⟨A2, c2, rfl, l2, g2⟩⟩⟩ := h; exact ⟨A1, c1, A2, c2, rfl, l1, g1, l2, g2⟩
theorem k39_openM {w : World} {base : Nat} {ok : Nat → Prop} {x : S39} {cs : List Value} (h : k39.M w base ok x cs) : ∃ v1 v2, cs = [.string x.f0, v1, v2] ∧ (Kd.int .i64).R 3 w base ok v1 x.f1 ∧ k41.R 41 w base ok v2 x.f2 := by
  obtain ⟨_, _, rfl, rfl, ⟨_, _, rfl, ⟨v1, rfl, g1⟩, ⟨v2, rfl, g2⟩⟩⟩ := h; exact ⟨v1, v2, rfl, g1, g2⟩
theorem k39_mk (w : World) (x : S39) {A1 : Option Addr} {c1 : Nat} (l1 : x.f1.length ≤ c1) (g1 : (Kd.int .i64).C w A1 x.f1.length x.f1) {A2 : Option Addr} {c2 : Nat} (l2 : x.f2.length ≤ c2) (g2 : k41.C w A2 x.f2.length x.f2) : k39.K w x [.string x.f0, .slice A1 x.f1.length c1, .slice A2 x.f2.length c2] := ⟨[.string x.f0], [.slice A1 x.f1.length c1, .slice A2 x.f2.length c2], rfl, rfl, ⟨[.slice A1 x.f1.length c1], [.slice A2 x.f2.length c2], rfl, ⟨A1, c1, rfl, l1, g1⟩, ⟨A2, c2, rfl, l2, g2⟩⟩⟩
theorem k39_mkM (w : World) (base : Nat) (ok : Nat → Prop) (x : S39) {v1 : Value} (g1 : (Kd.int .i64).R 3 w base ok v1 x.f1) {v2 : Value} (g2 : k41.R 41 w base ok v2 x.f2) : k39.M w base ok x [.string x.f0, v1, v2] := ⟨[.string x.f0], [v1, v2], rfl, rfl, ⟨[v1], [v2], rfl, ⟨v1, rfl, g1⟩, ⟨v2, rfl, g2⟩⟩⟩
theorem k39_openF {W : World} {ok : Nat → Prop} {x : S39} {cs : List Value} (h : Kd.FK k39 W ok x cs) : ∃ A1 c1 A2 c2, cs = [.string x.f0, .slice A1 x.f1.length c1, .slice A2 x.f2.length c2] ∧ x.f1.length ≤ c1 ∧ Kd.F (Kd.int .i64) W ok A1 x.f1.length x.f1 ∧ x.f2.length ≤ c2 ∧ Kd.F k41 W ok A2 x.f2.length x.f2 := by
  obtain ⟨A1, c1, A2, c2, rfl, l1, _, l2, _⟩ := k39_open (Kd.FK_now h); exact ⟨A1, c1, A2, c2, rfl, l1, (fun W' hW => by obtain ⟨A1_, c1_, A2_, c2_, he, l1_, g1_, l2_, g2_⟩ := k39_open (h W' hW); injection (Option.some.inj (show some (Value.slice A1 x.f1.length c1) = some (Value.slice A1_ x.f1.length c1_) from congrArg (fun l => l[1]?) he)) with ha_ _ _; rw [ha_]; exact g1_), l2, (fun W' hW => by obtain ⟨A1_, c1_, A2_, c2_, he, l1_, g1_, l2_, g2_⟩ := k39_open (h W' hW); injection (Option.some.inj (show some (Value.slice A2 x.f2.length c2) = some (Value.slice A2_ x.f2.length c2_) from congrArg (fun l => l[2]?) he)) with ha_ _ _; rw [ha_]; exact g2_)⟩
theorem k39_mkF (W : World) (ok : Nat → Prop) (x : S39) {A1 : Option Addr} {c1 : Nat} (l1 : x.f1.length ≤ c1) (g1 : Kd.F (Kd.int .i64) W ok A1 x.f1.length x.f1) {A2 : Option Addr} {c2 : Nat} (l2 : x.f2.length ≤ c2) (g2 : Kd.F k41 W ok A2 x.f2.length x.f2) : Kd.FK k39 W ok x [.string x.f0, .slice A1 x.f1.length c1, .slice A2 x.f2.length c2] := fun W2 hW => k39_mk W2 x l1 (g1 W2 hW) l2 (g2 W2 hW)
def rd_T39 (xs : List S39) (i : Int) : S39 := xs.getD i.toNat z39
theorem at_T39 {w : World} {A : Option Addr} {n : Nat} {xs : List S39} (h : Kd.C k39 w A n xs) (i : Int) (h0 : 0 ≤ i) (h1 : i < n) : ∃ ad A1 c1 A2 c2, A = some ad ∧ w.cell? (ad.add (i.toNat * 3)) = some (.string (rd_T39 xs i).f0) ∧ w.cell? ⟨(ad.add (i.toNat * 3)).block, (ad.add (i.toNat * 3)).off + 1, none⟩ = some (.slice A1 (rd_T39 xs i).f1.length c1) ∧ w.cell? ⟨(ad.add (i.toNat * 3)).block, (ad.add (i.toNat * 3)).off + 2, none⟩ = some (.slice A2 (rd_T39 xs i).f2.length c2) ∧ (rd_T39 xs i).f1.length ≤ c1 ∧ (Kd.int .i64).C w A1 (rd_T39 xs i).f1.length (rd_T39 xs i).f1 ∧ (rd_T39 xs i).f2.length ≤ c2 ∧ k41.C w A2 (rd_T39 xs i).f2.length (rd_T39 xs i).f2 := by
  obtain ⟨ad, c, e, _, hK, hc0⟩ := Kd.C_get h z39 i h0 h1; have hc : ∀ j u, c[j]? = some u → w.cell? (ad.add (i.toNat * 3 + j)) = some u := hc0; obtain ⟨A1, c1, A2, c2, rfl, l1, g1, l2, g2⟩ := k39_open hK; exact ⟨ad, A1, c1, A2, c2, e, hc 0 _ rfl, by rw [← add_field _ _ 1 (by omega)]; exact hc 1 _ rfl, by rw [← add_field _ _ 2 (by omega)]; exact hc 2 _ rfl, l1, g1, l2, g2⟩

/-! #### struct type 25 -/
structure S25 where
  f0 : Int
  f1 : Int
  f2 : Int
  f3 : (List Int)
  f4 : (List Int)
  f5 : (List Int)
  f6 : (List Int)
  f7 : Int
  f8 : Int
  f9 : Bool
def z25 : S25 := ⟨(0 : Int), (0 : Int), (0 : Int), ([] : List Int), ([] : List Int), ([] : List Int), ([] : List Int), (0 : Int), (0 : Int), false⟩
def k25 : Kd S25 := Kd.iso (Kd.pair (Kd.int .i64) (Kd.pair (Kd.int .i64) (Kd.pair (Kd.int .i64) (Kd.pair (Kd.slice 3 (Kd.int .i64)) (Kd.pair (Kd.slice 3 (Kd.int .i64)) (Kd.pair (Kd.slice 3 (Kd.int .i64)) (Kd.pair (Kd.slice 3 (Kd.int .i64)) (Kd.pair (Kd.int .i64) (Kd.pair (Kd.int .i64) Kd.bool))))))))) (fun x : S25 => (x.f0, x.f1, x.f2, x.f3, x.f4, x.f5, x.f6, x.f7, x.f8, x.f9))
theorem k25_open {w : World} {x : S25} {cs : List Value} (h : k25.K w x cs) : ∃ A3 c3 A4 c4 A5 c5 A6 c6, cs = [.int .i64 x.f0, .int .i64 x.f1, .int .i64 x.f2, .slice A3 x.f3.length c3, .slice A4 x.f4.length c4, .slice A5 x.f5.length c5, .slice A6 x.f6.length c6, .int .i64 x.f7, .int .i64 x.f8, .bool x.f9] ∧ x.f3.length ≤ c3 ∧ (Kd.int .i64).C w A3 x.f3.length x.f3 ∧ x.f4.length ≤ c4 ∧ (Kd.int .i64).C w A4 x.f4.length x.f4 ∧ x.f5.length ≤ c5 ∧ (Kd.int .i64).C w A5 x.f5.length x.f5 ∧ x.f6.length ≤ c6 ∧ (Kd.int .i64).C w A6 x.f6.length x.f6 := by
  obtain ⟨_, _, rfl, rfl, ⟨_, _, rfl, rfl, ⟨_, _, rfl, rfl, ⟨_, _, rfl, ⟨A3, c3, rfl, l3, g3⟩, ⟨_, _, rfl, ⟨A4, c4, rfl, l4, g4⟩, ⟨_, _, rfl, ⟨A5, c5, rfl, l5, g5⟩, ⟨_, _, rfl, ⟨A6, c6, rfl, l6, g6⟩, ⟨_, _, rfl, rfl, ⟨_, _, rfl, rfl, rfl⟩⟩⟩⟩⟩⟩⟩⟩⟩ := h; exact ⟨A3, c3, A4, c4, A5, c5, A6, c6, rfl, l3, g3, l4, g4, l5, g5, l6, g6⟩
theorem k25_openM {w : World} {base : Nat} {ok : Nat → Prop} {x : S25} {cs : List Value} (h : k25.M w base ok x cs) : ∃ v3 v4 v5 v6, cs = [.int .i64 x.f0, .int .i64 x.f1, .int .i64 x.f2, v3, v4, v5, v6, .int .i64 x.f7, .int .i64 x.f8, .bool x.f9] ∧ (Kd.int .i64).R 3 w base ok v3 x.f3 ∧ (Kd.int .i64).R 3 w base ok v4 x.f4 ∧ (Kd.int .i64).R 3 w base ok v5 x.f5 ∧ (Kd.int .i64).R 3 w base ok v6 x.f6 := by
  obtain ⟨_, _, rfl, rfl, ⟨_, _, rfl, rfl, ⟨_, _, rfl, rfl, ⟨_, _, rfl, ⟨v3, rfl, g3⟩, ⟨_, _, rfl, ⟨v4, rfl, g4⟩, ⟨_, _, rfl, ⟨v5, rfl, g5⟩, ⟨_, _, rfl, ⟨v6, rfl, g6⟩, ⟨_, _, rfl, rfl, ⟨_, _, rfl, rfl, rfl⟩⟩⟩⟩⟩⟩⟩⟩⟩ := h; exact ⟨v3, v4, v5, v6, rfl, g3, g4, g5, g6⟩
theorem k25_mk (w : World) (x : S25) {A3 : Option Addr} {c3 : Nat} (l3 : x.f3.length ≤ c3) (g3 : (Kd.int .i64).C w A3 x.f3.length x.f3) {A4 : Option Addr} {c4 : Nat} (l4 : x.f4.length ≤ c4) (g4 : (Kd.int .i64).C w A4 x.f4.length x.f4) {A5 : Option Addr} {c5 : Nat} (l5 : x.f5.length ≤ c5) (g5 : (Kd.int .i64).C w A5 x.f5.length x.f5) {A6 : Option Addr} {c6 : Nat} (l6 : x.f6.length ≤ c6) (g6 : (Kd.int .i64).C w A6 x.f6.length x.f6) : k25.K w x [.int .i64 x.f0, .int .i64 x.f1, .int .i64 x.f2, .slice A3 x.f3.length c3, .slice A4 x.f4.length c4, .slice A5 x.f5.length c5, .slice A6 x.f6.length c6, .int .i64 x.f7, .int .i64 x.f8, .bool x.f9] := ⟨[.int .i64 x.f0], [.int .i64 x.f1, .int .i64 x.f2, .slice A3 x.f3.length c3, .slice A4 x.f4.length c4, .slice A5 x.f5.length c5, .slice A6 x.f6.length c6, .int .i64 x.f7, .int .i64 x.f8, .bool x.f9], rfl, rfl, ⟨[.int .i64 x.f1], [.int .i64 x.f2, .slice A3 x.f3.length c3, .slice A4 x.f4.length c4, .slice A5 x.f5.length c5, .slice A6 x.f6.length c6, .int .i64 x.f7, .int .i64 x.f8, .bool x.f9], rfl, rfl, ⟨[.int .i64 x.f2], [.slice A3 x.f3.length c3, .slice A4 x.f4.length c4, .slice A5 x.f5.length c5, .slice A6 x.f6.length c6, .int .i64 x.f7, .int .i64 x.f8, .bool x.f9], rfl, rfl, ⟨[.slice A3 x.f3.length c3], [.slice A4 x.f4.length c4, .slice A5 x.f5.length c5, .slice A6 x.f6.length c6, .int .i64 x.f7, .int .i64 x.f8, .bool x.f9], rfl, ⟨A3, c3, rfl, l3, g3⟩, ⟨[.slice A4 x.f4.length c4], [.slice A5 x.f5.length c5, .slice A6 x.f6.length c6, .int .i64 x.f7, .int .i64 x.f8, .bool x.f9], rfl, ⟨A4, c4, rfl, l4, g4⟩, ⟨[.slice A5 x.f5.length c5], [.slice A6 x.f6.length c6, .int .i64 x.f7, .int .i64 x.f8, .bool x.f9], rfl, ⟨A5, c5, rfl, l5, g5⟩, ⟨[.slice A6 x.f6.length c6], [.int .i64 x.f7, .int .i64 x.f8, .bool x.f9], rfl, ⟨A6, c6, rfl, l6, g6⟩, ⟨[.int .i64 x.f7], [.int .i64 x.f8, .bool x.f9], rfl, rfl, ⟨[.int .i64 x.f8], [.bool x.f9], rfl, rfl, rfl⟩⟩⟩⟩⟩⟩⟩⟩⟩
theorem k25_mkM (w : World) (base : Nat) (ok : Nat → Prop) (x : S25) {v3 : Value} (g3 : (Kd.int .i64).R 3 w base ok v3 x.f3) {v4 : Value} (g4 : (Kd.int .i64).R 3 w base ok v4 x.f4) {v5 : Value} (g5 : (Kd.int .i64).R 3 w base ok v5 x.f5) {v6 : Value} (g6 : (Kd.int .i64).R 3 w base ok v6 x.f6) : k25.M w base ok x [.int .i64 x.f0, .int .i64 x.f1, .int .i64 x.f2, v3, v4, v5, v6, .int .i64 x.f7, .int .i64 x.f8, .bool x.f9] := ⟨[.int .i64 x.f0], [.int .i64 x.f1, .int .i64 x.f2, v3, v4, v5, v6, .int .i64 x.f7, .int .i64 x.f8, .bool x.f9], rfl, rfl, ⟨[.int .i64 x.f1], [.int .i64 x.f2, v3, v4, v5, v6, .int .i64 x.f7, .int .i64 x.f8, .bool x.f9], rfl, rfl, ⟨[.int .i64 x.f2], [v3, v4, v5, v6, .int .i64 x.f7, .int .i64 x.f8, .bool x.f9], rfl, rfl, ⟨[v3], [v4, v5, v6, .int .i64 x.f7, .int .i64 x.f8, .bool x.f9], rfl, ⟨v3, rfl, g3⟩, ⟨[v4], [v5, v6, .int .i64 x.f7, .int .i64 x.f8, .bool x.f9], rfl, ⟨v4, rfl, g4⟩, ⟨[v5], [v6, .int .i64 x.f7, .int .i64 x.f8, .bool x.f9], rfl, ⟨v5, rfl, g5⟩, ⟨[v6], [.int .i64 x.f7, .int .i64 x.f8, .bool x.f9], rfl, ⟨v6, rfl, g6⟩, ⟨[.int .i64 x.f7], [.int .i64 x.f8, .bool x.f9], rfl, rfl, ⟨[.int .i64 x.f8], [.bool x.f9], rfl, rfl, rfl⟩⟩⟩⟩⟩⟩⟩⟩⟩
theorem k25_openF {W : World} {ok : Nat → Prop} {x : S25} {cs : List Value} (h : Kd.FK k25 W ok x cs) : ∃ A3 c3 A4 c4 A5 c5 A6 c6, cs = [.int .i64 x.f0, .int .i64 x.f1, .int .i64 x.f2, .slice A3 x.f3.length c3, .slice A4 x.f4.length c4, .slice A5 x.f5.length c5, .slice A6 x.f6.length c6, .int .i64 x.f7, .int .i64 x.f8, .bool x.f9] ∧ x.f3.length ≤ c3 ∧ Kd.F (Kd.int .i64) W ok A3 x.f3.length x.f3 ∧ x.f4.length ≤ c4 ∧ Kd.F (Kd.int .i64) W ok A4 x.f4.length x.f4 ∧ x.f5.length ≤ c5 ∧ Kd.F (Kd.int .i64) W ok A5 x.f5.length x.f5 ∧ x.f6.length ≤ c6 ∧ Kd.F (Kd.int .i64) W ok A6 x.f6.length x.f6 := by
  obtain ⟨A3, c3, A4, c4, A5, c5, A6, c6, rfl, l3, _, l4, _, l5, _, l6, _⟩ := k25_open (Kd.FK_now h); exact ⟨A3, c3, A4, c4, A5, c5, A6, c6, rfl, l3, (fun W' hW => by obtain ⟨A3_, c3_, A4_, c4_, A5_, c5_, A6_, c6_, he, l3_, g3_, l4_, g4_, l5_, g5_, l6_, g6_⟩ := k25_open (h W' hW); injection (Option.some.inj (show some (Value.slice A3 x.f3.length c3) = some (Value.slice A3_ x.f3.length c3_) from congrArg (fun l => l[3]?) he)) with ha_ _ _; rw [ha_]; exact g3_), l4, (fun W' hW => by obtain ⟨A3_, c3_, A4_, c4_, A5_, c5_, A6_, c6_, he, l3_, g3_, l4_, g4_, l5_, g5_, l6_, g6_⟩ := k25_open (h W' hW); injection (Option.some.inj (show some (Value.slice A4 x.f4.length c4) = some (Value.slice A4_ x.f4.length c4_) from congrArg (fun l => l[4]?) he)) with ha_ _ _; rw [ha_]; exact g4_), l5, (fun W' hW => by obtain ⟨A3_, c3_, A4_, c4_, A5_, c5_, A6_, c6_, he, l3_, g3_, l4_, g4_, l5_, g5_, l6_, g6_⟩ := k25_open (h W' hW); injection (Option.some.inj (show some (Value.slice A5 x.f5.length c5) = some (Value.slice A5_ x.f5.length c5_) from congrArg (fun l => l[5]?) he)) with ha_ _ _; rw [ha_]; exact g5_), l6, (fun W' hW => by obtain ⟨A3_, c3_, A4_, c4_, A5_, c5_, A6_, c6_, he, l3_, g3_, l4_, g4_, l5_, g5_, l6_, g6_⟩ := k25_open (h W' hW); injection (Option.some.inj (show some (Value.slice A6 x.f6.length c6) = some (Value.slice A6_ x.f6.length c6_) from congrArg (fun l => l[6]?) he)) with ha_ _ _; rw [ha_]; exact g6_)⟩
theorem k25_mkF (W : World) (ok : Nat → Prop) (x : S25) {A3 : Option Addr} {c3 : Nat} (l3 : x.f3.length ≤ c3) (g3 : Kd.F (Kd.int .i64) W ok A3 x.f3.length x.f3) {A4 : Option Addr} {c4 : Nat} (l4 : x.f4.length ≤ c4) (g4 : Kd.F (Kd.int .i64) W ok A4 x.f4.length x.f4) {A5 : Option Addr} {c5 : Nat} (l5 : x.f5.length ≤ c5) (g5 : Kd.F (Kd.int .i64) W ok A5 x.f5.length x.f5) {A6 : Option Addr} {c6 : Nat} (l6 : x.f6.length ≤ c6) (g6 : Kd.F (Kd.int .i64) W ok A6 x.f6.length x.f6) : Kd.FK k25 W ok x [.int .i64 x.f0, .int .i64 x.f1, .int .i64 x.f2, .slice A3 x.f3.length c3, .slice A4 x.f4.length c4, .slice A5 x.f5.length c5, .slice A6 x.f6.length c6, .int .i64 x.f7, .int .i64 x.f8, .bool x.f9] := fun W2 hW => k25_mk W2 x l3 (g3 W2 hW) l4 (g4 W2 hW) l5 (g5 W2 hW) l6 (g6 W2 hW)
def rd_T25 (xs : List S25) (i : Int) : S25 := xs.getD i.toNat z25
theorem at_T25 {w : World} {A : Option Addr} {n : Nat} {xs : List S25} (h : Kd.C k25 w A n xs) (i : Int) (h0 : 0 ≤ i) (h1 : i < n) : ∃ ad A3 c3 A4 c4 A5 c5 A6 c6, A = some ad ∧ w.cell? (ad.add (i.toNat * 10)) = some (.int .i64 (rd_T25 xs i).f0) ∧ w.cell? ⟨(ad.add (i.toNat * 10)).block, (ad.add (i.toNat * 10)).off + 1, none⟩ = some (.int .i64 (rd_T25 xs i).f1) ∧ w.cell? ⟨(ad.add (i.toNat * 10)).block, (ad.add (i.toNat * 10)).off + 2, none⟩ = some (.int .i64 (rd_T25 xs i).f2) ∧ w.cell? ⟨(ad.add (i.toNat * 10)).block, (ad.add (i.toNat * 10)).off + 3, none⟩ = some (.slice A3 (rd_T25 xs i).f3.length c3) ∧ w.cell? ⟨(ad.add (i.toNat * 10)).block, (ad.add (i.toNat * 10)).off + 4, none⟩ = some (.slice A4 (rd_T25 xs i).f4.length c4) ∧ w.cell? ⟨(ad.add (i.toNat * 10)).block, (ad.add (i.toNat * 10)).off + 5, none⟩ = some (.slice A5 (rd_T25 xs i).f5.length c5) ∧ w.cell? ⟨(ad.add (i.toNat * 10)).block, (ad.add (i.toNat * 10)).off + 6, none⟩ = some (.slice A6 (rd_T25 xs i).f6.length c6) ∧ w.cell? ⟨(ad.add (i.toNat * 10)).block, (ad.add (i.toNat * 10)).off + 7, none⟩ = some (.int .i64 (rd_T25 xs i).f7) ∧ w.cell? ⟨(ad.add (i.toNat * 10)).block, (ad.add (i.toNat * 10)).off + 8, none⟩ = some (.int .i64 (rd_T25 xs i).f8) ∧ w.cell? ⟨(ad.add (i.toNat * 10)).block, (ad.add (i.toNat * 10)).off + 9, none⟩ = some (.bool (rd_T25 xs i).f9) ∧ (rd_T25 xs i).f3.length ≤ c3 ∧ (Kd.int .i64).C w A3 (rd_T25 xs i).f3.length (rd_T25 xs i).f3 ∧ (rd_T25 xs i).f4.length ≤ c4 ∧ (Kd.int .i64).C w A4 (rd_T25 xs i).f4.length (rd_T25 xs i).f4 ∧ (rd_T25 xs i).f5.length ≤ c5 ∧ (Kd.int .i64).C w A5 (rd_T25 xs i).f5.length (rd_T25 xs i).f5 ∧ (rd_T25 xs i).f6.length ≤ c6 ∧ (Kd.int .i64).C w A6 (rd_T25 xs i).f6.length (rd_T25 xs i).f6 := by
  obtain ⟨ad, c, e, _, hK, hc0⟩ := Kd.C_get h z25 i h0 h1; have hc : ∀ j u, c[j]? = some u → w.cell? (ad.add (i.toNat * 10 + j)) = some u := hc0; obtain ⟨A3, c3, A4, c4, A5, c5, A6, c6, rfl, l3, g3, l4, g4, l5, g5, l6, g6⟩ := k25_open hK; exact ⟨ad, A3, c3, A4, c4, A5, c5, A6, c6, e, hc 0 _ rfl, by rw [← add_field _ _ 1 (by omega)]; exact hc 1 _ rfl, by rw [← add_field _ _ 2 (by omega)]; exact hc 2 _ rfl, by rw [← add_field _ _ 3 (by omega)]; exact hc 3 _ rfl, by rw [← add_field _ _ 4 (by omega)]; exact hc 4 _ rfl, by rw [← add_field _ _ 5 (by omega)]; exact hc 5 _ rfl, by rw [← add_field _ _ 6 (by omega)]; exact hc 6 _ rfl, by rw [← add_field _ _ 7 (by omega)]; exact hc 7 _ rfl, by rw [← add_field _ _ 8 (by omega)]; exact hc 8 _ rfl, by rw [← add_field _ _ 9 (by omega)]; exact hc 9 _ rfl, l3, g3, l4, g4, l5, g5, l6, g6⟩

/-! #### struct type 51 -/
structure S51 where
  f0 : Int
def z51 : S51 := ⟨(0 : Int)⟩
def k51 : Kd S51 := Kd.iso (Kd.int .u64) (fun x : S51 => x.f0)
theorem k51_open {w : World} {x : S51} {cs : List Value} (h : k51.K w x cs) : cs = [.int .u64 x.f0] := by
  obtain rfl := h; exact rfl
theorem k51_openM {w : World} {base : Nat} {ok : Nat → Prop} {x : S51} {cs : List Value} (h : k51.M w base ok x cs) : cs = [.int .u64 x.f0] := by
  obtain rfl := h; exact rfl
theorem k51_mk (w : World) (x : S51)  : k51.K w x [.int .u64 x.f0] := rfl
theorem k51_mkM (w : World) (base : Nat) (ok : Nat → Prop) (x : S51)  : k51.M w base ok x [.int .u64 x.f0] := rfl
theorem k51_mkF (W : World) (ok : Nat → Prop) (x : S51) : Kd.FK k51 W ok x [.int .u64 x.f0] := fun W2 _ => k51_mk W2 x
def rd_T51 (xs : List S51) (i : Int) : S51 := xs.getD i.toNat z51
theorem at_T51 {w : World} {A : Option Addr} {n : Nat} {xs : List S51} (h : Kd.C k51 w A n xs) (i : Int) (h0 : 0 ≤ i) (h1 : i < n) : ∃ ad , A = some ad ∧ w.cell? (ad.add i.toNat) = some (.int .u64 (rd_T51 xs i).f0) := by
  obtain ⟨ad, c, e, _, hK, hc0⟩ := Kd.C_get h z51 i h0 h1; have hc : ∀ j u, c[j]? = some u → w.cell? (ad.add (i.toNat * 1 + j)) = some u := hc0; obtain rfl := k51_open hK; exact ⟨ad, e, by have hq := hc 0 _ rfl; rwa [Nat.mul_one, Nat.add_zero] at hq⟩

def wT41 (x : S41) : Prop := (wInt .i64) x.f0 ∧ (wInt .i64) x.f1
theorem opens_T41 : Opens Try.prog 41 k41 wT41 := by
  intro H enc W fuel cs x h; obtain ⟨xs, m, rfl, _, hl, hn, hx⟩ := DataW.trod_struct Try.underlying41 h; have hl2 : cs.length = 2 := hl.trans (by kernel_rfl); have hn2 : xs.length = 2 := hn; obtain ⟨y0, K00, w0⟩ := (opens_int Try.underlying3) ((hx 0 _ rfl).trans (List.getElem?_eq_getElem (by omega))); have K0 : (Kd.int .i64).K W y0 ((cs.drop 0).take 1) := Eq.mp (congrArg (fun n_ => (Kd.int .i64).K W y0 ((cs.drop 0).take n_)) (by kernel_rfl : Try.prog.cellsOf 3 = 1)) K00; clear K00; obtain ⟨y1, K10, w1⟩ := (opens_int Try.underlying3) ((hx 1 _ rfl).trans (List.getElem?_eq_getElem (by omega))); have K1 : (Kd.int .i64).K W y1 ((cs.drop 1).take 1) := Eq.mp (congrArg (fun n_ => (Kd.int .i64).K W y1 ((cs.drop 1).take n_)) (by kernel_rfl : Try.prog.cellsOf 3 = 1)) K10; clear K10; refine ⟨⟨y0, y1⟩, ?_, w0, w1⟩
  show (Kd.pair (Kd.int .i64) (Kd.int .i64)).K W (y0, y1) cs
  exact (pair_cut 1 (by first | exact K0 | (simpa [List.drop_drop] using K0) | (have h_ := K0; rw [List.take_of_length_le (by simp; omega)] at h_; simpa [List.drop_drop] using h_)) (by first | exact K1 | (simpa [List.drop_drop] using K1) | (have h_ := K1; rw [List.take_of_length_le (by simp; omega)] at h_; simpa [List.drop_drop] using h_)))
def wT39 (x : S39) : Prop := wStr x.f0 ∧ (wRow (wInt .i64)) x.f1 ∧ (wRow wT41) x.f2
theorem opens_T39 : Opens Try.prog 39 k39 wT39 := by
  intro H enc W fuel cs x h; obtain ⟨xs, m, rfl, _, hl, hn, hx⟩ := DataW.trod_struct Try.underlying39 h; have hl2 : cs.length = 3 := hl.trans (by kernel_rfl); have hn2 : xs.length = 3 := hn; obtain ⟨y0, K00, w0⟩ := (opens_string Try.underlying9) ((hx 0 _ rfl).trans (List.getElem?_eq_getElem (by omega))); have K0 : Kd.string.K W y0 ((cs.drop 0).take 1) := Eq.mp (congrArg (fun n_ => Kd.string.K W y0 ((cs.drop 0).take n_)) (by kernel_rfl : Try.prog.cellsOf 9 = 1)) K00; clear K00; obtain ⟨y1, K10, w1⟩ := (opens_slice Try.underlying23 (by kernel_rfl) (opens_int Try.underlying3)) ((hx 1 _ rfl).trans (List.getElem?_eq_getElem (by omega))); have K1 : (Kd.slice 3 (Kd.int .i64)).K W y1 ((cs.drop 1).take 1) := Eq.mp (congrArg (fun n_ => (Kd.slice 3 (Kd.int .i64)).K W y1 ((cs.drop 1).take n_)) (by kernel_rfl : Try.prog.cellsOf 23 = 1)) K10; clear K10; obtain ⟨y2, K20, w2⟩ := (opens_slice Try.underlying37 (by kernel_rfl) opens_T41) ((hx 2 _ rfl).trans (List.getElem?_eq_getElem (by omega))); have K2 : (Kd.slice 41 k41).K W y2 ((cs.drop 2).take 1) := Eq.mp (congrArg (fun n_ => (Kd.slice 41 k41).K W y2 ((cs.drop 2).take n_)) (by kernel_rfl : Try.prog.cellsOf 37 = 1)) K20; clear K20; refine ⟨⟨y0, y1, y2⟩, ?_, w0, w1, w2⟩
  show (Kd.pair Kd.string (Kd.pair (Kd.slice 3 (Kd.int .i64)) (Kd.slice 41 k41))).K W (y0, (y1, y2)) cs
  exact (pair_cut 1 (by first | exact K0 | (simpa [List.drop_drop] using K0) | (have h_ := K0; rw [List.take_of_length_le (by simp; omega)] at h_; simpa [List.drop_drop] using h_)) (pair_cut 1 (by first | exact K1 | (simpa [List.drop_drop] using K1) | (have h_ := K1; rw [List.take_of_length_le (by simp; omega)] at h_; simpa [List.drop_drop] using h_)) (by first | exact K2 | (simpa [List.drop_drop] using K2) | (have h_ := K2; rw [List.take_of_length_le (by simp; omega)] at h_; simpa [List.drop_drop] using h_))))
def wT25 (x : S25) : Prop := (wInt .i64) x.f0 ∧ (wInt .i64) x.f1 ∧ (wInt .i64) x.f2 ∧ (wRow (wInt .i64)) x.f3 ∧ (wRow (wInt .i64)) x.f4 ∧ (wRow (wInt .i64)) x.f5 ∧ (wRow (wInt .i64)) x.f6 ∧ (wInt .i64) x.f7 ∧ (wInt .i64) x.f8 ∧ wBool x.f9
theorem opens_T25 : Opens Try.prog 25 k25 wT25 := by
  intro H enc W fuel cs x h; obtain ⟨xs, m, rfl, _, hl, hn, hx⟩ := DataW.trod_struct Try.underlying25 h; have hl2 : cs.length = 10 := hl.trans (by kernel_rfl); have hn2 : xs.length = 10 := hn; obtain ⟨y0, K00, w0⟩ := (opens_int Try.underlying3) ((hx 0 _ rfl).trans (List.getElem?_eq_getElem (by omega))); have K0 : (Kd.int .i64).K W y0 ((cs.drop 0).take 1) := Eq.mp (congrArg (fun n_ => (Kd.int .i64).K W y0 ((cs.drop 0).take n_)) (by kernel_rfl : Try.prog.cellsOf 3 = 1)) K00; clear K00; obtain ⟨y1, K10, w1⟩ := (opens_int Try.underlying3) ((hx 1 _ rfl).trans (List.getElem?_eq_getElem (by omega))); have K1 : (Kd.int .i64).K W y1 ((cs.drop 1).take 1) := Eq.mp (congrArg (fun n_ => (Kd.int .i64).K W y1 ((cs.drop 1).take n_)) (by kernel_rfl : Try.prog.cellsOf 3 = 1)) K10; clear K10; obtain ⟨y2, K20, w2⟩ := (opens_int Try.underlying3) ((hx 2 _ rfl).trans (List.getElem?_eq_getElem (by omega))); have K2 : (Kd.int .i64).K W y2 ((cs.drop 2).take 1) := Eq.mp (congrArg (fun n_ => (Kd.int .i64).K W y2 ((cs.drop 2).take n_)) (by kernel_rfl : Try.prog.cellsOf 3 = 1)) K20; clear K20; obtain ⟨y3, K30, w3⟩ := (opens_slice Try.underlying23 (by kernel_rfl) (opens_int Try.underlying3)) ((hx 3 _ rfl).trans (List.getElem?_eq_getElem (by omega))); have K3 : (Kd.slice 3 (Kd.int .i64)).K W y3 ((cs.drop 3).take 1) := Eq.mp (congrArg (fun n_ => (Kd.slice 3 (Kd.int .i64)).K W y3 ((cs.drop 3).take n_)) (by kernel_rfl : Try.prog.cellsOf 23 = 1)) K30; clear K30; obtain ⟨y4, K40, w4⟩ := (opens_slice Try.underlying23 (by kernel_rfl) (opens_int Try.underlying3)) ((hx 4 _ rfl).trans (List.getElem?_eq_getElem (by omega))); have K4 : (Kd.slice 3 (Kd.int .i64)).K W y4 ((cs.drop 4).take 1) := Eq.mp (congrArg (fun n_ => (Kd.slice 3 (Kd.int .i64)).K W y4 ((cs.drop 4).take n_)) (by kernel_rfl : Try.prog.cellsOf 23 = 1)) K40; clear K40; obtain ⟨y5, K50, w5⟩ := (opens_slice Try.underlying23 (by kernel_rfl) (opens_int Try.underlying3)) ((hx 5 _ rfl).trans (List.getElem?_eq_getElem (by omega))); have K5 : (Kd.slice 3 (Kd.int .i64)).K W y5 ((cs.drop 5).take 1) := Eq.mp (congrArg (fun n_ => (Kd.slice 3 (Kd.int .i64)).K W y5 ((cs.drop 5).take n_)) (by kernel_rfl : Try.prog.cellsOf 23 = 1)) K50; clear K50; obtain ⟨y6, K60, w6⟩ := (opens_slice Try.underlying23 (by kernel_rfl) (opens_int Try.underlying3)) ((hx 6 _ rfl).trans (List.getElem?_eq_getElem (by omega))); have K6 : (Kd.slice 3 (Kd.int .i64)).K W y6 ((cs.drop 6).take 1) := Eq.mp (congrArg (fun n_ => (Kd.slice 3 (Kd.int .i64)).K W y6 ((cs.drop 6).take n_)) (by kernel_rfl : Try.prog.cellsOf 23 = 1)) K60
  clear K60; obtain ⟨y7, K70, w7⟩ := (opens_int Try.underlying3) ((hx 7 _ rfl).trans (List.getElem?_eq_getElem (by omega))); have K7 : (Kd.int .i64).K W y7 ((cs.drop 7).take 1) := Eq.mp (congrArg (fun n_ => (Kd.int .i64).K W y7 ((cs.drop 7).take n_)) (by kernel_rfl : Try.prog.cellsOf 3 = 1)) K70; clear K70; obtain ⟨y8, K80, w8⟩ := (opens_int Try.underlying3) ((hx 8 _ rfl).trans (List.getElem?_eq_getElem (by omega))); have K8 : (Kd.int .i64).K W y8 ((cs.drop 8).take 1) := Eq.mp (congrArg (fun n_ => (Kd.int .i64).K W y8 ((cs.drop 8).take n_)) (by kernel_rfl : Try.prog.cellsOf 3 = 1)) K80; clear K80; obtain ⟨y9, K90, w9⟩ := (opens_bool Try.underlying4) ((hx 9 _ rfl).trans (List.getElem?_eq_getElem (by omega))); have K9 : Kd.bool.K W y9 ((cs.drop 9).take 1) := Eq.mp (congrArg (fun n_ => Kd.bool.K W y9 ((cs.drop 9).take n_)) (by kernel_rfl : Try.prog.cellsOf 4 = 1)) K90; clear K90; refine ⟨⟨y0, y1, y2, y3, y4, y5, y6, y7, y8, y9⟩, ?_, w0, w1, w2, w3, w4, w5, w6, w7, w8, w9⟩
  show (Kd.pair (Kd.int .i64) (Kd.pair (Kd.int .i64) (Kd.pair (Kd.int .i64) (Kd.pair (Kd.slice 3 (Kd.int .i64)) (Kd.pair (Kd.slice 3 (Kd.int .i64)) (Kd.pair (Kd.slice 3 (Kd.int .i64)) (Kd.pair (Kd.slice 3 (Kd.int .i64)) (Kd.pair (Kd.int .i64) (Kd.pair (Kd.int .i64) Kd.bool))))))))).K W (y0, (y1, (y2, (y3, (y4, (y5, (y6, (y7, (y8, y9))))))))) cs
  exact (pair_cut 1 (by first | exact K0 | (simpa [List.drop_drop] using K0) | (have h_ := K0; rw [List.take_of_length_le (by simp; omega)] at h_; simpa [List.drop_drop] using h_)) (pair_cut 1 (by first | exact K1 | (simpa [List.drop_drop] using K1) | (have h_ := K1; rw [List.take_of_length_le (by simp; omega)] at h_; simpa [List.drop_drop] using h_)) (pair_cut 1 (by first | exact K2 | (simpa [List.drop_drop] using K2) | (have h_ := K2; rw [List.take_of_length_le (by simp; omega)] at h_; simpa [List.drop_drop] using h_)) (pair_cut 1 (by first | exact K3 | (simpa [List.drop_drop] using K3) | (have h_ := K3; rw [List.take_of_length_le (by simp; omega)] at h_; simpa [List.drop_drop] using h_)) (pair_cut 1 (by first | exact K4 | (simpa [List.drop_drop] using K4) | (have h_ := K4; rw [List.take_of_length_le (by simp; omega)] at h_; simpa [List.drop_drop] using h_)) (pair_cut 1 (by first | exact K5 | (simpa [List.drop_drop] using K5) | (have h_ := K5; rw [List.take_of_length_le (by simp; omega)] at h_; simpa [List.drop_drop] using h_)) (pair_cut 1 (by first | exact K6 | (simpa [List.drop_drop] using K6) | (have h_ := K6; rw [List.take_of_length_le (by simp; omega)] at h_; simpa [List.drop_drop] using h_)) (pair_cut 1 (by first | exact K7 | (simpa [List.drop_drop] using K7) | (have h_ := K7; rw [List.take_of_length_le (by simp; omega)] at h_; simpa [List.drop_drop] using h_)) (pair_cut 1 (by first | exact K8 | (simpa [List.drop_drop] using K8) | (have h_ := K8; rw [List.take_of_length_le (by simp; omega)] at h_; simpa [List.drop_drop] using h_)) (by first | exact K9 | (simpa [List.drop_drop] using K9) | (have h_ := K9; rw [List.take_of_length_le (by simp; omega)] at h_; simpa [List.drop_drop] using h_)))))))))))
def wT51 (x : S51) : Prop := (wInt .u64) x.f0
theorem opens_T51 : Opens Try.prog 51 k51 wT51 := by
  intro H enc W fuel cs x h; obtain ⟨xs, m, rfl, _, hl, hn, hx⟩ := DataW.trod_struct Try.underlying51 h; have hl2 : cs.length = 1 := hl.trans (by kernel_rfl); have hn2 : xs.length = 1 := hn; obtain ⟨y0, K00, w0⟩ := (opens_int Try.underlying49) ((hx 0 _ rfl).trans (List.getElem?_eq_getElem (by omega))); have K0 : (Kd.int .u64).K W y0 ((cs.drop 0).take 1) := Eq.mp (congrArg (fun n_ => (Kd.int .u64).K W y0 ((cs.drop 0).take n_)) (by kernel_rfl : Try.prog.cellsOf 49 = 1)) K00; clear K00; refine ⟨⟨y0⟩, ?_, w0⟩
  show (Kd.int .u64).K W y0 cs
  exact (by first | exact K0 | (simpa [List.drop_drop] using K0) | (have h_ := K0; rw [List.take_of_length_le (by simp; omega)] at h_; simpa [List.drop_drop] using h_))
end Go.Proofs.Ytnkgelnkoljgdaa.Q

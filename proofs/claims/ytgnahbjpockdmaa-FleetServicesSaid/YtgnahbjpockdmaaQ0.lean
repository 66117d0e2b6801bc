-- PRINTED by print.py out of the translation. Not trusted: Lean checks it.
import Derived.Test.YtgnahbjpockdmaaProg
import Derived.Below
import Derived.Deep.Draws
import Derived.Deep.AppendLies
import Derived.Maps.AppendAt
import Derived.OwnWalk
import Derived.Laws.BytesArg
import Derived.Laws.MakeOwn
import Derived.Laws.OwnMore
import Derived.Deep.OwnRows
import Derived.Tactics
import Derived.Lib.ConvBytes
import Derived.Laws.Slices
import Derived.WalkKit
import Derived.KernelRfl
import Derived.RowKit3
import Derived.Deep.LoopGhost
import Derived.Deep.QuietTactic
import Derived.BigQuiet
import Derived.WideLaws
import Derived.Deep.DeepCutAuto
import Derived.Deep.CutBlock
import Derived.Deep.RegionHeld3
import Derived.Laws.Rows
import Derived.Lib.AppendStr
import Derived.ArgAppend
import Derived.Laws.IdiomCopy
import Derived.OrdersHeld
import Derived.Laws.BitsLemmas
import Derived.RowKit
import Derived.Test.YtgnahbjpockdmaaWWords
import Derived.Test.YtgnahbjpockdmaaWLast
import Derived.Test.YtgnahbjpockdmaaWTab
import Derived.Test.YtgnahbjpockdmaaWFour
import Derived.Test.YtgnahbjpockdmaaWQPut
import Derived.Test.YtgnahbjpockdmaaWApart
import Derived.Test.YtgnahbjpockdmaaWArr
import Derived.Test.YtgnahbjpockdmaaWZeros
import Derived.Test.YtgnahbjpockdmaaWFoot
import Derived.Test.YtgnahbjpockdmaaWKept
import Derived.Test.YtgnahbjpockdmaaWShare
import Derived.Test.YtgnahbjpockdmaaWN
import Derived.Test.YtgnahbjpockdmaaWFootNe
import Derived.Test.YtgnahbjpockdmaaWAt
import Derived.Test.YtgnahbjpockdmaaWEqStruct
import Derived.Test.YtgnahbjpockdmaaWRepsOne
import Derived.Test.YtgnahbjpockdmaaWInv
import Derived.Test.YtgnahbjpockdmaaWInvWords
import Derived.Test.YtgnahbjpockdmaaWGuard
import Derived.Test.YtgnahbjpockdmaaWNEv
import Derived.Test.YtgnahbjpockdmaaWMore
import Derived.Test.YtgnahbjpockdmaaOwn
import Derived.Test.YtgnahbjpockdmaaOpen
namespace Go.Proofs.Ytgnahbjpockdmaa.Q
open Go.RowKit Go.Proofs.YtgnahbjpockdmaaOwn Go.Proofs.YtgnahbjpockdmaaW.PrintWords Go.Proofs.YtgnahbjpockdmaaW.PrintLast Go.Proofs.YtgnahbjpockdmaaW.PrintMore
attribute [local go_sem] max2_int min2_int max_two min_two max_three min_three max_four min_four   -- for this text's walks alone
set_option linter.unusedVariables false
set_option linter.unusedSimpArgs false



def errW : Option Int → Value
  | none => .nilIface
  | some c => .iface 0 (.int .i64 c)
theorem errW_none : errW none = .nilIface := rfl
theorem errW_some (c : Int) : errW (some c) = .iface 0 (.int .i64 c) := rfl

theorem info3 : (Try.prog.info? 3).map (fun i => (i.zero, i.size, i.bytes)) = some (some (.int .i64 0), 1, 8) := by kernel_rfl
theorem info54 : (Try.prog.info? 54).map (fun i => (i.zero, i.size, i.bytes)) = some (some (.agg #[(.string ⟨#[]⟩), (.int .i64 0), (.int .i64 0), (.int .i64 0), (.int .i64 0), (.int .i64 0), (.int .i64 0), (.int .i64 0), (.int .i64 0), (.int .i64 0), (.int .i64 0), (.int .i64 0), (.int .i64 0), (.bool false)]), 14, 120) := by kernel_rfl
theorem info69 : (Try.prog.info? 69).map (fun i => (i.zero, i.size, i.bytes)) = some (some (.agg #[(.int .i64 0), (.int .i64 0), (.int .i64 0), (.int .i64 0), (.int .i64 0), (.int .i64 0)]), 6, 48) := by kernel_rfl
-- the values' own types
/-! #### struct type 54 -/
structure S54 where
  f0 : ByteArray
  f1 : Int
  f2 : Int
  f3 : Int
  f4 : Int
  f5 : Int
  f6 : Int
  f7 : Int
  f8 : Int
  f9 : Int
  f10 : Int
  f11 : Int
  f12 : Int
  f13 : Bool
def z54 : S54 := ⟨(⟨#[]⟩ : ByteArray), (0 : Int), (0 : Int), (0 : Int), (0 : Int), (0 : Int), (0 : Int), (0 : Int), (0 : Int), (0 : Int), (0 : Int), (0 : Int), (0 : Int), false⟩
def k54 : Kd S54 := Kd.iso (Kd.pair Kd.string (Kd.pair (Kd.int .i64) (Kd.pair (Kd.int .i64) (Kd.pair (Kd.int .i64) (Kd.pair (Kd.int .i64) (Kd.pair (Kd.int .i64) (Kd.pair (Kd.int .i64) (Kd.pair (Kd.int .i64) (Kd.pair (Kd.int .i64) (Kd.pair (Kd.int .i64) (Kd.pair (Kd.int .i64) (Kd.pair (Kd.int .i64) (Kd.pair (Kd.int .i64) Kd.bool))))))))))))) (fun x : S54 => (x.f0, x.f1, x.f2, x.f3, x.f4, x.f5, x.f6, x.f7, x.f8, x.f9, x.f10, x.f11, x.f12, x.f13))
theorem k54_open {w : World} {x : S54} {cs : List Value} (h : k54.K w x cs) : cs = [.string x.f0, .int .i64 x.f1, .int .i64 x.f2, .int .i64 x.f3, .int .i64 x.f4, .int .i64 x.f5, .int .i64 x.f6, .int .i64 x.f7, .int .i64 x.f8, .int .i64 x.f9, .int .i64 x.f10, .int .i64 x.f11, .int .i64 x.f12, .bool x.f13] := by
  obtain ⟨_, _, rfl, rfl, ⟨_, _, rfl, rfl, ⟨_, _, rfl, rfl, ⟨_, _, rfl, rfl, ⟨_, _, rfl, rfl, ⟨_, _, rfl, rfl, ⟨_, _, rfl, rfl, ⟨_, _, rfl, rfl, ⟨_, _, rfl, rfl, ⟨_, _, rfl, rfl, ⟨_, _, rfl, rfl, ⟨_, _, rfl, rfl, ⟨_, _, rfl, rfl, rfl⟩⟩⟩⟩⟩⟩⟩⟩⟩⟩⟩⟩⟩ := h
  exact rfl
theorem k54_openM {w : World} {base : Nat} {ok : Nat → Prop} {x : S54} {cs : List Value} (h : k54.M w base ok x cs) : cs = [.string x.f0, .int .i64 x.f1, .int .i64 x.f2, .int .i64 x.f3, .int .i64 x.f4, .int .i64 x.f5, .int .i64 x.f6, .int .i64 x.f7, .int .i64 x.f8, .int .i64 x.f9, .int .i64 x.f10, .int .i64 x.f11, .int .i64 x.f12, .bool x.f13] := by
  obtain ⟨_, _, rfl, rfl, ⟨_, _, rfl, rfl, ⟨_, _, rfl, rfl, ⟨_, _, rfl, rfl, ⟨_, _, rfl, rfl, ⟨_, _, rfl, rfl, ⟨_, _, rfl, rfl, ⟨_, _, rfl, rfl, ⟨_, _, rfl, rfl, ⟨_, _, rfl, rfl, ⟨_, _, rfl, rfl, ⟨_, _, rfl, rfl, ⟨_, _, rfl, rfl, rfl⟩⟩⟩⟩⟩⟩⟩⟩⟩⟩⟩⟩⟩ := h
  exact rfl
theorem k54_mk (w : World) (x : S54)  : k54.K w x [.string x.f0, .int .i64 x.f1, .int .i64 x.f2, .int .i64 x.f3, .int .i64 x.f4, .int .i64 x.f5, .int .i64 x.f6, .int .i64 x.f7, .int .i64 x.f8, .int .i64 x.f9, .int .i64 x.f10, .int .i64 x.f11, .int .i64 x.f12, .bool x.f13] := ⟨[.string x.f0], [.int .i64 x.f1, .int .i64 x.f2, .int .i64 x.f3, .int .i64 x.f4, .int .i64 x.f5, .int .i64 x.f6, .int .i64 x.f7, .int .i64 x.f8, .int .i64 x.f9, .int .i64 x.f10, .int .i64 x.f11, .int .i64 x.f12, .bool x.f13], rfl, rfl, ⟨[.int .i64 x.f1], [.int .i64 x.f2, .int .i64 x.f3, .int .i64 x.f4, .int .i64 x.f5, .int .i64 x.f6, .int .i64 x.f7, .int .i64 x.f8, .int .i64 x.f9, .int .i64 x.f10, .int .i64 x.f11, .int .i64 x.f12, .bool x.f13], rfl, rfl, ⟨[.int .i64 x.f2], [.int .i64 x.f3, .int .i64 x.f4, .int .i64 x.f5, .int .i64 x.f6, .int .i64 x.f7, .int .i64 x.f8, .int .i64 x.f9, .int .i64 x.f10, .int .i64 x.f11, .int .i64 x.f12, .bool x.f13], rfl, rfl, ⟨[.int .i64 x.f3], [.int .i64 x.f4, .int .i64 x.f5, .int .i64 x.f6, .int .i64 x.f7, .int .i64 x.f8, .int .i64 x.f9, .int .i64 x.f10, .int .i64 x.f11, .int .i64 x.f12, .bool x.f13], rfl, rfl, ⟨[.int .i64 x.f4], [.int .i64 x.f5, .int .i64 x.f6, .int .i64 x.f7, .int .i64 x.f8, .int .i64 x.f9, .int .i64 x.f10, .int .i64 x.f11, .int .i64 x.f12, .bool x.f13], rfl, rfl, ⟨[.int .i64 x.f5], [.int .i64 x.f6, .int .i64 x.f7, .int .i64 x.f8, .int .i64 x.f9, .int .i64 x.f10, .int .i64 x.f11, .int .i64 x.f12, .bool x.f13], rfl, rfl, ⟨[.int .i64 x.f6], [.int .i64 x.f7, .int .i64 x.f8, .int .i64 x.f9, .int .i64 x.f10, .int .i64 x.f11, .int .i64 x.f12, .bool x.f13], rfl, rfl, ⟨[.int .i64 x.f7], [.int .i64 x.f8, .int .i64 x.f9, .int .i64 x.f10, .int .i64 x.f11, .int .i64 x.f12, .bool x.f13], rfl, rfl, ⟨[.int .i64 x.f8], [.int .i64 x.f9, .int .i64 x.f10, .int .i64 x.f11, .int .i64 x.f12, .bool x.f13], rfl, rfl, ⟨[.int .i64 x.f9], [.int .i64 x.f10, .int .i64 x.f11, .int .i64 x.f12, .bool x.f13], rfl, rfl, ⟨[.int .i64 x.f10], [.int .i64 x.f11, .int .i64 x.f12, .bool x.f13], rfl, rfl, ⟨[.int .i64 x.f11], [.int .i64 x.f12, .bool x.f13], rfl, rfl, ⟨[.int .i64 x.f12], [.bool x.f13], rfl, rfl, rfl⟩⟩⟩⟩⟩⟩⟩⟩⟩⟩⟩⟩⟩
theorem k54_mkM (w : World) (base : Nat) (ok : Nat → Prop) (x : S54)  : k54.M w base ok x [.string x.f0, .int .i64 x.f1, .int .i64 x.f2, .int .i64 x.f3, .int .i64 x.f4, .int .i64 x.f5, .int .i64 x.f6, .int .i64 x.f7, .int .i64 x.f8, .int .i64 x.f9, .int .i64 x.f10, .int .i64 x.f11, .int .i64 x.f12, .bool x.f13] := ⟨[.string x.f0], [.int .i64 x.f1, .int .i64 x.f2, .int .i64 x.f3, .int .i64 x.f4, .int .i64 x.f5, .int .i64 x.f6, .int .i64 x.f7, .int .i64 x.f8, .int .i64 x.f9, .int .i64 x.f10, .int .i64 x.f11, .int .i64 x.f12, .bool x.f13], rfl, rfl, ⟨[.int .i64 x.f1], [.int .i64 x.f2, .int .i64 x.f3, .int .i64 x.f4, .int .i64 x.f5, .int .i64 x.f6, .int .i64 x.f7, .int .i64 x.f8, .int .i64 x.f9, .int .i64 x.f10, .int .i64 x.f11, .int .i64 x.f12, .bool x.f13], rfl, rfl, ⟨[.int .i64 x.f2], [.int .i64 x.f3, .int .i64 x.f4, .int .i64 x.f5, .int .i64 x.f6, .int .i64 x.f7, .int .i64 x.f8, .int .i64 x.f9, .int .i64 x.f10, .int .i64 x.f11, .int .i64 x.f12, .bool x.f13], rfl, rfl, ⟨[.int .i64 x.f3], [.int .i64 x.f4, .int .i64 x.f5, .int .i64 x.f6, .int .i64 x.f7, .int .i64 x.f8, .int .i64 x.f9, .int .i64 x.f10, .int .i64 x.f11, .int .i64 x.f12, .bool x.f13], rfl, rfl, ⟨[.int .i64 x.f4], [.int .i64 x.f5, .int .i64 x.f6, .int .i64 x.f7, .int .i64 x.f8, .int .i64 x.f9, .int .i64 x.f10, .int .i64 x.f11, .int .i64 x.f12, .bool x.f13], rfl, rfl, ⟨[.int .i64 x.f5], [.int .i64 x.f6, .int .i64 x.f7, .int .i64 x.f8, .int .i64 x.f9, .int .i64 x.f10, .int .i64 x.f11, .int .i64 x.f12, .bool x.f13], rfl, rfl, ⟨[.int .i64 x.f6], [.int .i64 x.f7, .int .i64 x.f8, .int .i64 x.f9, .int .i64 x.f10, .int .i64 x.f11, .int .i64 x.f12, .bool x.f13], rfl, rfl, ⟨[.int .i64 x.f7], [.int .i64 x.f8, .int .i64 x.f9, .int .i64 x.f10, .int .i64 x.f11, .int .i64 x.f12, .bool x.f13], rfl, rfl, ⟨[.int .i64 x.f8], [.int .i64 x.f9, .int .i64 x.f10, .int .i64 x.f11, .int .i64 x.f12, .bool x.f13], rfl, rfl, ⟨[.int .i64 x.f9], [.int .i64 x.f10, .int .i64 x.f11, .int .i64 x.f12, .bool x.f13], rfl, rfl, ⟨[.int .i64 x.f10], [.int .i64 x.f11, .int .i64 x.f12, .bool x.f13], rfl, rfl, ⟨[.int .i64 x.f11], [.int .i64 x.f12, .bool x.f13], rfl, rfl, ⟨[.int .i64 x.f12], [.bool x.f13], rfl, rfl, rfl⟩⟩⟩⟩⟩⟩⟩⟩⟩⟩⟩⟩⟩
def rd_T54 (xs : List S54) (i : Int) : S54 := xs.getD i.toNat z54
theorem at_T54 {w : World} {A : Option Addr} {n : Nat} {xs : List S54} (h : Kd.C k54 w A n xs) (i : Int) (h0 : 0 ≤ i) (h1 : i < n) : ∃ ad , A = some ad ∧ w.cell? (ad.add (i.toNat * 14)) = some (.string (rd_T54 xs i).f0) ∧ w.cell? ⟨(ad.add (i.toNat * 14)).block, (ad.add (i.toNat * 14)).off + 1, none⟩ = some (.int .i64 (rd_T54 xs i).f1) ∧ w.cell? ⟨(ad.add (i.toNat * 14)).block, (ad.add (i.toNat * 14)).off + 2, none⟩ = some (.int .i64 (rd_T54 xs i).f2) ∧ w.cell? ⟨(ad.add (i.toNat * 14)).block, (ad.add (i.toNat * 14)).off + 3, none⟩ = some (.int .i64 (rd_T54 xs i).f3) ∧ w.cell? ⟨(ad.add (i.toNat * 14)).block, (ad.add (i.toNat * 14)).off + 4, none⟩ = some (.int .i64 (rd_T54 xs i).f4) ∧ w.cell? ⟨(ad.add (i.toNat * 14)).block, (ad.add (i.toNat * 14)).off + 5, none⟩ = some (.int .i64 (rd_T54 xs i).f5) ∧ w.cell? ⟨(ad.add (i.toNat * 14)).block, (ad.add (i.toNat * 14)).off + 6, none⟩ = some (.int .i64 (rd_T54 xs i).f6) ∧ w.cell? ⟨(ad.add (i.toNat * 14)).block, (ad.add (i.toNat * 14)).off + 7, none⟩ = some (.int .i64 (rd_T54 xs i).f7) ∧ w.cell? ⟨(ad.add (i.toNat * 14)).block, (ad.add (i.toNat * 14)).off + 8, none⟩ = some (.int .i64 (rd_T54 xs i).f8) ∧ w.cell? ⟨(ad.add (i.toNat * 14)).block, (ad.add (i.toNat * 14)).off + 9, none⟩ = some (.int .i64 (rd_T54 xs i).f9) ∧ w.cell? ⟨(ad.add (i.toNat * 14)).block, (ad.add (i.toNat * 14)).off + 10, none⟩ = some (.int .i64 (rd_T54 xs i).f10) ∧ w.cell? ⟨(ad.add (i.toNat * 14)).block, (ad.add (i.toNat * 14)).off + 11, none⟩ = some (.int .i64 (rd_T54 xs i).f11) ∧ w.cell? ⟨(ad.add (i.toNat * 14)).block, (ad.add (i.toNat * 14)).off + 12, none⟩ = some (.int .i64 (rd_T54 xs i).f12) ∧ w.cell? ⟨(ad.add (i.toNat * 14)).block, (ad.add (i.toNat * 14)).off + 13, none⟩ = some (.bool (rd_T54 xs i).f13) := by
  obtain ⟨ad, c, e, _, hK, hc0⟩ := Kd.C_get h z54 i h0 h1
  have hc : ∀ j u, c[j]? = some u → w.cell? (ad.add (i.toNat * 14 + j)) = some u := hc0
  obtain rfl := k54_open hK
  exact ⟨ad, e, hc 0 _ rfl, by rw [← add_field _ _ 1 (by omega)]; exact hc 1 _ rfl, by rw [← add_field _ _ 2 (by omega)]; exact hc 2 _ rfl, by rw [← add_field _ _ 3 (by omega)]; exact hc 3 _ rfl, by rw [← add_field _ _ 4 (by omega)]; exact hc 4 _ rfl, by rw [← add_field _ _ 5 (by omega)]; exact hc 5 _ rfl, by rw [← add_field _ _ 6 (by omega)]; exact hc 6 _ rfl, by rw [← add_field _ _ 7 (by omega)]; exact hc 7 _ rfl, by rw [← add_field _ _ 8 (by omega)]; exact hc 8 _ rfl, by rw [← add_field _ _ 9 (by omega)]; exact hc 9 _ rfl, by rw [← add_field _ _ 10 (by omega)]; exact hc 10 _ rfl, by rw [← add_field _ _ 11 (by omega)]; exact hc 11 _ rfl, by rw [← add_field _ _ 12 (by omega)]; exact hc 12 _ rfl, by rw [← add_field _ _ 13 (by omega)]; exact hc 13 _ rfl⟩

/-! #### struct type 69 -/
structure S69 where
  f0 : Int
  f1 : Int
  f2 : Int
  f3 : Int
  f4 : Int
  f5 : Int
def z69 : S69 := ⟨(0 : Int), (0 : Int), (0 : Int), (0 : Int), (0 : Int), (0 : Int)⟩
def k69 : Kd S69 := Kd.iso (Kd.pair (Kd.int .i64) (Kd.pair (Kd.int .i64) (Kd.pair (Kd.int .i64) (Kd.pair (Kd.int .i64) (Kd.pair (Kd.int .i64) (Kd.int .i64)))))) (fun x : S69 => (x.f0, x.f1, x.f2, x.f3, x.f4, x.f5))
theorem k69_open {w : World} {x : S69} {cs : List Value} (h : k69.K w x cs) : cs = [.int .i64 x.f0, .int .i64 x.f1, .int .i64 x.f2, .int .i64 x.f3, .int .i64 x.f4, .int .i64 x.f5] := by
  obtain ⟨_, _, rfl, rfl, ⟨_, _, rfl, rfl, ⟨_, _, rfl, rfl, ⟨_, _, rfl, rfl, ⟨_, _, rfl, rfl, rfl⟩⟩⟩⟩⟩ := h
  exact rfl
theorem k69_openM {w : World} {base : Nat} {ok : Nat → Prop} {x : S69} {cs : List Value} (h : k69.M w base ok x cs) : cs = [.int .i64 x.f0, .int .i64 x.f1, .int .i64 x.f2, .int .i64 x.f3, .int .i64 x.f4, .int .i64 x.f5] := by
  obtain ⟨_, _, rfl, rfl, ⟨_, _, rfl, rfl, ⟨_, _, rfl, rfl, ⟨_, _, rfl, rfl, ⟨_, _, rfl, rfl, rfl⟩⟩⟩⟩⟩ := h
  exact rfl
theorem k69_mk (w : World) (x : S69)  : k69.K w x [.int .i64 x.f0, .int .i64 x.f1, .int .i64 x.f2, .int .i64 x.f3, .int .i64 x.f4, .int .i64 x.f5] := ⟨[.int .i64 x.f0], [.int .i64 x.f1, .int .i64 x.f2, .int .i64 x.f3, .int .i64 x.f4, .int .i64 x.f5], rfl, rfl, ⟨[.int .i64 x.f1], [.int .i64 x.f2, .int .i64 x.f3, .int .i64 x.f4, .int .i64 x.f5], rfl, rfl, ⟨[.int .i64 x.f2], [.int .i64 x.f3, .int .i64 x.f4, .int .i64 x.f5], rfl, rfl, ⟨[.int .i64 x.f3], [.int .i64 x.f4, .int .i64 x.f5], rfl, rfl, ⟨[.int .i64 x.f4], [.int .i64 x.f5], rfl, rfl, rfl⟩⟩⟩⟩⟩
theorem k69_mkM (w : World) (base : Nat) (ok : Nat → Prop) (x : S69)  : k69.M w base ok x [.int .i64 x.f0, .int .i64 x.f1, .int .i64 x.f2, .int .i64 x.f3, .int .i64 x.f4, .int .i64 x.f5] := ⟨[.int .i64 x.f0], [.int .i64 x.f1, .int .i64 x.f2, .int .i64 x.f3, .int .i64 x.f4, .int .i64 x.f5], rfl, rfl, ⟨[.int .i64 x.f1], [.int .i64 x.f2, .int .i64 x.f3, .int .i64 x.f4, .int .i64 x.f5], rfl, rfl, ⟨[.int .i64 x.f2], [.int .i64 x.f3, .int .i64 x.f4, .int .i64 x.f5], rfl, rfl, ⟨[.int .i64 x.f3], [.int .i64 x.f4, .int .i64 x.f5], rfl, rfl, ⟨[.int .i64 x.f4], [.int .i64 x.f5], rfl, rfl, rfl⟩⟩⟩⟩⟩
def rd_T69 (xs : List S69) (i : Int) : S69 := xs.getD i.toNat z69
theorem at_T69 {w : World} {A : Option Addr} {n : Nat} {xs : List S69} (h : Kd.C k69 w A n xs) (i : Int) (h0 : 0 ≤ i) (h1 : i < n) : ∃ ad , A = some ad ∧ w.cell? (ad.add (i.toNat * 6)) = some (.int .i64 (rd_T69 xs i).f0) ∧ w.cell? ⟨(ad.add (i.toNat * 6)).block, (ad.add (i.toNat * 6)).off + 1, none⟩ = some (.int .i64 (rd_T69 xs i).f1) ∧ w.cell? ⟨(ad.add (i.toNat * 6)).block, (ad.add (i.toNat * 6)).off + 2, none⟩ = some (.int .i64 (rd_T69 xs i).f2) ∧ w.cell? ⟨(ad.add (i.toNat * 6)).block, (ad.add (i.toNat * 6)).off + 3, none⟩ = some (.int .i64 (rd_T69 xs i).f3) ∧ w.cell? ⟨(ad.add (i.toNat * 6)).block, (ad.add (i.toNat * 6)).off + 4, none⟩ = some (.int .i64 (rd_T69 xs i).f4) ∧ w.cell? ⟨(ad.add (i.toNat * 6)).block, (ad.add (i.toNat * 6)).off + 5, none⟩ = some (.int .i64 (rd_T69 xs i).f5) := by
  obtain ⟨ad, c, e, _, hK, hc0⟩ := Kd.C_get h z69 i h0 h1
  have hc : ∀ j u, c[j]? = some u → w.cell? (ad.add (i.toNat * 6 + j)) = some u := hc0
  obtain rfl := k69_open hK
  exact ⟨ad, e, hc 0 _ rfl, by rw [← add_field _ _ 1 (by omega)]; exact hc 1 _ rfl, by rw [← add_field _ _ 2 (by omega)]; exact hc 2 _ rfl, by rw [← add_field _ _ 3 (by omega)]; exact hc 3 _ rfl, by rw [← add_field _ _ 4 (by omega)]; exact hc 4 _ rfl, by rw [← add_field _ _ 5 (by omega)]; exact hc 5 _ rfl⟩

/-! #### struct type 33 -/
structure S33 where
  f0 : Int
  f1 : Int
  f2 : Int
  f3 : Int
  f4 : Int
  f5 : Int
  f6 : Int
  f7 : Bool
def z33 : S33 := ⟨(0 : Int), (0 : Int), (0 : Int), (0 : Int), (0 : Int), (0 : Int), (0 : Int), false⟩
def k33 : Kd S33 := Kd.iso (Kd.pair (Kd.int .i64) (Kd.pair (Kd.int .i64) (Kd.pair (Kd.int .i64) (Kd.pair (Kd.int .i64) (Kd.pair (Kd.int .i64) (Kd.pair (Kd.int .i64) (Kd.pair (Kd.int .i64) Kd.bool))))))) (fun x : S33 => (x.f0, x.f1, x.f2, x.f3, x.f4, x.f5, x.f6, x.f7))
theorem k33_open {w : World} {x : S33} {cs : List Value} (h : k33.K w x cs) : cs = [.int .i64 x.f0, .int .i64 x.f1, .int .i64 x.f2, .int .i64 x.f3, .int .i64 x.f4, .int .i64 x.f5, .int .i64 x.f6, .bool x.f7] := by
  obtain ⟨_, _, rfl, rfl, ⟨_, _, rfl, rfl, ⟨_, _, rfl, rfl, ⟨_, _, rfl, rfl, ⟨_, _, rfl, rfl, ⟨_, _, rfl, rfl, ⟨_, _, rfl, rfl, rfl⟩⟩⟩⟩⟩⟩⟩ := h
  exact rfl
theorem k33_openM {w : World} {base : Nat} {ok : Nat → Prop} {x : S33} {cs : List Value} (h : k33.M w base ok x cs) : cs = [.int .i64 x.f0, .int .i64 x.f1, .int .i64 x.f2, .int .i64 x.f3, .int .i64 x.f4, .int .i64 x.f5, .int .i64 x.f6, .bool x.f7] := by
  obtain ⟨_, _, rfl, rfl, ⟨_, _, rfl, rfl, ⟨_, _, rfl, rfl, ⟨_, _, rfl, rfl, ⟨_, _, rfl, rfl, ⟨_, _, rfl, rfl, ⟨_, _, rfl, rfl, rfl⟩⟩⟩⟩⟩⟩⟩ := h
  exact rfl
theorem k33_mk (w : World) (x : S33)  : k33.K w x [.int .i64 x.f0, .int .i64 x.f1, .int .i64 x.f2, .int .i64 x.f3, .int .i64 x.f4, .int .i64 x.f5, .int .i64 x.f6, .bool x.f7] := ⟨[.int .i64 x.f0], [.int .i64 x.f1, .int .i64 x.f2, .int .i64 x.f3, .int .i64 x.f4, .int .i64 x.f5, .int .i64 x.f6, .bool x.f7], rfl, rfl, ⟨[.int .i64 x.f1], [.int .i64 x.f2, .int .i64 x.f3, .int .i64 x.f4, .int .i64 x.f5, .int .i64 x.f6, .bool x.f7], rfl, rfl, ⟨[.int .i64 x.f2], [.int .i64 x.f3, .int .i64 x.f4, .int .i64 x.f5, .int .i64 x.f6, .bool x.f7], rfl, rfl, ⟨[.int .i64 x.f3], [.int .i64 x.f4, .int .i64 x.f5, .int .i64 x.f6, .bool x.f7], rfl, rfl, ⟨[.int .i64 x.f4], [.int .i64 x.f5, .int .i64 x.f6, .bool x.f7], rfl, rfl, ⟨[.int .i64 x.f5], [.int .i64 x.f6, .bool x.f7], rfl, rfl, ⟨[.int .i64 x.f6], [.bool x.f7], rfl, rfl, rfl⟩⟩⟩⟩⟩⟩⟩
theorem k33_mkM (w : World) (base : Nat) (ok : Nat → Prop) (x : S33)  : k33.M w base ok x [.int .i64 x.f0, .int .i64 x.f1, .int .i64 x.f2, .int .i64 x.f3, .int .i64 x.f4, .int .i64 x.f5, .int .i64 x.f6, .bool x.f7] := ⟨[.int .i64 x.f0], [.int .i64 x.f1, .int .i64 x.f2, .int .i64 x.f3, .int .i64 x.f4, .int .i64 x.f5, .int .i64 x.f6, .bool x.f7], rfl, rfl, ⟨[.int .i64 x.f1], [.int .i64 x.f2, .int .i64 x.f3, .int .i64 x.f4, .int .i64 x.f5, .int .i64 x.f6, .bool x.f7], rfl, rfl, ⟨[.int .i64 x.f2], [.int .i64 x.f3, .int .i64 x.f4, .int .i64 x.f5, .int .i64 x.f6, .bool x.f7], rfl, rfl, ⟨[.int .i64 x.f3], [.int .i64 x.f4, .int .i64 x.f5, .int .i64 x.f6, .bool x.f7], rfl, rfl, ⟨[.int .i64 x.f4], [.int .i64 x.f5, .int .i64 x.f6, .bool x.f7], rfl, rfl, ⟨[.int .i64 x.f5], [.int .i64 x.f6, .bool x.f7], rfl, rfl, ⟨[.int .i64 x.f6], [.bool x.f7], rfl, rfl, rfl⟩⟩⟩⟩⟩⟩⟩
def rd_T33 (xs : List S33) (i : Int) : S33 := xs.getD i.toNat z33
theorem at_T33 {w : World} {A : Option Addr} {n : Nat} {xs : List S33} (h : Kd.C k33 w A n xs) (i : Int) (h0 : 0 ≤ i) (h1 : i < n) : ∃ ad , A = some ad ∧ w.cell? (ad.add (i.toNat * 8)) = some (.int .i64 (rd_T33 xs i).f0) ∧ w.cell? ⟨(ad.add (i.toNat * 8)).block, (ad.add (i.toNat * 8)).off + 1, none⟩ = some (.int .i64 (rd_T33 xs i).f1) ∧ w.cell? ⟨(ad.add (i.toNat * 8)).block, (ad.add (i.toNat * 8)).off + 2, none⟩ = some (.int .i64 (rd_T33 xs i).f2) ∧ w.cell? ⟨(ad.add (i.toNat * 8)).block, (ad.add (i.toNat * 8)).off + 3, none⟩ = some (.int .i64 (rd_T33 xs i).f3) ∧ w.cell? ⟨(ad.add (i.toNat * 8)).block, (ad.add (i.toNat * 8)).off + 4, none⟩ = some (.int .i64 (rd_T33 xs i).f4) ∧ w.cell? ⟨(ad.add (i.toNat * 8)).block, (ad.add (i.toNat * 8)).off + 5, none⟩ = some (.int .i64 (rd_T33 xs i).f5) ∧ w.cell? ⟨(ad.add (i.toNat * 8)).block, (ad.add (i.toNat * 8)).off + 6, none⟩ = some (.int .i64 (rd_T33 xs i).f6) ∧ w.cell? ⟨(ad.add (i.toNat * 8)).block, (ad.add (i.toNat * 8)).off + 7, none⟩ = some (.bool (rd_T33 xs i).f7) := by
  obtain ⟨ad, c, e, _, hK, hc0⟩ := Kd.C_get h z33 i h0 h1
  have hc : ∀ j u, c[j]? = some u → w.cell? (ad.add (i.toNat * 8 + j)) = some u := hc0
  obtain rfl := k33_open hK
  exact ⟨ad, e, hc 0 _ rfl, by rw [← add_field _ _ 1 (by omega)]; exact hc 1 _ rfl, by rw [← add_field _ _ 2 (by omega)]; exact hc 2 _ rfl, by rw [← add_field _ _ 3 (by omega)]; exact hc 3 _ rfl, by rw [← add_field _ _ 4 (by omega)]; exact hc 4 _ rfl, by rw [← add_field _ _ 5 (by omega)]; exact hc 5 _ rfl, by rw [← add_field _ _ 6 (by omega)]; exact hc 6 _ rfl, by rw [← add_field _ _ 7 (by omega)]; exact hc 7 _ rfl⟩

def rd_L6 (xs : List (List Int)) (i : Int) : (List Int) := xs.getD i.toNat ([] : List Int)
theorem at_L6 {w : World} {A : Option Addr} {n : Nat} {xs : List (List Int)} (h : Kd.C (Kd.slice 3 (Kd.int .i64)) w A n xs) (i : Int) (h0 : 0 ≤ i) (h1 : i < n) : ∃ ad A0 c0, A = some ad ∧ w.cell? (ad.add i.toNat) = some (.slice A0 (rd_L6 xs i).length c0) ∧ (rd_L6 xs i).length ≤ c0 ∧ (Kd.int .i64).C w A0 (rd_L6 xs i).length (rd_L6 xs i) := by
  obtain ⟨ad, c, e, _, hK, hc0⟩ := Kd.C_get h ([] : List Int) i h0 h1
  have hc : ∀ j u, c[j]? = some u → w.cell? (ad.add (i.toNat * 1 + j)) = some u := hc0
  obtain ⟨A0, c0, rfl, l0, g0⟩ := hK
  exact ⟨ad, A0, c0, e, by have hq := hc 0 _ rfl; rwa [Nat.mul_one, Nat.add_zero] at hq, l0, g0⟩

def rd_L7 (xs : List (List S69)) (i : Int) : (List S69) := xs.getD i.toNat ([] : List S69)
theorem at_L7 {w : World} {A : Option Addr} {n : Nat} {xs : List (List S69)} (h : Kd.C (Kd.slice 69 k69) w A n xs) (i : Int) (h0 : 0 ≤ i) (h1 : i < n) : ∃ ad A0 c0, A = some ad ∧ w.cell? (ad.add i.toNat) = some (.slice A0 (rd_L7 xs i).length c0) ∧ (rd_L7 xs i).length ≤ c0 ∧ k69.C w A0 (rd_L7 xs i).length (rd_L7 xs i) := by
  obtain ⟨ad, c, e, _, hK, hc0⟩ := Kd.C_get h ([] : List S69) i h0 h1
  have hc : ∀ j u, c[j]? = some u → w.cell? (ad.add (i.toNat * 1 + j)) = some u := hc0
  obtain ⟨A0, c0, rfl, l0, g0⟩ := hK
  exact ⟨ad, A0, c0, e, by have hq := hc 0 _ rfl; rwa [Nat.mul_one, Nat.add_zero] at hq, l0, g0⟩

/-! #### struct type 27 -/
structure S27 where
  f0 : (List Int)
  f1 : (List Int)
  f2 : Int
  f3 : Int
  f4 : Int
  f5 : Int
  f6 : (List S69)
def z27 : S27 := ⟨([] : List Int), ([] : List Int), (0 : Int), (0 : Int), (0 : Int), (0 : Int), ([] : List S69)⟩
def k27 : Kd S27 := Kd.iso (Kd.pair (Kd.slice 3 (Kd.int .i64)) (Kd.pair (Kd.slice 3 (Kd.int .i64)) (Kd.pair (Kd.int .i64) (Kd.pair (Kd.int .i64) (Kd.pair (Kd.int .i64) (Kd.pair (Kd.int .i64) (Kd.slice 69 k69))))))) (fun x : S27 => (x.f0, x.f1, x.f2, x.f3, x.f4, x.f5, x.f6))
theorem k27_open {w : World} {x : S27} {cs : List Value} (h : k27.K w x cs) : ∃ A0 c0 A1 c1 A6 c6, cs = [.slice A0 x.f0.length c0, .slice A1 x.f1.length c1, .int .i64 x.f2, .int .i64 x.f3, .int .i64 x.f4, .int .i64 x.f5, .slice A6 x.f6.length c6] ∧ x.f0.length ≤ c0 ∧ (Kd.int .i64).C w A0 x.f0.length x.f0 ∧ x.f1.length ≤ c1 ∧ (Kd.int .i64).C w A1 x.f1.length x.f1 ∧ x.f6.length ≤ c6 ∧ k69.C w A6 x.f6.length x.f6 := by
  obtain ⟨_, _, rfl, ⟨A0, c0, rfl, l0, g0⟩, ⟨_, _, rfl, ⟨A1, c1, rfl, l1, g1⟩, ⟨_, _, rfl, rfl, ⟨_, _, rfl, rfl, ⟨_, _, rfl, rfl, ⟨_, _, rfl, rfl, ⟨A6, c6, rfl, l6, g6⟩⟩⟩⟩⟩⟩⟩ := h
  exact ⟨A0, c0, A1, c1, A6, c6, rfl, l0, g0, l1, g1, l6, g6⟩
theorem k27_openM {w : World} {base : Nat} {ok : Nat → Prop} {x : S27} {cs : List Value} (h : k27.M w base ok x cs) : ∃ v0 v1 v6, cs = [v0, v1, .int .i64 x.f2, .int .i64 x.f3, .int .i64 x.f4, .int .i64 x.f5, v6] ∧ (Kd.int .i64).R 3 w base ok v0 x.f0 ∧ (Kd.int .i64).R 3 w base ok v1 x.f1 ∧ k69.R 69 w base ok v6 x.f6 := by
  obtain ⟨_, _, rfl, ⟨v0, rfl, g0⟩, ⟨_, _, rfl, ⟨v1, rfl, g1⟩, ⟨_, _, rfl, rfl, ⟨_, _, rfl, rfl, ⟨_, _, rfl, rfl, ⟨_, _, rfl, rfl, ⟨v6, rfl, g6⟩⟩⟩⟩⟩⟩⟩ := h
  exact ⟨v0, v1, v6, rfl, g0, g1, g6⟩
theorem k27_mk (w : World) (x : S27) {A0 : Option Addr} {c0 : Nat} (l0 : x.f0.length ≤ c0) (g0 : (Kd.int .i64).C w A0 x.f0.length x.f0) {A1 : Option Addr} {c1 : Nat} (l1 : x.f1.length ≤ c1) (g1 : (Kd.int .i64).C w A1 x.f1.length x.f1) {A6 : Option Addr} {c6 : Nat} (l6 : x.f6.length ≤ c6) (g6 : k69.C w A6 x.f6.length x.f6) : k27.K w x [.slice A0 x.f0.length c0, .slice A1 x.f1.length c1, .int .i64 x.f2, .int .i64 x.f3, .int .i64 x.f4, .int .i64 x.f5, .slice A6 x.f6.length c6] := ⟨[.slice A0 x.f0.length c0], [.slice A1 x.f1.length c1, .int .i64 x.f2, .int .i64 x.f3, .int .i64 x.f4, .int .i64 x.f5, .slice A6 x.f6.length c6], rfl, ⟨A0, c0, rfl, l0, g0⟩, ⟨[.slice A1 x.f1.length c1], [.int .i64 x.f2, .int .i64 x.f3, .int .i64 x.f4, .int .i64 x.f5, .slice A6 x.f6.length c6], rfl, ⟨A1, c1, rfl, l1, g1⟩, ⟨[.int .i64 x.f2], [.int .i64 x.f3, .int .i64 x.f4, .int .i64 x.f5, .slice A6 x.f6.length c6], rfl, rfl, ⟨[.int .i64 x.f3], [.int .i64 x.f4, .int .i64 x.f5, .slice A6 x.f6.length c6], rfl, rfl, ⟨[.int .i64 x.f4], [.int .i64 x.f5, .slice A6 x.f6.length c6], rfl, rfl, ⟨[.int .i64 x.f5], [.slice A6 x.f6.length c6], rfl, rfl, ⟨A6, c6, rfl, l6, g6⟩⟩⟩⟩⟩⟩⟩
theorem k27_mkM (w : World) (base : Nat) (ok : Nat → Prop) (x : S27) {v0 : Value} (g0 : (Kd.int .i64).R 3 w base ok v0 x.f0) {v1 : Value} (g1 : (Kd.int .i64).R 3 w base ok v1 x.f1) {v6 : Value} (g6 : k69.R 69 w base ok v6 x.f6) : k27.M w base ok x [v0, v1, .int .i64 x.f2, .int .i64 x.f3, .int .i64 x.f4, .int .i64 x.f5, v6] := ⟨[v0], [v1, .int .i64 x.f2, .int .i64 x.f3, .int .i64 x.f4, .int .i64 x.f5, v6], rfl, ⟨v0, rfl, g0⟩, ⟨[v1], [.int .i64 x.f2, .int .i64 x.f3, .int .i64 x.f4, .int .i64 x.f5, v6], rfl, ⟨v1, rfl, g1⟩, ⟨[.int .i64 x.f2], [.int .i64 x.f3, .int .i64 x.f4, .int .i64 x.f5, v6], rfl, rfl, ⟨[.int .i64 x.f3], [.int .i64 x.f4, .int .i64 x.f5, v6], rfl, rfl, ⟨[.int .i64 x.f4], [.int .i64 x.f5, v6], rfl, rfl, ⟨[.int .i64 x.f5], [v6], rfl, rfl, ⟨v6, rfl, g6⟩⟩⟩⟩⟩⟩⟩
def rd_T27 (xs : List S27) (i : Int) : S27 := xs.getD i.toNat z27
theorem at_T27 {w : World} {A : Option Addr} {n : Nat} {xs : List S27} (h : Kd.C k27 w A n xs) (i : Int) (h0 : 0 ≤ i) (h1 : i < n) : ∃ ad A0 c0 A1 c1 A6 c6, A = some ad ∧ w.cell? (ad.add (i.toNat * 7)) = some (.slice A0 (rd_T27 xs i).f0.length c0) ∧ w.cell? ⟨(ad.add (i.toNat * 7)).block, (ad.add (i.toNat * 7)).off + 1, none⟩ = some (.slice A1 (rd_T27 xs i).f1.length c1) ∧ w.cell? ⟨(ad.add (i.toNat * 7)).block, (ad.add (i.toNat * 7)).off + 2, none⟩ = some (.int .i64 (rd_T27 xs i).f2) ∧ w.cell? ⟨(ad.add (i.toNat * 7)).block, (ad.add (i.toNat * 7)).off + 3, none⟩ = some (.int .i64 (rd_T27 xs i).f3) ∧ w.cell? ⟨(ad.add (i.toNat * 7)).block, (ad.add (i.toNat * 7)).off + 4, none⟩ = some (.int .i64 (rd_T27 xs i).f4) ∧ w.cell? ⟨(ad.add (i.toNat * 7)).block, (ad.add (i.toNat * 7)).off + 5, none⟩ = some (.int .i64 (rd_T27 xs i).f5) ∧ w.cell? ⟨(ad.add (i.toNat * 7)).block, (ad.add (i.toNat * 7)).off + 6, none⟩ = some (.slice A6 (rd_T27 xs i).f6.length c6) ∧ (rd_T27 xs i).f0.length ≤ c0 ∧ (Kd.int .i64).C w A0 (rd_T27 xs i).f0.length (rd_T27 xs i).f0 ∧ (rd_T27 xs i).f1.length ≤ c1 ∧ (Kd.int .i64).C w A1 (rd_T27 xs i).f1.length (rd_T27 xs i).f1 ∧ (rd_T27 xs i).f6.length ≤ c6 ∧ k69.C w A6 (rd_T27 xs i).f6.length (rd_T27 xs i).f6 := by
  obtain ⟨ad, c, e, _, hK, hc0⟩ := Kd.C_get h z27 i h0 h1
  have hc : ∀ j u, c[j]? = some u → w.cell? (ad.add (i.toNat * 7 + j)) = some u := hc0
  obtain ⟨A0, c0, A1, c1, A6, c6, rfl, l0, g0, l1, g1, l6, g6⟩ := k27_open hK
  exact ⟨ad, A0, c0, A1, c1, A6, c6, e, hc 0 _ rfl, by rw [← add_field _ _ 1 (by omega)]; exact hc 1 _ rfl, by rw [← add_field _ _ 2 (by omega)]; exact hc 2 _ rfl, by rw [← add_field _ _ 3 (by omega)]; exact hc 3 _ rfl, by rw [← add_field _ _ 4 (by omega)]; exact hc 4 _ rfl, by rw [← add_field _ _ 5 (by omega)]; exact hc 5 _ rfl, by rw [← add_field _ _ 6 (by omega)]; exact hc 6 _ rfl, l0, g0, l1, g1, l6, g6⟩

def wT54 (x : S54) : Prop := wStr x.f0 ∧ (wInt .i64) x.f1 ∧ (wInt .i64) x.f2 ∧ (wInt .i64) x.f3 ∧ (wInt .i64) x.f4 ∧ (wInt .i64) x.f5 ∧ (wInt .i64) x.f6 ∧ (wInt .i64) x.f7 ∧ (wInt .i64) x.f8 ∧ (wInt .i64) x.f9 ∧ (wInt .i64) x.f10 ∧ (wInt .i64) x.f11 ∧ (wInt .i64) x.f12 ∧ wBool x.f13
theorem opens_T54 : Opens Try.prog 54 k54 wT54 := by
  intro H enc W fuel cs x h
  obtain ⟨xs, m, rfl, _, hl, hn, hx⟩ := DataW.trod_struct Try.underlying54 h
  have hl2 : cs.length = 14 := hl.trans (by kernel_rfl)
  have hn2 : xs.length = 14 := hn
  obtain ⟨y0, K00, w0⟩ := (opens_string Try.underlying9) ((hx 0 _ rfl).trans (List.getElem?_eq_getElem (by omega)))
  have K0 : Kd.string.K W y0 ((cs.drop 0).take 1) := Eq.mp (congrArg (fun n_ => Kd.string.K W y0 ((cs.drop 0).take n_)) (by kernel_rfl : Try.prog.cellsOf 9 = 1)) K00
  clear K00
  obtain ⟨y1, K10, w1⟩ := (opens_int Try.underlying3) ((hx 1 _ rfl).trans (List.getElem?_eq_getElem (by omega)))
  have K1 : (Kd.int .i64).K W y1 ((cs.drop 1).take 1) := Eq.mp (congrArg (fun n_ => (Kd.int .i64).K W y1 ((cs.drop 1).take n_)) (by kernel_rfl : Try.prog.cellsOf 3 = 1)) K10
  clear K10
  obtain ⟨y2, K20, w2⟩ := (opens_int Try.underlying3) ((hx 2 _ rfl).trans (List.getElem?_eq_getElem (by omega)))
  have K2 : (Kd.int .i64).K W y2 ((cs.drop 2).take 1) := Eq.mp (congrArg (fun n_ => (Kd.int .i64).K W y2 ((cs.drop 2).take n_)) (by kernel_rfl : Try.prog.cellsOf 3 = 1)) K20
  clear K20
  obtain ⟨y3, K30, w3⟩ := (opens_int Try.underlying3) ((hx 3 _ rfl).trans (List.getElem?_eq_getElem (by omega)))
  have K3 : (Kd.int .i64).K W y3 ((cs.drop 3).take 1) := Eq.mp (congrArg (fun n_ => (Kd.int .i64).K W y3 ((cs.drop 3).take n_)) (by kernel_rfl : Try.prog.cellsOf 3 = 1)) K30
  clear K30
  obtain ⟨y4, K40, w4⟩ := (opens_int Try.underlying3) ((hx 4 _ rfl).trans (List.getElem?_eq_getElem (by omega)))
  have K4 : (Kd.int .i64).K W y4 ((cs.drop 4).take 1) := Eq.mp (congrArg (fun n_ => (Kd.int .i64).K W y4 ((cs.drop 4).take n_)) (by kernel_rfl : Try.prog.cellsOf 3 = 1)) K40
  clear K40
  obtain ⟨y5, K50, w5⟩ := (opens_int Try.underlying3) ((hx 5 _ rfl).trans (List.getElem?_eq_getElem (by omega)))
  have K5 : (Kd.int .i64).K W y5 ((cs.drop 5).take 1) := Eq.mp (congrArg (fun n_ => (Kd.int .i64).K W y5 ((cs.drop 5).take n_)) (by kernel_rfl : Try.prog.cellsOf 3 = 1)) K50
  clear K50
  obtain ⟨y6, K60, w6⟩ := (opens_int Try.underlying3) ((hx 6 _ rfl).trans (List.getElem?_eq_getElem (by omega)))
  have K6 : (Kd.int .i64).K W y6 ((cs.drop 6).take 1) := Eq.mp (congrArg (fun n_ => (Kd.int .i64).K W y6 ((cs.drop 6).take n_)) (by kernel_rfl : Try.prog.cellsOf 3 = 1)) K60
  clear K60
  obtain ⟨y7, K70, w7⟩ := (opens_int Try.underlying3) ((hx 7 _ rfl).trans (List.getElem?_eq_getElem (by omega)))
  have K7 : (Kd.int .i64).K W y7 ((cs.drop 7).take 1) := Eq.mp (congrArg (fun n_ => (Kd.int .i64).K W y7 ((cs.drop 7).take n_)) (by kernel_rfl : Try.prog.cellsOf 3 = 1)) K70
  clear K70
  obtain ⟨y8, K80, w8⟩ := (opens_int Try.underlying3) ((hx 8 _ rfl).trans (List.getElem?_eq_getElem (by omega)))
  have K8 : (Kd.int .i64).K W y8 ((cs.drop 8).take 1) := Eq.mp (congrArg (fun n_ => (Kd.int .i64).K W y8 ((cs.drop 8).take n_)) (by kernel_rfl : Try.prog.cellsOf 3 = 1)) K80
  clear K80
  obtain ⟨y9, K90, w9⟩ := (opens_int Try.underlying3) ((hx 9 _ rfl).trans (List.getElem?_eq_getElem (by omega)))
  have K9 : (Kd.int .i64).K W y9 ((cs.drop 9).take 1) := Eq.mp (congrArg (fun n_ => (Kd.int .i64).K W y9 ((cs.drop 9).take n_)) (by kernel_rfl : Try.prog.cellsOf 3 = 1)) K90
  clear K90
  obtain ⟨y10, K100, w10⟩ := (opens_int Try.underlying3) ((hx 10 _ rfl).trans (List.getElem?_eq_getElem (by omega)))
  have K10 : (Kd.int .i64).K W y10 ((cs.drop 10).take 1) := Eq.mp (congrArg (fun n_ => (Kd.int .i64).K W y10 ((cs.drop 10).take n_)) (by kernel_rfl : Try.prog.cellsOf 3 = 1)) K100
  clear K100
  obtain ⟨y11, K110, w11⟩ := (opens_int Try.underlying3) ((hx 11 _ rfl).trans (List.getElem?_eq_getElem (by omega)))
  have K11 : (Kd.int .i64).K W y11 ((cs.drop 11).take 1) := Eq.mp (congrArg (fun n_ => (Kd.int .i64).K W y11 ((cs.drop 11).take n_)) (by kernel_rfl : Try.prog.cellsOf 3 = 1)) K110
  clear K110
  obtain ⟨y12, K120, w12⟩ := (opens_int Try.underlying3) ((hx 12 _ rfl).trans (List.getElem?_eq_getElem (by omega)))
  have K12 : (Kd.int .i64).K W y12 ((cs.drop 12).take 1) := Eq.mp (congrArg (fun n_ => (Kd.int .i64).K W y12 ((cs.drop 12).take n_)) (by kernel_rfl : Try.prog.cellsOf 3 = 1)) K120
  clear K120
  obtain ⟨y13, K130, w13⟩ := (opens_bool Try.underlying4) ((hx 13 _ rfl).trans (List.getElem?_eq_getElem (by omega)))
  have K13 : Kd.bool.K W y13 ((cs.drop 13).take 1) := Eq.mp (congrArg (fun n_ => Kd.bool.K W y13 ((cs.drop 13).take n_)) (by kernel_rfl : Try.prog.cellsOf 4 = 1)) K130
  clear K130
  refine ⟨⟨y0, y1, y2, y3, y4, y5, y6, y7, y8, y9, y10, y11, y12, y13⟩, ?_, w0, w1, w2, w3, w4, w5, w6, w7, w8, w9, w10, w11, w12, w13⟩
  show (Kd.pair Kd.string (Kd.pair (Kd.int .i64) (Kd.pair (Kd.int .i64) (Kd.pair (Kd.int .i64) (Kd.pair (Kd.int .i64) (Kd.pair (Kd.int .i64) (Kd.pair (Kd.int .i64) (Kd.pair (Kd.int .i64) (Kd.pair (Kd.int .i64) (Kd.pair (Kd.int .i64) (Kd.pair (Kd.int .i64) (Kd.pair (Kd.int .i64) (Kd.pair (Kd.int .i64) Kd.bool))))))))))))).K W (y0, (y1, (y2, (y3, (y4, (y5, (y6, (y7, (y8, (y9, (y10, (y11, (y12, y13))))))))))))) cs
  exact (pair_cut 1 (by first | exact K0 | (simpa [List.drop_drop] using K0) | (have h_ := K0; rw [List.take_of_length_le (by simp; omega)] at h_; simpa [List.drop_drop] using h_)) (pair_cut 1 (by first | exact K1 | (simpa [List.drop_drop] using K1) | (have h_ := K1; rw [List.take_of_length_le (by simp; omega)] at h_; simpa [List.drop_drop] using h_)) (pair_cut 1 (by first | exact K2 | (simpa [List.drop_drop] using K2) | (have h_ := K2; rw [List.take_of_length_le (by simp; omega)] at h_; simpa [List.drop_drop] using h_)) (pair_cut 1 (by first | exact K3 | (simpa [List.drop_drop] using K3) | (have h_ := K3; rw [List.take_of_length_le (by simp; omega)] at h_; simpa [List.drop_drop] using h_)) (pair_cut 1 (by first | exact K4 | (simpa [List.drop_drop] using K4) | (have h_ := K4; rw [List.take_of_length_le (by simp; omega)] at h_; simpa [List.drop_drop] using h_)) (pair_cut 1 (by first | exact K5 | (simpa [List.drop_drop] using K5) | (have h_ := K5; rw [List.take_of_length_le (by simp; omega)] at h_; simpa [List.drop_drop] using h_)) (pair_cut 1 (by first | exact K6 | (simpa [List.drop_drop] using K6) | (have h_ := K6; rw [List.take_of_length_le (by simp; omega)] at h_; simpa [List.drop_drop] using h_)) (pair_cut 1 (by first | exact K7 | (simpa [List.drop_drop] using K7) | (have h_ := K7; rw [List.take_of_length_le (by simp; omega)] at h_; simpa [List.drop_drop] using h_)) (pair_cut 1 (by first | exact K8 | (simpa [List.drop_drop] using K8) | (have h_ := K8; rw [List.take_of_length_le (by simp; omega)] at h_; simpa [List.drop_drop] using h_)) (pair_cut 1 (by first | exact K9 | (simpa [List.drop_drop] using K9) | (have h_ := K9; rw [List.take_of_length_le (by simp; omega)] at h_; simpa [List.drop_drop] using h_)) (pair_cut 1 (by first | exact K10 | (simpa [List.drop_drop] using K10) | (have h_ := K10; rw [List.take_of_length_le (by simp; omega)] at h_; simpa [List.drop_drop] using h_)) (pair_cut 1 (by first | exact K11 | (simpa [List.drop_drop] using K11) | (have h_ := K11; rw [List.take_of_length_le (by simp; omega)] at h_; simpa [List.drop_drop] using h_)) (pair_cut 1 (by first | exact K12 | (simpa [List.drop_drop] using K12) | (have h_ := K12; rw [List.take_of_length_le (by simp; omega)] at h_; simpa [List.drop_drop] using h_)) (by first | exact K13 | (simpa [List.drop_drop] using K13) | (have h_ := K13; rw [List.take_of_length_le (by simp; omega)] at h_; simpa [List.drop_drop] using h_)))))))))))))))
def wT33 (x : S33) : Prop := (wInt .i64) x.f0 ∧ (wInt .i64) x.f1 ∧ (wInt .i64) x.f2 ∧ (wInt .i64) x.f3 ∧ (wInt .i64) x.f4 ∧ (wInt .i64) x.f5 ∧ (wInt .i64) x.f6 ∧ wBool x.f7
theorem opens_T33 : Opens Try.prog 33 k33 wT33 := by
  intro H enc W fuel cs x h
  obtain ⟨xs, m, rfl, _, hl, hn, hx⟩ := DataW.trod_struct Try.underlying33 h
  have hl2 : cs.length = 8 := hl.trans (by kernel_rfl)
  have hn2 : xs.length = 8 := hn
  obtain ⟨y0, K00, w0⟩ := (opens_int Try.underlying3) ((hx 0 _ rfl).trans (List.getElem?_eq_getElem (by omega)))
  have K0 : (Kd.int .i64).K W y0 ((cs.drop 0).take 1) := Eq.mp (congrArg (fun n_ => (Kd.int .i64).K W y0 ((cs.drop 0).take n_)) (by kernel_rfl : Try.prog.cellsOf 3 = 1)) K00
  clear K00
  obtain ⟨y1, K10, w1⟩ := (opens_int Try.underlying3) ((hx 1 _ rfl).trans (List.getElem?_eq_getElem (by omega)))
  have K1 : (Kd.int .i64).K W y1 ((cs.drop 1).take 1) := Eq.mp (congrArg (fun n_ => (Kd.int .i64).K W y1 ((cs.drop 1).take n_)) (by kernel_rfl : Try.prog.cellsOf 3 = 1)) K10
  clear K10
  obtain ⟨y2, K20, w2⟩ := (opens_int Try.underlying3) ((hx 2 _ rfl).trans (List.getElem?_eq_getElem (by omega)))
  have K2 : (Kd.int .i64).K W y2 ((cs.drop 2).take 1) := Eq.mp (congrArg (fun n_ => (Kd.int .i64).K W y2 ((cs.drop 2).take n_)) (by kernel_rfl : Try.prog.cellsOf 3 = 1)) K20
  clear K20
  obtain ⟨y3, K30, w3⟩ := (opens_int Try.underlying3) ((hx 3 _ rfl).trans (List.getElem?_eq_getElem (by omega)))
  have K3 : (Kd.int .i64).K W y3 ((cs.drop 3).take 1) := Eq.mp (congrArg (fun n_ => (Kd.int .i64).K W y3 ((cs.drop 3).take n_)) (by kernel_rfl : Try.prog.cellsOf 3 = 1)) K30
  clear K30
  obtain ⟨y4, K40, w4⟩ := (opens_int Try.underlying3) ((hx 4 _ rfl).trans (List.getElem?_eq_getElem (by omega)))
  have K4 : (Kd.int .i64).K W y4 ((cs.drop 4).take 1) := Eq.mp (congrArg (fun n_ => (Kd.int .i64).K W y4 ((cs.drop 4).take n_)) (by kernel_rfl : Try.prog.cellsOf 3 = 1)) K40
  clear K40
  obtain ⟨y5, K50, w5⟩ := (opens_int Try.underlying3) ((hx 5 _ rfl).trans (List.getElem?_eq_getElem (by omega)))
  have K5 : (Kd.int .i64).K W y5 ((cs.drop 5).take 1) := Eq.mp (congrArg (fun n_ => (Kd.int .i64).K W y5 ((cs.drop 5).take n_)) (by kernel_rfl : Try.prog.cellsOf 3 = 1)) K50
  clear K50
  obtain ⟨y6, K60, w6⟩ := (opens_int Try.underlying3) ((hx 6 _ rfl).trans (List.getElem?_eq_getElem (by omega)))
  have K6 : (Kd.int .i64).K W y6 ((cs.drop 6).take 1) := Eq.mp (congrArg (fun n_ => (Kd.int .i64).K W y6 ((cs.drop 6).take n_)) (by kernel_rfl : Try.prog.cellsOf 3 = 1)) K60
  clear K60
  obtain ⟨y7, K70, w7⟩ := (opens_bool Try.underlying4) ((hx 7 _ rfl).trans (List.getElem?_eq_getElem (by omega)))
  have K7 : Kd.bool.K W y7 ((cs.drop 7).take 1) := Eq.mp (congrArg (fun n_ => Kd.bool.K W y7 ((cs.drop 7).take n_)) (by kernel_rfl : Try.prog.cellsOf 4 = 1)) K70
  clear K70
  refine ⟨⟨y0, y1, y2, y3, y4, y5, y6, y7⟩, ?_, w0, w1, w2, w3, w4, w5, w6, w7⟩
  show (Kd.pair (Kd.int .i64) (Kd.pair (Kd.int .i64) (Kd.pair (Kd.int .i64) (Kd.pair (Kd.int .i64) (Kd.pair (Kd.int .i64) (Kd.pair (Kd.int .i64) (Kd.pair (Kd.int .i64) Kd.bool))))))).K W (y0, (y1, (y2, (y3, (y4, (y5, (y6, y7))))))) cs
  exact (pair_cut 1 (by first | exact K0 | (simpa [List.drop_drop] using K0) | (have h_ := K0; rw [List.take_of_length_le (by simp; omega)] at h_; simpa [List.drop_drop] using h_)) (pair_cut 1 (by first | exact K1 | (simpa [List.drop_drop] using K1) | (have h_ := K1; rw [List.take_of_length_le (by simp; omega)] at h_; simpa [List.drop_drop] using h_)) (pair_cut 1 (by first | exact K2 | (simpa [List.drop_drop] using K2) | (have h_ := K2; rw [List.take_of_length_le (by simp; omega)] at h_; simpa [List.drop_drop] using h_)) (pair_cut 1 (by first | exact K3 | (simpa [List.drop_drop] using K3) | (have h_ := K3; rw [List.take_of_length_le (by simp; omega)] at h_; simpa [List.drop_drop] using h_)) (pair_cut 1 (by first | exact K4 | (simpa [List.drop_drop] using K4) | (have h_ := K4; rw [List.take_of_length_le (by simp; omega)] at h_; simpa [List.drop_drop] using h_)) (pair_cut 1 (by first | exact K5 | (simpa [List.drop_drop] using K5) | (have h_ := K5; rw [List.take_of_length_le (by simp; omega)] at h_; simpa [List.drop_drop] using h_)) (pair_cut 1 (by first | exact K6 | (simpa [List.drop_drop] using K6) | (have h_ := K6; rw [List.take_of_length_le (by simp; omega)] at h_; simpa [List.drop_drop] using h_)) (by first | exact K7 | (simpa [List.drop_drop] using K7) | (have h_ := K7; rw [List.take_of_length_le (by simp; omega)] at h_; simpa [List.drop_drop] using h_)))))))))
def wT69 (x : S69) : Prop := (wInt .i64) x.f0 ∧ (wInt .i64) x.f1 ∧ (wInt .i64) x.f2 ∧ (wInt .i64) x.f3 ∧ (wInt .i64) x.f4 ∧ (wInt .i64) x.f5
theorem opens_T69 : Opens Try.prog 69 k69 wT69 := by
  intro H enc W fuel cs x h
  obtain ⟨xs, m, rfl, _, hl, hn, hx⟩ := DataW.trod_struct Try.underlying69 h
  have hl2 : cs.length = 6 := hl.trans (by kernel_rfl)
  have hn2 : xs.length = 6 := hn
  obtain ⟨y0, K00, w0⟩ := (opens_int Try.underlying3) ((hx 0 _ rfl).trans (List.getElem?_eq_getElem (by omega)))
  have K0 : (Kd.int .i64).K W y0 ((cs.drop 0).take 1) := Eq.mp (congrArg (fun n_ => (Kd.int .i64).K W y0 ((cs.drop 0).take n_)) (by kernel_rfl : Try.prog.cellsOf 3 = 1)) K00
  clear K00
  obtain ⟨y1, K10, w1⟩ := (opens_int Try.underlying3) ((hx 1 _ rfl).trans (List.getElem?_eq_getElem (by omega)))
  have K1 : (Kd.int .i64).K W y1 ((cs.drop 1).take 1) := Eq.mp (congrArg (fun n_ => (Kd.int .i64).K W y1 ((cs.drop 1).take n_)) (by kernel_rfl : Try.prog.cellsOf 3 = 1)) K10
  clear K10
  obtain ⟨y2, K20, w2⟩ := (opens_int Try.underlying3) ((hx 2 _ rfl).trans (List.getElem?_eq_getElem (by omega)))
  have K2 : (Kd.int .i64).K W y2 ((cs.drop 2).take 1) := Eq.mp (congrArg (fun n_ => (Kd.int .i64).K W y2 ((cs.drop 2).take n_)) (by kernel_rfl : Try.prog.cellsOf 3 = 1)) K20
  clear K20
  obtain ⟨y3, K30, w3⟩ := (opens_int Try.underlying3) ((hx 3 _ rfl).trans (List.getElem?_eq_getElem (by omega)))
  have K3 : (Kd.int .i64).K W y3 ((cs.drop 3).take 1) := Eq.mp (congrArg (fun n_ => (Kd.int .i64).K W y3 ((cs.drop 3).take n_)) (by kernel_rfl : Try.prog.cellsOf 3 = 1)) K30
  clear K30
  obtain ⟨y4, K40, w4⟩ := (opens_int Try.underlying3) ((hx 4 _ rfl).trans (List.getElem?_eq_getElem (by omega)))
  have K4 : (Kd.int .i64).K W y4 ((cs.drop 4).take 1) := Eq.mp (congrArg (fun n_ => (Kd.int .i64).K W y4 ((cs.drop 4).take n_)) (by kernel_rfl : Try.prog.cellsOf 3 = 1)) K40
  clear K40
  obtain ⟨y5, K50, w5⟩ := (opens_int Try.underlying3) ((hx 5 _ rfl).trans (List.getElem?_eq_getElem (by omega)))
  have K5 : (Kd.int .i64).K W y5 ((cs.drop 5).take 1) := Eq.mp (congrArg (fun n_ => (Kd.int .i64).K W y5 ((cs.drop 5).take n_)) (by kernel_rfl : Try.prog.cellsOf 3 = 1)) K50
  clear K50
  refine ⟨⟨y0, y1, y2, y3, y4, y5⟩, ?_, w0, w1, w2, w3, w4, w5⟩
  show (Kd.pair (Kd.int .i64) (Kd.pair (Kd.int .i64) (Kd.pair (Kd.int .i64) (Kd.pair (Kd.int .i64) (Kd.pair (Kd.int .i64) (Kd.int .i64)))))).K W (y0, (y1, (y2, (y3, (y4, y5))))) cs
  exact (pair_cut 1 (by first | exact K0 | (simpa [List.drop_drop] using K0) | (have h_ := K0; rw [List.take_of_length_le (by simp; omega)] at h_; simpa [List.drop_drop] using h_)) (pair_cut 1 (by first | exact K1 | (simpa [List.drop_drop] using K1) | (have h_ := K1; rw [List.take_of_length_le (by simp; omega)] at h_; simpa [List.drop_drop] using h_)) (pair_cut 1 (by first | exact K2 | (simpa [List.drop_drop] using K2) | (have h_ := K2; rw [List.take_of_length_le (by simp; omega)] at h_; simpa [List.drop_drop] using h_)) (pair_cut 1 (by first | exact K3 | (simpa [List.drop_drop] using K3) | (have h_ := K3; rw [List.take_of_length_le (by simp; omega)] at h_; simpa [List.drop_drop] using h_)) (pair_cut 1 (by first | exact K4 | (simpa [List.drop_drop] using K4) | (have h_ := K4; rw [List.take_of_length_le (by simp; omega)] at h_; simpa [List.drop_drop] using h_)) (by first | exact K5 | (simpa [List.drop_drop] using K5) | (have h_ := K5; rw [List.take_of_length_le (by simp; omega)] at h_; simpa [List.drop_drop] using h_)))))))
def wT27 (x : S27) : Prop := (wRow (wInt .i64)) x.f0 ∧ (wRow (wInt .i64)) x.f1 ∧ (wInt .i64) x.f2 ∧ (wInt .i64) x.f3 ∧ (wInt .i64) x.f4 ∧ (wInt .i64) x.f5 ∧ (wRow wT69) x.f6
theorem opens_T27 : Opens Try.prog 27 k27 wT27 := by
  intro H enc W fuel cs x h
  obtain ⟨xs, m, rfl, _, hl, hn, hx⟩ := DataW.trod_struct Try.underlying27 h
  have hl2 : cs.length = 7 := hl.trans (by kernel_rfl)
  have hn2 : xs.length = 7 := hn
  obtain ⟨y0, K00, w0⟩ := (opens_slice Try.underlying24 (by kernel_rfl) (opens_int Try.underlying3)) ((hx 0 _ rfl).trans (List.getElem?_eq_getElem (by omega)))
  have K0 : (Kd.slice 3 (Kd.int .i64)).K W y0 ((cs.drop 0).take 1) := Eq.mp (congrArg (fun n_ => (Kd.slice 3 (Kd.int .i64)).K W y0 ((cs.drop 0).take n_)) (by kernel_rfl : Try.prog.cellsOf 24 = 1)) K00
  clear K00
  obtain ⟨y1, K10, w1⟩ := (opens_slice Try.underlying24 (by kernel_rfl) (opens_int Try.underlying3)) ((hx 1 _ rfl).trans (List.getElem?_eq_getElem (by omega)))
  have K1 : (Kd.slice 3 (Kd.int .i64)).K W y1 ((cs.drop 1).take 1) := Eq.mp (congrArg (fun n_ => (Kd.slice 3 (Kd.int .i64)).K W y1 ((cs.drop 1).take n_)) (by kernel_rfl : Try.prog.cellsOf 24 = 1)) K10
  clear K10
  obtain ⟨y2, K20, w2⟩ := (opens_int Try.underlying3) ((hx 2 _ rfl).trans (List.getElem?_eq_getElem (by omega)))
  have K2 : (Kd.int .i64).K W y2 ((cs.drop 2).take 1) := Eq.mp (congrArg (fun n_ => (Kd.int .i64).K W y2 ((cs.drop 2).take n_)) (by kernel_rfl : Try.prog.cellsOf 3 = 1)) K20
  clear K20
  obtain ⟨y3, K30, w3⟩ := (opens_int Try.underlying3) ((hx 3 _ rfl).trans (List.getElem?_eq_getElem (by omega)))
  have K3 : (Kd.int .i64).K W y3 ((cs.drop 3).take 1) := Eq.mp (congrArg (fun n_ => (Kd.int .i64).K W y3 ((cs.drop 3).take n_)) (by kernel_rfl : Try.prog.cellsOf 3 = 1)) K30
  clear K30
  obtain ⟨y4, K40, w4⟩ := (opens_int Try.underlying3) ((hx 4 _ rfl).trans (List.getElem?_eq_getElem (by omega)))
  have K4 : (Kd.int .i64).K W y4 ((cs.drop 4).take 1) := Eq.mp (congrArg (fun n_ => (Kd.int .i64).K W y4 ((cs.drop 4).take n_)) (by kernel_rfl : Try.prog.cellsOf 3 = 1)) K40
  clear K40
  obtain ⟨y5, K50, w5⟩ := (opens_int Try.underlying3) ((hx 5 _ rfl).trans (List.getElem?_eq_getElem (by omega)))
  have K5 : (Kd.int .i64).K W y5 ((cs.drop 5).take 1) := Eq.mp (congrArg (fun n_ => (Kd.int .i64).K W y5 ((cs.drop 5).take n_)) (by kernel_rfl : Try.prog.cellsOf 3 = 1)) K50
  clear K50
  obtain ⟨y6, K60, w6⟩ := (opens_slice Try.underlying25 (by kernel_rfl) opens_T69) ((hx 6 _ rfl).trans (List.getElem?_eq_getElem (by omega)))
  have K6 : (Kd.slice 69 k69).K W y6 ((cs.drop 6).take 1) := Eq.mp (congrArg (fun n_ => (Kd.slice 69 k69).K W y6 ((cs.drop 6).take n_)) (by kernel_rfl : Try.prog.cellsOf 25 = 1)) K60
  clear K60
  refine ⟨⟨y0, y1, y2, y3, y4, y5, y6⟩, ?_, w0, w1, w2, w3, w4, w5, w6⟩
  show (Kd.pair (Kd.slice 3 (Kd.int .i64)) (Kd.pair (Kd.slice 3 (Kd.int .i64)) (Kd.pair (Kd.int .i64) (Kd.pair (Kd.int .i64) (Kd.pair (Kd.int .i64) (Kd.pair (Kd.int .i64) (Kd.slice 69 k69))))))).K W (y0, (y1, (y2, (y3, (y4, (y5, y6)))))) cs
  exact (pair_cut 1 (by first | exact K0 | (simpa [List.drop_drop] using K0) | (have h_ := K0; rw [List.take_of_length_le (by simp; omega)] at h_; simpa [List.drop_drop] using h_)) (pair_cut 1 (by first | exact K1 | (simpa [List.drop_drop] using K1) | (have h_ := K1; rw [List.take_of_length_le (by simp; omega)] at h_; simpa [List.drop_drop] using h_)) (pair_cut 1 (by first | exact K2 | (simpa [List.drop_drop] using K2) | (have h_ := K2; rw [List.take_of_length_le (by simp; omega)] at h_; simpa [List.drop_drop] using h_)) (pair_cut 1 (by first | exact K3 | (simpa [List.drop_drop] using K3) | (have h_ := K3; rw [List.take_of_length_le (by simp; omega)] at h_; simpa [List.drop_drop] using h_)) (pair_cut 1 (by first | exact K4 | (simpa [List.drop_drop] using K4) | (have h_ := K4; rw [List.take_of_length_le (by simp; omega)] at h_; simpa [List.drop_drop] using h_)) (pair_cut 1 (by first | exact K5 | (simpa [List.drop_drop] using K5) | (have h_ := K5; rw [List.take_of_length_le (by simp; omega)] at h_; simpa [List.drop_drop] using h_)) (by first | exact K6 | (simpa [List.drop_drop] using K6) | (have h_ := K6; rw [List.take_of_length_le (by simp; omega)] at h_; simpa [List.drop_drop] using h_))))))))
end Go.Proofs.Ytgnahbjpockdmaa.Q

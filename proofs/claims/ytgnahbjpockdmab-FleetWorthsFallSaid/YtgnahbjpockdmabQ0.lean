-- PRINTED by print.py out of the translation. Not trusted: Lean checks it.
import Derived.Test.YtgnahbjpockdmabProg
import Derived.Below
import Derived.Deep.Draws
import Derived.Deep.AppendLies
import Derived.Maps.AppendAt
import Derived.OwnWalk
import Derived.Laws.BytesArg
import Derived.Laws.MakeOwn
import Derived.Laws.OwnMore
import Derived.Deep.OwnRows
import Derived.Tactics
import Derived.Lib.ConvBytes
import Derived.Laws.Slices
import Derived.WalkKit
import Derived.KernelRfl
import Derived.RowKit3
import Derived.Deep.LoopGhost
import Derived.Deep.QuietTactic
import Derived.BigQuiet
import Derived.WideLaws
import Derived.Deep.DeepCutAuto
import Derived.Deep.CutBlock
import Derived.Deep.RegionHeld3
import Derived.Laws.Rows
import Derived.Lib.AppendStr
import Derived.ArgAppend
import Derived.Laws.IdiomCopy
import Derived.OrdersHeld
import Derived.Laws.BitsLemmas
import Derived.RowKit
import Derived.Test.YtgnahbjpockdmabWWords
import Derived.Test.YtgnahbjpockdmabWLast
import Derived.Test.YtgnahbjpockdmabWTab
import Derived.Test.YtgnahbjpockdmabWFour
import Derived.Test.YtgnahbjpockdmabWQPut
import Derived.Test.YtgnahbjpockdmabWApart
import Derived.Test.YtgnahbjpockdmabWArr
import Derived.Test.YtgnahbjpockdmabWZeros
import Derived.Test.YtgnahbjpockdmabWFoot
import Derived.Test.YtgnahbjpockdmabWKept
import Derived.Test.YtgnahbjpockdmabWShare
import Derived.Test.YtgnahbjpockdmabWN
import Derived.Test.YtgnahbjpockdmabWFootNe
import Derived.Test.YtgnahbjpockdmabWAt
import Derived.Test.YtgnahbjpockdmabWEqStruct
import Derived.Test.YtgnahbjpockdmabWRepsOne
import Derived.Test.YtgnahbjpockdmabWInv
import Derived.Test.YtgnahbjpockdmabWInvWords
import Derived.Test.YtgnahbjpockdmabWGuard
import Derived.Test.YtgnahbjpockdmabWNEv
import Derived.Test.YtgnahbjpockdmabWMore
import Derived.Test.YtgnahbjpockdmabOwn
import Derived.Test.YtgnahbjpockdmabOpen
namespace Go.Proofs.Ytgnahbjpockdmab.Q
open Go.RowKit Go.Proofs.YtgnahbjpockdmabOwn Go.Proofs.YtgnahbjpockdmabW.PrintWords Go.Proofs.YtgnahbjpockdmabW.PrintLast Go.Proofs.YtgnahbjpockdmabW.PrintMore
attribute [local go_sem] max2_int min2_int max_two min_two max_three min_three max_four min_four   -- for this text's walks alone
set_option linter.unusedVariables false
set_option linter.unusedSimpArgs false



def errW : Option Int → Value
  | none => .nilIface
  | some c => .iface 0 (.int .i64 c)
theorem errW_none : errW none = .nilIface := rfl
theorem errW_some (c : Int) : errW (some c) = .iface 0 (.int .i64 c) := rfl

theorem info3 : (Try.prog.info? 3).map (fun i => (i.zero, i.size, i.bytes)) = some (some (.int .i64 0), 1, 8) := by kernel_rfl
theorem info49 : (Try.prog.info? 49).map (fun i => (i.zero, i.size, i.bytes)) = some (some (.agg #[(.int .i64 0), (.int .i64 0), (.int .i64 0), (.int .i64 0), (.int .i64 0), (.int .i64 0)]), 6, 48) := by kernel_rfl
theorem info52 : (Try.prog.info? 52).map (fun i => (i.zero, i.size, i.bytes)) = some (some (.agg #[(.string ⟨#[]⟩), (.int .i64 0), (.int .i64 0), (.int .i64 0), (.int .i64 0), (.int .i64 0), (.int .i64 0), (.int .i64 0), (.int .i64 0), (.int .i64 0), (.int .i64 0), (.int .i64 0), (.int .i64 0), (.bool false)]), 14, 120) := by kernel_rfl
-- the values' own types
/-! #### struct type 52 -/
structure S52 where
  f0 : ByteArray
  f1 : Int
  f2 : Int
  f3 : Int
  f4 : Int
  f5 : Int
  f6 : Int
  f7 : Int
  f8 : Int
  f9 : Int
  f10 : Int
  f11 : Int
  f12 : Int
  f13 : Bool
def z52 : S52 := ⟨(⟨#[]⟩ : ByteArray), (0 : Int), (0 : Int), (0 : Int), (0 : Int), (0 : Int), (0 : Int), (0 : Int), (0 : Int), (0 : Int), (0 : Int), (0 : Int), (0 : Int), false⟩
def k52 : Kd S52 := Kd.iso (Kd.pair Kd.string (Kd.pair (Kd.int .i64) (Kd.pair (Kd.int .i64) (Kd.pair (Kd.int .i64) (Kd.pair (Kd.int .i64) (Kd.pair (Kd.int .i64) (Kd.pair (Kd.int .i64) (Kd.pair (Kd.int .i64) (Kd.pair (Kd.int .i64) (Kd.pair (Kd.int .i64) (Kd.pair (Kd.int .i64) (Kd.pair (Kd.int .i64) (Kd.pair (Kd.int .i64) Kd.bool))))))))))))) (fun x : S52 => (x.f0, x.f1, x.f2, x.f3, x.f4, x.f5, x.f6, x.f7, x.f8, x.f9, x.f10, x.f11, x.f12, x.f13))
theorem k52_open {w : World} {x : S52} {cs : List Value} (h : k52.K w x cs) : cs = [.string x.f0, .int .i64 x.f1, .int .i64 x.f2, .int .i64 x.f3, .int .i64 x.f4, .int .i64 x.f5, .int .i64 x.f6, .int .i64 x.f7, .int .i64 x.f8, .int .i64 x.f9, .int .i64 x.f10, .int .i64 x.f11, .int .i64 x.f12, .bool x.f13] := by
  obtain ⟨_, _, rfl, rfl, ⟨_, _, rfl, rfl, ⟨_, _, rfl, rfl, ⟨_, _, rfl, rfl, ⟨_, _, rfl, rfl, ⟨_, _, rfl, rfl, ⟨_, _, rfl, rfl, ⟨_, _, rfl, rfl, ⟨_, _, rfl, rfl, ⟨_, _, rfl, rfl, ⟨_, _, rfl, rfl, ⟨_, _, rfl, rfl, ⟨_, _, rfl, rfl, rfl⟩⟩⟩⟩⟩⟩⟩⟩⟩⟩⟩⟩⟩ := h
  exact rfl
theorem k52_openM {w : World} {base : Nat} {ok : Nat → Prop} {x : S52} {cs : List Value} (h : k52.M w base ok x cs) : cs = [.string x.f0, .int .i64 x.f1, .int .i64 x.f2, .int .i64 x.f3, .int .i64 x.f4, .int .i64 x.f5, .int .i64 x.f6, .int .i64 x.f7, .int .i64 x.f8, .int .i64 x.f9, .int .i64 x.f10, .int .i64 x.f11, .int .i64 x.f12, .bool x.f13] := by
  obtain ⟨_, _, rfl, rfl, ⟨_, _, rfl, rfl, ⟨_, _, rfl, rfl, ⟨_, _, rfl, rfl, ⟨_, _, rfl, rfl, ⟨_, _, rfl, rfl, ⟨_, _, rfl, rfl, ⟨_, _, rfl, rfl, ⟨_, _, rfl, rfl, ⟨_, _, rfl, rfl, ⟨_, _, rfl, rfl, ⟨_, _, rfl, rfl, ⟨_, _, rfl, rfl, rfl⟩⟩⟩⟩⟩⟩⟩⟩⟩⟩⟩⟩⟩ := h
  exact rfl
theorem k52_mk (w : World) (x : S52)  : k52.K w x [.string x.f0, .int .i64 x.f1, .int .i64 x.f2, .int .i64 x.f3, .int .i64 x.f4, .int .i64 x.f5, .int .i64 x.f6, .int .i64 x.f7, .int .i64 x.f8, .int .i64 x.f9, .int .i64 x.f10, .int .i64 x.f11, .int .i64 x.f12, .bool x.f13] := ⟨[.string x.f0], [.int .i64 x.f1, .int .i64 x.f2, .int .i64 x.f3, .int .i64 x.f4, .int .i64 x.f5, .int .i64 x.f6, .int .i64 x.f7, .int .i64 x.f8, .int .i64 x.f9, .int .i64 x.f10, .int .i64 x.f11, .int .i64 x.f12, .bool x.f13], rfl, rfl, ⟨[.int .i64 x.f1], [.int .i64 x.f2, .int .i64 x.f3, .int .i64 x.f4, .int .i64 x.f5, .int .i64 x.f6, .int .i64 x.f7, .int .i64 x.f8, .int .i64 x.f9, .int .i64 x.f10, .int .i64 x.f11, .int .i64 x.f12, .bool x.f13], rfl, rfl, ⟨[.int .i64 x.f2], [.int .i64 x.f3, .int .i64 x.f4, .int .i64 x.f5, .int .i64 x.f6, .int .i64 x.f7, .int .i64 x.f8, .int .i64 x.f9, .int .i64 x.f10, .int .i64 x.f11, .int .i64 x.f12, .bool x.f13], rfl, rfl, ⟨[.int .i64 x.f3], [.int .i64 x.f4, .int .i64 x.f5, .int .i64 x.f6, .int .i64 x.f7, .int .i64 x.f8, .int .i64 x.f9, .int .i64 x.f10, .int .i64 x.f11, .int .i64 x.f12, .bool x.f13], rfl, rfl, ⟨[.int .i64 x.f4], [.int .i64 x.f5, .int .i64 x.f6, .int .i64 x.f7, .int .i64 x.f8, .int .i64 x.f9, .int .i64 x.f10, .int .i64 x.f11, .int .i64 x.f12, .bool x.f13], rfl, rfl, ⟨[.int .i64 x.f5], [.int .i64 x.f6, .int .i64 x.f7, .int .i64 x.f8, .int .i64 x.f9, .int .i64 x.f10, .int .i64 x.f11, .int .i64 x.f12, .bool x.f13], rfl, rfl, ⟨[.int .i64 x.f6], [.int .i64 x.f7, .int .i64 x.f8, .int .i64 x.f9, .int .i64 x.f10, .int .i64 x.f11, .int .i64 x.f12, .bool x.f13], rfl, rfl, ⟨[.int .i64 x.f7], [.int .i64 x.f8, .int .i64 x.f9, .int .i64 x.f10, .int .i64 x.f11, .int .i64 x.f12, .bool x.f13], rfl, rfl, ⟨[.int .i64 x.f8], [.int .i64 x.f9, .int .i64 x.f10, .int .i64 x.f11, .int .i64 x.f12, .bool x.f13], rfl, rfl, ⟨[.int .i64 x.f9], [.int .i64 x.f10, .int .i64 x.f11, .int .i64 x.f12, .bool x.f13], rfl, rfl, ⟨[.int .i64 x.f10], [.int .i64 x.f11, .int .i64 x.f12, .bool x.f13], rfl, rfl, ⟨[.int .i64 x.f11], [.int .i64 x.f12, .bool x.f13], rfl, rfl, ⟨[.int .i64 x.f12], [.bool x.f13], rfl, rfl, rfl⟩⟩⟩⟩⟩⟩⟩⟩⟩⟩⟩⟩⟩
theorem k52_mkM (w : World) (base : Nat) (ok : Nat → Prop) (x : S52)  : k52.M w base ok x [.string x.f0, .int .i64 x.f1, .int .i64 x.f2, .int .i64 x.f3, .int .i64 x.f4, .int .i64 x.f5, .int .i64 x.f6, .int .i64 x.f7, .int .i64 x.f8, .int .i64 x.f9, .int .i64 x.f10, .int .i64 x.f11, .int .i64 x.f12, .bool x.f13] := ⟨[.string x.f0], [.int .i64 x.f1, .int .i64 x.f2, .int .i64 x.f3, .int .i64 x.f4, .int .i64 x.f5, .int .i64 x.f6, .int .i64 x.f7, .int .i64 x.f8, .int .i64 x.f9, .int .i64 x.f10, .int .i64 x.f11, .int .i64 x.f12, .bool x.f13], rfl, rfl, ⟨[.int .i64 x.f1], [.int .i64 x.f2, .int .i64 x.f3, .int .i64 x.f4, .int .i64 x.f5, .int .i64 x.f6, .int .i64 x.f7, .int .i64 x.f8, .int .i64 x.f9, .int .i64 x.f10, .int .i64 x.f11, .int .i64 x.f12, .bool x.f13], rfl, rfl, ⟨[.int .i64 x.f2], [.int .i64 x.f3, .int .i64 x.f4, .int .i64 x.f5, .int .i64 x.f6, .int .i64 x.f7, .int .i64 x.f8, .int .i64 x.f9, .int .i64 x.f10, .int .i64 x.f11, .int .i64 x.f12, .bool x.f13], rfl, rfl, ⟨[.int .i64 x.f3], [.int .i64 x.f4, .int .i64 x.f5, .int .i64 x.f6, .int .i64 x.f7, .int .i64 x.f8, .int .i64 x.f9, .int .i64 x.f10, .int .i64 x.f11, .int .i64 x.f12, .bool x.f13], rfl, rfl, ⟨[.int .i64 x.f4], [.int .i64 x.f5, .int .i64 x.f6, .int .i64 x.f7, .int .i64 x.f8, .int .i64 x.f9, .int .i64 x.f10, .int .i64 x.f11, .int .i64 x.f12, .bool x.f13], rfl, rfl, ⟨[.int .i64 x.f5], [.int .i64 x.f6, .int .i64 x.f7, .int .i64 x.f8, .int .i64 x.f9, .int .i64 x.f10, .int .i64 x.f11, .int .i64 x.f12, .bool x.f13], rfl, rfl, ⟨[.int .i64 x.f6], [.int .i64 x.f7, .int .i64 x.f8, .int .i64 x.f9, .int .i64 x.f10, .int .i64 x.f11, .int .i64 x.f12, .bool x.f13], rfl, rfl, ⟨[.int .i64 x.f7], [.int .i64 x.f8, .int .i64 x.f9, .int .i64 x.f10, .int .i64 x.f11, .int .i64 x.f12, .bool x.f13], rfl, rfl, ⟨[.int .i64 x.f8], [.int .i64 x.f9, .int .i64 x.f10, .int .i64 x.f11, .int .i64 x.f12, .bool x.f13], rfl, rfl, ⟨[.int .i64 x.f9], [.int .i64 x.f10, .int .i64 x.f11, .int .i64 x.f12, .bool x.f13], rfl, rfl, ⟨[.int .i64 x.f10], [.int .i64 x.f11, .int .i64 x.f12, .bool x.f13], rfl, rfl, ⟨[.int .i64 x.f11], [.int .i64 x.f12, .bool x.f13], rfl, rfl, ⟨[.int .i64 x.f12], [.bool x.f13], rfl, rfl, rfl⟩⟩⟩⟩⟩⟩⟩⟩⟩⟩⟩⟩⟩
theorem k52_mkF (W : World) (ok : Nat → Prop) (x : S52) : Kd.FK k52 W ok x [.string x.f0, .int .i64 x.f1, .int .i64 x.f2, .int .i64 x.f3, .int .i64 x.f4, .int .i64 x.f5, .int .i64 x.f6, .int .i64 x.f7, .int .i64 x.f8, .int .i64 x.f9, .int .i64 x.f10, .int .i64 x.f11, .int .i64 x.f12, .bool x.f13] := fun W2 _ => k52_mk W2 x
def rd_T52 (xs : List S52) (i : Int) : S52 := xs.getD i.toNat z52
theorem at_T52 {w : World} {A : Option Addr} {n : Nat} {xs : List S52} (h : Kd.C k52 w A n xs) (i : Int) (h0 : 0 ≤ i) (h1 : i < n) : ∃ ad , A = some ad ∧ w.cell? (ad.add (i.toNat * 14)) = some (.string (rd_T52 xs i).f0) ∧ w.cell? ⟨(ad.add (i.toNat * 14)).block, (ad.add (i.toNat * 14)).off + 1, none⟩ = some (.int .i64 (rd_T52 xs i).f1) ∧ w.cell? ⟨(ad.add (i.toNat * 14)).block, (ad.add (i.toNat * 14)).off + 2, none⟩ = some (.int .i64 (rd_T52 xs i).f2) ∧ w.cell? ⟨(ad.add (i.toNat * 14)).block, (ad.add (i.toNat * 14)).off + 3, none⟩ = some (.int .i64 (rd_T52 xs i).f3) ∧ w.cell? ⟨(ad.add (i.toNat * 14)).block, (ad.add (i.toNat * 14)).off + 4, none⟩ = some (.int .i64 (rd_T52 xs i).f4) ∧ w.cell? ⟨(ad.add (i.toNat * 14)).block, (ad.add (i.toNat * 14)).off + 5, none⟩ = some (.int .i64 (rd_T52 xs i).f5) ∧ w.cell? ⟨(ad.add (i.toNat * 14)).block, (ad.add (i.toNat * 14)).off + 6, none⟩ = some (.int .i64 (rd_T52 xs i).f6) ∧ w.cell? ⟨(ad.add (i.toNat * 14)).block, (ad.add (i.toNat * 14)).off + 7, none⟩ = some (.int .i64 (rd_T52 xs i).f7) ∧ w.cell? ⟨(ad.add (i.toNat * 14)).block, (ad.add (i.toNat * 14)).off + 8, none⟩ = some (.int .i64 (rd_T52 xs i).f8) ∧ w.cell? ⟨(ad.add (i.toNat * 14)).block, (ad.add (i.toNat * 14)).off + 9, none⟩ = some (.int .i64 (rd_T52 xs i).f9) ∧ w.cell? ⟨(ad.add (i.toNat * 14)).block, (ad.add (i.toNat * 14)).off + 10, none⟩ = some (.int .i64 (rd_T52 xs i).f10) ∧ w.cell? ⟨(ad.add (i.toNat * 14)).block, (ad.add (i.toNat * 14)).off + 11, none⟩ = some (.int .i64 (rd_T52 xs i).f11) ∧ w.cell? ⟨(ad.add (i.toNat * 14)).block, (ad.add (i.toNat * 14)).off + 12, none⟩ = some (.int .i64 (rd_T52 xs i).f12) ∧ w.cell? ⟨(ad.add (i.toNat * 14)).block, (ad.add (i.toNat * 14)).off + 13, none⟩ = some (.bool (rd_T52 xs i).f13) := by
  obtain ⟨ad, c, e, _, hK, hc0⟩ := Kd.C_get h z52 i h0 h1
  have hc : ∀ j u, c[j]? = some u → w.cell? (ad.add (i.toNat * 14 + j)) = some u := hc0
  obtain rfl := k52_open hK
  exact ⟨ad, e, hc 0 _ rfl, by rw [← add_field _ _ 1 (by omega)]; exact hc 1 _ rfl, by rw [← add_field _ _ 2 (by omega)]; exact hc 2 _ rfl, by rw [← add_field _ _ 3 (by omega)]; exact hc 3 _ rfl, by rw [← add_field _ _ 4 (by omega)]; exact hc 4 _ rfl, by rw [← add_field _ _ 5 (by omega)]; exact hc 5 _ rfl, by rw [← add_field _ _ 6 (by omega)]; exact hc 6 _ rfl, by rw [← add_field _ _ 7 (by omega)]; exact hc 7 _ rfl, by rw [← add_field _ _ 8 (by omega)]; exact hc 8 _ rfl, by rw [← add_field _ _ 9 (by omega)]; exact hc 9 _ rfl, by rw [← add_field _ _ 10 (by omega)]; exact hc 10 _ rfl, by rw [← add_field _ _ 11 (by omega)]; exact hc 11 _ rfl, by rw [← add_field _ _ 12 (by omega)]; exact hc 12 _ rfl, by rw [← add_field _ _ 13 (by omega)]; exact hc 13 _ rfl⟩

/-! #### struct type 49 -/
structure S49 where
  f0 : Int
  f1 : Int
  f2 : Int
  f3 : Int
  f4 : Int
  f5 : Int
def z49 : S49 := ⟨(0 : Int), (0 : Int), (0 : Int), (0 : Int), (0 : Int), (0 : Int)⟩
def k49 : Kd S49 := Kd.iso (Kd.pair (Kd.int .i64) (Kd.pair (Kd.int .i64) (Kd.pair (Kd.int .i64) (Kd.pair (Kd.int .i64) (Kd.pair (Kd.int .i64) (Kd.int .i64)))))) (fun x : S49 => (x.f0, x.f1, x.f2, x.f3, x.f4, x.f5))
theorem k49_open {w : World} {x : S49} {cs : List Value} (h : k49.K w x cs) : cs = [.int .i64 x.f0, .int .i64 x.f1, .int .i64 x.f2, .int .i64 x.f3, .int .i64 x.f4, .int .i64 x.f5] := by
  obtain ⟨_, _, rfl, rfl, ⟨_, _, rfl, rfl, ⟨_, _, rfl, rfl, ⟨_, _, rfl, rfl, ⟨_, _, rfl, rfl, rfl⟩⟩⟩⟩⟩ := h
  exact rfl
theorem k49_openM {w : World} {base : Nat} {ok : Nat → Prop} {x : S49} {cs : List Value} (h : k49.M w base ok x cs) : cs = [.int .i64 x.f0, .int .i64 x.f1, .int .i64 x.f2, .int .i64 x.f3, .int .i64 x.f4, .int .i64 x.f5] := by
  obtain ⟨_, _, rfl, rfl, ⟨_, _, rfl, rfl, ⟨_, _, rfl, rfl, ⟨_, _, rfl, rfl, ⟨_, _, rfl, rfl, rfl⟩⟩⟩⟩⟩ := h
  exact rfl
theorem k49_mk (w : World) (x : S49)  : k49.K w x [.int .i64 x.f0, .int .i64 x.f1, .int .i64 x.f2, .int .i64 x.f3, .int .i64 x.f4, .int .i64 x.f5] := ⟨[.int .i64 x.f0], [.int .i64 x.f1, .int .i64 x.f2, .int .i64 x.f3, .int .i64 x.f4, .int .i64 x.f5], rfl, rfl, ⟨[.int .i64 x.f1], [.int .i64 x.f2, .int .i64 x.f3, .int .i64 x.f4, .int .i64 x.f5], rfl, rfl, ⟨[.int .i64 x.f2], [.int .i64 x.f3, .int .i64 x.f4, .int .i64 x.f5], rfl, rfl, ⟨[.int .i64 x.f3], [.int .i64 x.f4, .int .i64 x.f5], rfl, rfl, ⟨[.int .i64 x.f4], [.int .i64 x.f5], rfl, rfl, rfl⟩⟩⟩⟩⟩
theorem k49_mkM (w : World) (base : Nat) (ok : Nat → Prop) (x : S49)  : k49.M w base ok x [.int .i64 x.f0, .int .i64 x.f1, .int .i64 x.f2, .int .i64 x.f3, .int .i64 x.f4, .int .i64 x.f5] := ⟨[.int .i64 x.f0], [.int .i64 x.f1, .int .i64 x.f2, .int .i64 x.f3, .int .i64 x.f4, .int .i64 x.f5], rfl, rfl, ⟨[.int .i64 x.f1], [.int .i64 x.f2, .int .i64 x.f3, .int .i64 x.f4, .int .i64 x.f5], rfl, rfl, ⟨[.int .i64 x.f2], [.int .i64 x.f3, .int .i64 x.f4, .int .i64 x.f5], rfl, rfl, ⟨[.int .i64 x.f3], [.int .i64 x.f4, .int .i64 x.f5], rfl, rfl, ⟨[.int .i64 x.f4], [.int .i64 x.f5], rfl, rfl, rfl⟩⟩⟩⟩⟩
theorem k49_mkF (W : World) (ok : Nat → Prop) (x : S49) : Kd.FK k49 W ok x [.int .i64 x.f0, .int .i64 x.f1, .int .i64 x.f2, .int .i64 x.f3, .int .i64 x.f4, .int .i64 x.f5] := fun W2 _ => k49_mk W2 x
def rd_T49 (xs : List S49) (i : Int) : S49 := xs.getD i.toNat z49
theorem at_T49 {w : World} {A : Option Addr} {n : Nat} {xs : List S49} (h : Kd.C k49 w A n xs) (i : Int) (h0 : 0 ≤ i) (h1 : i < n) : ∃ ad , A = some ad ∧ w.cell? (ad.add (i.toNat * 6)) = some (.int .i64 (rd_T49 xs i).f0) ∧ w.cell? ⟨(ad.add (i.toNat * 6)).block, (ad.add (i.toNat * 6)).off + 1, none⟩ = some (.int .i64 (rd_T49 xs i).f1) ∧ w.cell? ⟨(ad.add (i.toNat * 6)).block, (ad.add (i.toNat * 6)).off + 2, none⟩ = some (.int .i64 (rd_T49 xs i).f2) ∧ w.cell? ⟨(ad.add (i.toNat * 6)).block, (ad.add (i.toNat * 6)).off + 3, none⟩ = some (.int .i64 (rd_T49 xs i).f3) ∧ w.cell? ⟨(ad.add (i.toNat * 6)).block, (ad.add (i.toNat * 6)).off + 4, none⟩ = some (.int .i64 (rd_T49 xs i).f4) ∧ w.cell? ⟨(ad.add (i.toNat * 6)).block, (ad.add (i.toNat * 6)).off + 5, none⟩ = some (.int .i64 (rd_T49 xs i).f5) := by
  obtain ⟨ad, c, e, _, hK, hc0⟩ := Kd.C_get h z49 i h0 h1
  have hc : ∀ j u, c[j]? = some u → w.cell? (ad.add (i.toNat * 6 + j)) = some u := hc0
  obtain rfl := k49_open hK
  exact ⟨ad, e, hc 0 _ rfl, by rw [← add_field _ _ 1 (by omega)]; exact hc 1 _ rfl, by rw [← add_field _ _ 2 (by omega)]; exact hc 2 _ rfl, by rw [← add_field _ _ 3 (by omega)]; exact hc 3 _ rfl, by rw [← add_field _ _ 4 (by omega)]; exact hc 4 _ rfl, by rw [← add_field _ _ 5 (by omega)]; exact hc 5 _ rfl⟩

def rd_L5 (xs : List (List Int)) (i : Int) : (List Int) := xs.getD i.toNat ([] : List Int)
theorem at_L5 {w : World} {A : Option Addr} {n : Nat} {xs : List (List Int)} (h : Kd.C (Kd.slice 3 (Kd.int .i64)) w A n xs) (i : Int) (h0 : 0 ≤ i) (h1 : i < n) : ∃ ad A0 c0, A = some ad ∧ w.cell? (ad.add i.toNat) = some (.slice A0 (rd_L5 xs i).length c0) ∧ (rd_L5 xs i).length ≤ c0 ∧ (Kd.int .i64).C w A0 (rd_L5 xs i).length (rd_L5 xs i) := by
  obtain ⟨ad, c, e, _, hK, hc0⟩ := Kd.C_get h ([] : List Int) i h0 h1
  have hc : ∀ j u, c[j]? = some u → w.cell? (ad.add (i.toNat * 1 + j)) = some u := hc0
  obtain ⟨A0, c0, rfl, l0, g0⟩ := hK
  exact ⟨ad, A0, c0, e, by have hq := hc 0 _ rfl; rwa [Nat.mul_one, Nat.add_zero] at hq, l0, g0⟩

def rd_L6 (xs : List (List S49)) (i : Int) : (List S49) := xs.getD i.toNat ([] : List S49)
theorem at_L6 {w : World} {A : Option Addr} {n : Nat} {xs : List (List S49)} (h : Kd.C (Kd.slice 49 k49) w A n xs) (i : Int) (h0 : 0 ≤ i) (h1 : i < n) : ∃ ad A0 c0, A = some ad ∧ w.cell? (ad.add i.toNat) = some (.slice A0 (rd_L6 xs i).length c0) ∧ (rd_L6 xs i).length ≤ c0 ∧ k49.C w A0 (rd_L6 xs i).length (rd_L6 xs i) := by
  obtain ⟨ad, c, e, _, hK, hc0⟩ := Kd.C_get h ([] : List S49) i h0 h1
  have hc : ∀ j u, c[j]? = some u → w.cell? (ad.add (i.toNat * 1 + j)) = some u := hc0
  obtain ⟨A0, c0, rfl, l0, g0⟩ := hK
  exact ⟨ad, A0, c0, e, by have hq := hc 0 _ rfl; rwa [Nat.mul_one, Nat.add_zero] at hq, l0, g0⟩

/-! #### struct type 26 -/
structure S26 where
  f0 : (List Int)
  f1 : (List Int)
  f2 : Int
  f3 : Int
  f4 : Int
  f5 : Int
  f6 : (List S49)
def z26 : S26 := ⟨([] : List Int), ([] : List Int), (0 : Int), (0 : Int), (0 : Int), (0 : Int), ([] : List S49)⟩
def k26 : Kd S26 := Kd.iso (Kd.pair (Kd.slice 3 (Kd.int .i64)) (Kd.pair (Kd.slice 3 (Kd.int .i64)) (Kd.pair (Kd.int .i64) (Kd.pair (Kd.int .i64) (Kd.pair (Kd.int .i64) (Kd.pair (Kd.int .i64) (Kd.slice 49 k49))))))) (fun x : S26 => (x.f0, x.f1, x.f2, x.f3, x.f4, x.f5, x.f6))
theorem k26_open {w : World} {x : S26} {cs : List Value} (h : k26.K w x cs) : ∃ A0 c0 A1 c1 A6 c6, cs = [.slice A0 x.f0.length c0, .slice A1 x.f1.length c1, .int .i64 x.f2, .int .i64 x.f3, .int .i64 x.f4, .int .i64 x.f5, .slice A6 x.f6.length c6] ∧ x.f0.length ≤ c0 ∧ (Kd.int .i64).C w A0 x.f0.length x.f0 ∧ x.f1.length ≤ c1 ∧ (Kd.int .i64).C w A1 x.f1.length x.f1 ∧ x.f6.length ≤ c6 ∧ k49.C w A6 x.f6.length x.f6 := by
  obtain ⟨_, _, rfl, ⟨A0, c0, rfl, l0, g0⟩, ⟨_, _, rfl, ⟨A1, c1, rfl, l1, g1⟩, ⟨_, _, rfl, rfl, ⟨_, _, rfl, rfl, ⟨_, _, rfl, rfl, ⟨_, _, rfl, rfl, ⟨A6, c6, rfl, l6, g6⟩⟩⟩⟩⟩⟩⟩ := h
  exact ⟨A0, c0, A1, c1, A6, c6, rfl, l0, g0, l1, g1, l6, g6⟩
theorem k26_openM {w : World} {base : Nat} {ok : Nat → Prop} {x : S26} {cs : List Value} (h : k26.M w base ok x cs) : ∃ v0 v1 v6, cs = [v0, v1, .int .i64 x.f2, .int .i64 x.f3, .int .i64 x.f4, .int .i64 x.f5, v6] ∧ (Kd.int .i64).R 3 w base ok v0 x.f0 ∧ (Kd.int .i64).R 3 w base ok v1 x.f1 ∧ k49.R 49 w base ok v6 x.f6 := by
  obtain ⟨_, _, rfl, ⟨v0, rfl, g0⟩, ⟨_, _, rfl, ⟨v1, rfl, g1⟩, ⟨_, _, rfl, rfl, ⟨_, _, rfl, rfl, ⟨_, _, rfl, rfl, ⟨_, _, rfl, rfl, ⟨v6, rfl, g6⟩⟩⟩⟩⟩⟩⟩ := h
  exact ⟨v0, v1, v6, rfl, g0, g1, g6⟩
theorem k26_mk (w : World) (x : S26) {A0 : Option Addr} {c0 : Nat} (l0 : x.f0.length ≤ c0) (g0 : (Kd.int .i64).C w A0 x.f0.length x.f0) {A1 : Option Addr} {c1 : Nat} (l1 : x.f1.length ≤ c1) (g1 : (Kd.int .i64).C w A1 x.f1.length x.f1) {A6 : Option Addr} {c6 : Nat} (l6 : x.f6.length ≤ c6) (g6 : k49.C w A6 x.f6.length x.f6) : k26.K w x [.slice A0 x.f0.length c0, .slice A1 x.f1.length c1, .int .i64 x.f2, .int .i64 x.f3, .int .i64 x.f4, .int .i64 x.f5, .slice A6 x.f6.length c6] := ⟨[.slice A0 x.f0.length c0], [.slice A1 x.f1.length c1, .int .i64 x.f2, .int .i64 x.f3, .int .i64 x.f4, .int .i64 x.f5, .slice A6 x.f6.length c6], rfl, ⟨A0, c0, rfl, l0, g0⟩, ⟨[.slice A1 x.f1.length c1], [.int .i64 x.f2, .int .i64 x.f3, .int .i64 x.f4, .int .i64 x.f5, .slice A6 x.f6.length c6], rfl, ⟨A1, c1, rfl, l1, g1⟩, ⟨[.int .i64 x.f2], [.int .i64 x.f3, .int .i64 x.f4, .int .i64 x.f5, .slice A6 x.f6.length c6], rfl, rfl, ⟨[.int .i64 x.f3], [.int .i64 x.f4, .int .i64 x.f5, .slice A6 x.f6.length c6], rfl, rfl, ⟨[.int .i64 x.f4], [.int .i64 x.f5, .slice A6 x.f6.length c6], rfl, rfl, ⟨[.int .i64 x.f5], [.slice A6 x.f6.length c6], rfl, rfl, ⟨A6, c6, rfl, l6, g6⟩⟩⟩⟩⟩⟩⟩
theorem k26_mkM (w : World) (base : Nat) (ok : Nat → Prop) (x : S26) {v0 : Value} (g0 : (Kd.int .i64).R 3 w base ok v0 x.f0) {v1 : Value} (g1 : (Kd.int .i64).R 3 w base ok v1 x.f1) {v6 : Value} (g6 : k49.R 49 w base ok v6 x.f6) : k26.M w base ok x [v0, v1, .int .i64 x.f2, .int .i64 x.f3, .int .i64 x.f4, .int .i64 x.f5, v6] := ⟨[v0], [v1, .int .i64 x.f2, .int .i64 x.f3, .int .i64 x.f4, .int .i64 x.f5, v6], rfl, ⟨v0, rfl, g0⟩, ⟨[v1], [.int .i64 x.f2, .int .i64 x.f3, .int .i64 x.f4, .int .i64 x.f5, v6], rfl, ⟨v1, rfl, g1⟩, ⟨[.int .i64 x.f2], [.int .i64 x.f3, .int .i64 x.f4, .int .i64 x.f5, v6], rfl, rfl, ⟨[.int .i64 x.f3], [.int .i64 x.f4, .int .i64 x.f5, v6], rfl, rfl, ⟨[.int .i64 x.f4], [.int .i64 x.f5, v6], rfl, rfl, ⟨[.int .i64 x.f5], [v6], rfl, rfl, ⟨v6, rfl, g6⟩⟩⟩⟩⟩⟩⟩
theorem k26_openF {W : World} {ok : Nat → Prop} {x : S26} {cs : List Value} (h : Kd.FK k26 W ok x cs) : ∃ A0 c0 A1 c1 A6 c6, cs = [.slice A0 x.f0.length c0, .slice A1 x.f1.length c1, .int .i64 x.f2, .int .i64 x.f3, .int .i64 x.f4, .int .i64 x.f5, .slice A6 x.f6.length c6] ∧ x.f0.length ≤ c0 ∧ Kd.F (Kd.int .i64) W ok A0 x.f0.length x.f0 ∧ x.f1.length ≤ c1 ∧ Kd.F (Kd.int .i64) W ok A1 x.f1.length x.f1 ∧ x.f6.length ≤ c6 ∧ Kd.F k49 W ok A6 x.f6.length x.f6 := by
  obtain ⟨A0, c0, A1, c1, A6, c6, rfl, l0, _, l1, _, l6, _⟩ := k26_open (Kd.FK_now h)
  exact ⟨A0, c0, A1, c1, A6, c6, rfl, l0, (fun W' hW => by obtain ⟨A0_, c0_, A1_, c1_, A6_, c6_, he, l0_, g0_, l1_, g1_, l6_, g6_⟩ := k26_open (h W' hW); injection (Option.some.inj (show some (Value.slice A0 x.f0.length c0) = some (Value.slice A0_ x.f0.length c0_) from congrArg (fun l => l[0]?) he)) with ha_ _ _; rw [ha_]; exact g0_), l1, (fun W' hW => by obtain ⟨A0_, c0_, A1_, c1_, A6_, c6_, he, l0_, g0_, l1_, g1_, l6_, g6_⟩ := k26_open (h W' hW); injection (Option.some.inj (show some (Value.slice A1 x.f1.length c1) = some (Value.slice A1_ x.f1.length c1_) from congrArg (fun l => l[1]?) he)) with ha_ _ _; rw [ha_]; exact g1_), l6, (fun W' hW => by obtain ⟨A0_, c0_, A1_, c1_, A6_, c6_, he, l0_, g0_, l1_, g1_, l6_, g6_⟩ := k26_open (h W' hW); injection (Option.some.inj (show some (Value.slice A6 x.f6.length c6) = some (Value.slice A6_ x.f6.length c6_) from congrArg (fun l => l[6]?) he)) with ha_ _ _; rw [ha_]; exact g6_)⟩
theorem k26_mkF (W : World) (ok : Nat → Prop) (x : S26) {A0 : Option Addr} {c0 : Nat} (l0 : x.f0.length ≤ c0) (g0 : Kd.F (Kd.int .i64) W ok A0 x.f0.length x.f0) {A1 : Option Addr} {c1 : Nat} (l1 : x.f1.length ≤ c1) (g1 : Kd.F (Kd.int .i64) W ok A1 x.f1.length x.f1) {A6 : Option Addr} {c6 : Nat} (l6 : x.f6.length ≤ c6) (g6 : Kd.F k49 W ok A6 x.f6.length x.f6) : Kd.FK k26 W ok x [.slice A0 x.f0.length c0, .slice A1 x.f1.length c1, .int .i64 x.f2, .int .i64 x.f3, .int .i64 x.f4, .int .i64 x.f5, .slice A6 x.f6.length c6] := fun W2 hW => k26_mk W2 x l0 (g0 W2 hW) l1 (g1 W2 hW) l6 (g6 W2 hW)
def rd_T26 (xs : List S26) (i : Int) : S26 := xs.getD i.toNat z26
theorem at_T26 {w : World} {A : Option Addr} {n : Nat} {xs : List S26} (h : Kd.C k26 w A n xs) (i : Int) (h0 : 0 ≤ i) (h1 : i < n) : ∃ ad A0 c0 A1 c1 A6 c6, A = some ad ∧ w.cell? (ad.add (i.toNat * 7)) = some (.slice A0 (rd_T26 xs i).f0.length c0) ∧ w.cell? ⟨(ad.add (i.toNat * 7)).block, (ad.add (i.toNat * 7)).off + 1, none⟩ = some (.slice A1 (rd_T26 xs i).f1.length c1) ∧ w.cell? ⟨(ad.add (i.toNat * 7)).block, (ad.add (i.toNat * 7)).off + 2, none⟩ = some (.int .i64 (rd_T26 xs i).f2) ∧ w.cell? ⟨(ad.add (i.toNat * 7)).block, (ad.add (i.toNat * 7)).off + 3, none⟩ = some (.int .i64 (rd_T26 xs i).f3) ∧ w.cell? ⟨(ad.add (i.toNat * 7)).block, (ad.add (i.toNat * 7)).off + 4, none⟩ = some (.int .i64 (rd_T26 xs i).f4) ∧ w.cell? ⟨(ad.add (i.toNat * 7)).block, (ad.add (i.toNat * 7)).off + 5, none⟩ = some (.int .i64 (rd_T26 xs i).f5) ∧ w.cell? ⟨(ad.add (i.toNat * 7)).block, (ad.add (i.toNat * 7)).off + 6, none⟩ = some (.slice A6 (rd_T26 xs i).f6.length c6) ∧ (rd_T26 xs i).f0.length ≤ c0 ∧ (Kd.int .i64).C w A0 (rd_T26 xs i).f0.length (rd_T26 xs i).f0 ∧ (rd_T26 xs i).f1.length ≤ c1 ∧ (Kd.int .i64).C w A1 (rd_T26 xs i).f1.length (rd_T26 xs i).f1 ∧ (rd_T26 xs i).f6.length ≤ c6 ∧ k49.C w A6 (rd_T26 xs i).f6.length (rd_T26 xs i).f6 := by
  obtain ⟨ad, c, e, _, hK, hc0⟩ := Kd.C_get h z26 i h0 h1
  have hc : ∀ j u, c[j]? = some u → w.cell? (ad.add (i.toNat * 7 + j)) = some u := hc0
  obtain ⟨A0, c0, A1, c1, A6, c6, rfl, l0, g0, l1, g1, l6, g6⟩ := k26_open hK
  exact ⟨ad, A0, c0, A1, c1, A6, c6, e, hc 0 _ rfl, by rw [← add_field _ _ 1 (by omega)]; exact hc 1 _ rfl, by rw [← add_field _ _ 2 (by omega)]; exact hc 2 _ rfl, by rw [← add_field _ _ 3 (by omega)]; exact hc 3 _ rfl, by rw [← add_field _ _ 4 (by omega)]; exact hc 4 _ rfl, by rw [← add_field _ _ 5 (by omega)]; exact hc 5 _ rfl, by rw [← add_field _ _ 6 (by omega)]; exact hc 6 _ rfl, l0, g0, l1, g1, l6, g6⟩

/-! #### struct type 37 -/
structure S37 where
  f0 : Int
def z37 : S37 := ⟨(0 : Int)⟩
def k37 : Kd S37 := Kd.iso (Kd.int .u64) (fun x : S37 => x.f0)
theorem k37_open {w : World} {x : S37} {cs : List Value} (h : k37.K w x cs) : cs = [.int .u64 x.f0] := by
  obtain rfl := h
  exact rfl
theorem k37_openM {w : World} {base : Nat} {ok : Nat → Prop} {x : S37} {cs : List Value} (h : k37.M w base ok x cs) : cs = [.int .u64 x.f0] := by
  obtain rfl := h
  exact rfl
theorem k37_mk (w : World) (x : S37)  : k37.K w x [.int .u64 x.f0] := rfl
theorem k37_mkM (w : World) (base : Nat) (ok : Nat → Prop) (x : S37)  : k37.M w base ok x [.int .u64 x.f0] := rfl
theorem k37_mkF (W : World) (ok : Nat → Prop) (x : S37) : Kd.FK k37 W ok x [.int .u64 x.f0] := fun W2 _ => k37_mk W2 x
def rd_T37 (xs : List S37) (i : Int) : S37 := xs.getD i.toNat z37
theorem at_T37 {w : World} {A : Option Addr} {n : Nat} {xs : List S37} (h : Kd.C k37 w A n xs) (i : Int) (h0 : 0 ≤ i) (h1 : i < n) : ∃ ad , A = some ad ∧ w.cell? (ad.add i.toNat) = some (.int .u64 (rd_T37 xs i).f0) := by
  obtain ⟨ad, c, e, _, hK, hc0⟩ := Kd.C_get h z37 i h0 h1
  have hc : ∀ j u, c[j]? = some u → w.cell? (ad.add (i.toNat * 1 + j)) = some u := hc0
  obtain rfl := k37_open hK
  exact ⟨ad, e, by have hq := hc 0 _ rfl; rwa [Nat.mul_one, Nat.add_zero] at hq⟩

def wT52 (x : S52) : Prop := wStr x.f0 ∧ (wInt .i64) x.f1 ∧ (wInt .i64) x.f2 ∧ (wInt .i64) x.f3 ∧ (wInt .i64) x.f4 ∧ (wInt .i64) x.f5 ∧ (wInt .i64) x.f6 ∧ (wInt .i64) x.f7 ∧ (wInt .i64) x.f8 ∧ (wInt .i64) x.f9 ∧ (wInt .i64) x.f10 ∧ (wInt .i64) x.f11 ∧ (wInt .i64) x.f12 ∧ wBool x.f13
theorem opens_T52 : Opens Try.prog 52 k52 wT52 := by
  intro H enc W fuel cs x h
  obtain ⟨xs, m, rfl, _, hl, hn, hx⟩ := DataW.trod_struct Try.underlying52 h
  have hl2 : cs.length = 14 := hl.trans (by kernel_rfl)
  have hn2 : xs.length = 14 := hn
  obtain ⟨y0, K00, w0⟩ := (opens_string Try.underlying9) ((hx 0 _ rfl).trans (List.getElem?_eq_getElem (by omega)))
  have K0 : Kd.string.K W y0 ((cs.drop 0).take 1) := Eq.mp (congrArg (fun n_ => Kd.string.K W y0 ((cs.drop 0).take n_)) (by kernel_rfl : Try.prog.cellsOf 9 = 1)) K00
  clear K00
  obtain ⟨y1, K10, w1⟩ := (opens_int Try.underlying3) ((hx 1 _ rfl).trans (List.getElem?_eq_getElem (by omega)))
  have K1 : (Kd.int .i64).K W y1 ((cs.drop 1).take 1) := Eq.mp (congrArg (fun n_ => (Kd.int .i64).K W y1 ((cs.drop 1).take n_)) (by kernel_rfl : Try.prog.cellsOf 3 = 1)) K10
  clear K10
  obtain ⟨y2, K20, w2⟩ := (opens_int Try.underlying3) ((hx 2 _ rfl).trans (List.getElem?_eq_getElem (by omega)))
  have K2 : (Kd.int .i64).K W y2 ((cs.drop 2).take 1) := Eq.mp (congrArg (fun n_ => (Kd.int .i64).K W y2 ((cs.drop 2).take n_)) (by kernel_rfl : Try.prog.cellsOf 3 = 1)) K20
  clear K20
  obtain ⟨y3, K30, w3⟩ := (opens_int Try.underlying3) ((hx 3 _ rfl).trans (List.getElem?_eq_getElem (by omega)))
  have K3 : (Kd.int .i64).K W y3 ((cs.drop 3).take 1) := Eq.mp (congrArg (fun n_ => (Kd.int .i64).K W y3 ((cs.drop 3).take n_)) (by kernel_rfl : Try.prog.cellsOf 3 = 1)) K30
  clear K30
  obtain ⟨y4, K40, w4⟩ := (opens_int Try.underlying3) ((hx 4 _ rfl).trans (List.getElem?_eq_getElem (by omega)))
  have K4 : (Kd.int .i64).K W y4 ((cs.drop 4).take 1) := Eq.mp (congrArg (fun n_ => (Kd.int .i64).K W y4 ((cs.drop 4).take n_)) (by kernel_rfl : Try.prog.cellsOf 3 = 1)) K40
  clear K40
  obtain ⟨y5, K50, w5⟩ := (opens_int Try.underlying3) ((hx 5 _ rfl).trans (List.getElem?_eq_getElem (by omega)))
  have K5 : (Kd.int .i64).K W y5 ((cs.drop 5).take 1) := Eq.mp (congrArg (fun n_ => (Kd.int .i64).K W y5 ((cs.drop 5).take n_)) (by kernel_rfl : Try.prog.cellsOf 3 = 1)) K50
  clear K50
  obtain ⟨y6, K60, w6⟩ := (opens_int Try.underlying3) ((hx 6 _ rfl).trans (List.getElem?_eq_getElem (by omega)))
  have K6 : (Kd.int .i64).K W y6 ((cs.drop 6).take 1) := Eq.mp (congrArg (fun n_ => (Kd.int .i64).K W y6 ((cs.drop 6).take n_)) (by kernel_rfl : Try.prog.cellsOf 3 = 1)) K60
  clear K60
  obtain ⟨y7, K70, w7⟩ := (opens_int Try.underlying3) ((hx 7 _ rfl).trans (List.getElem?_eq_getElem (by omega)))
  have K7 : (Kd.int .i64).K W y7 ((cs.drop 7).take 1) := Eq.mp (congrArg (fun n_ => (Kd.int .i64).K W y7 ((cs.drop 7).take n_)) (by kernel_rfl : Try.prog.cellsOf 3 = 1)) K70
  clear K70
  obtain ⟨y8, K80, w8⟩ := (opens_int Try.underlying3) ((hx 8 _ rfl).trans (List.getElem?_eq_getElem (by omega)))
  have K8 : (Kd.int .i64).K W y8 ((cs.drop 8).take 1) := Eq.mp (congrArg (fun n_ => (Kd.int .i64).K W y8 ((cs.drop 8).take n_)) (by kernel_rfl : Try.prog.cellsOf 3 = 1)) K80
  clear K80
  obtain ⟨y9, K90, w9⟩ := (opens_int Try.underlying3) ((hx 9 _ rfl).trans (List.getElem?_eq_getElem (by omega)))
  have K9 : (Kd.int .i64).K W y9 ((cs.drop 9).take 1) := Eq.mp (congrArg (fun n_ => (Kd.int .i64).K W y9 ((cs.drop 9).take n_)) (by kernel_rfl : Try.prog.cellsOf 3 = 1)) K90
  clear K90
  obtain ⟨y10, K100, w10⟩ := (opens_int Try.underlying3) ((hx 10 _ rfl).trans (List.getElem?_eq_getElem (by omega)))
  have K10 : (Kd.int .i64).K W y10 ((cs.drop 10).take 1) := Eq.mp (congrArg (fun n_ => (Kd.int .i64).K W y10 ((cs.drop 10).take n_)) (by kernel_rfl : Try.prog.cellsOf 3 = 1)) K100
  clear K100
  obtain ⟨y11, K110, w11⟩ := (opens_int Try.underlying3) ((hx 11 _ rfl).trans (List.getElem?_eq_getElem (by omega)))
  have K11 : (Kd.int .i64).K W y11 ((cs.drop 11).take 1) := Eq.mp (congrArg (fun n_ => (Kd.int .i64).K W y11 ((cs.drop 11).take n_)) (by kernel_rfl : Try.prog.cellsOf 3 = 1)) K110
  clear K110
  obtain ⟨y12, K120, w12⟩ := (opens_int Try.underlying3) ((hx 12 _ rfl).trans (List.getElem?_eq_getElem (by omega)))
  have K12 : (Kd.int .i64).K W y12 ((cs.drop 12).take 1) := Eq.mp (congrArg (fun n_ => (Kd.int .i64).K W y12 ((cs.drop 12).take n_)) (by kernel_rfl : Try.prog.cellsOf 3 = 1)) K120
  clear K120
  obtain ⟨y13, K130, w13⟩ := (opens_bool Try.underlying4) ((hx 13 _ rfl).trans (List.getElem?_eq_getElem (by omega)))
  have K13 : Kd.bool.K W y13 ((cs.drop 13).take 1) := Eq.mp (congrArg (fun n_ => Kd.bool.K W y13 ((cs.drop 13).take n_)) (by kernel_rfl : Try.prog.cellsOf 4 = 1)) K130
  clear K130
  refine ⟨⟨y0, y1, y2, y3, y4, y5, y6, y7, y8, y9, y10, y11, y12, y13⟩, ?_, w0, w1, w2, w3, w4, w5, w6, w7, w8, w9, w10, w11, w12, w13⟩
  show (Kd.pair Kd.string (Kd.pair (Kd.int .i64) (Kd.pair (Kd.int .i64) (Kd.pair (Kd.int .i64) (Kd.pair (Kd.int .i64) (Kd.pair (Kd.int .i64) (Kd.pair (Kd.int .i64) (Kd.pair (Kd.int .i64) (Kd.pair (Kd.int .i64) (Kd.pair (Kd.int .i64) (Kd.pair (Kd.int .i64) (Kd.pair (Kd.int .i64) (Kd.pair (Kd.int .i64) Kd.bool))))))))))))).K W (y0, (y1, (y2, (y3, (y4, (y5, (y6, (y7, (y8, (y9, (y10, (y11, (y12, y13))))))))))))) cs
  exact (pair_cut 1 (by first | exact K0 | (simpa [List.drop_drop] using K0) | (have h_ := K0; rw [List.take_of_length_le (by simp; omega)] at h_; simpa [List.drop_drop] using h_)) (pair_cut 1 (by first | exact K1 | (simpa [List.drop_drop] using K1) | (have h_ := K1; rw [List.take_of_length_le (by simp; omega)] at h_; simpa [List.drop_drop] using h_)) (pair_cut 1 (by first | exact K2 | (simpa [List.drop_drop] using K2) | (have h_ := K2; rw [List.take_of_length_le (by simp; omega)] at h_; simpa [List.drop_drop] using h_)) (pair_cut 1 (by first | exact K3 | (simpa [List.drop_drop] using K3) | (have h_ := K3; rw [List.take_of_length_le (by simp; omega)] at h_; simpa [List.drop_drop] using h_)) (pair_cut 1 (by first | exact K4 | (simpa [List.drop_drop] using K4) | (have h_ := K4; rw [List.take_of_length_le (by simp; omega)] at h_; simpa [List.drop_drop] using h_)) (pair_cut 1 (by first | exact K5 | (simpa [List.drop_drop] using K5) | (have h_ := K5; rw [List.take_of_length_le (by simp; omega)] at h_; simpa [List.drop_drop] using h_)) (pair_cut 1 (by first | exact K6 | (simpa [List.drop_drop] using K6) | (have h_ := K6; rw [List.take_of_length_le (by simp; omega)] at h_; simpa [List.drop_drop] using h_)) (pair_cut 1 (by first | exact K7 | (simpa [List.drop_drop] using K7) | (have h_ := K7; rw [List.take_of_length_le (by simp; omega)] at h_; simpa [List.drop_drop] using h_)) (pair_cut 1 (by first | exact K8 | (simpa [List.drop_drop] using K8) | (have h_ := K8; rw [List.take_of_length_le (by simp; omega)] at h_; simpa [List.drop_drop] using h_)) (pair_cut 1 (by first | exact K9 | (simpa [List.drop_drop] using K9) | (have h_ := K9; rw [List.take_of_length_le (by simp; omega)] at h_; simpa [List.drop_drop] using h_)) (pair_cut 1 (by first | exact K10 | (simpa [List.drop_drop] using K10) | (have h_ := K10; rw [List.take_of_length_le (by simp; omega)] at h_; simpa [List.drop_drop] using h_)) (pair_cut 1 (by first | exact K11 | (simpa [List.drop_drop] using K11) | (have h_ := K11; rw [List.take_of_length_le (by simp; omega)] at h_; simpa [List.drop_drop] using h_)) (pair_cut 1 (by first | exact K12 | (simpa [List.drop_drop] using K12) | (have h_ := K12; rw [List.take_of_length_le (by simp; omega)] at h_; simpa [List.drop_drop] using h_)) (by first | exact K13 | (simpa [List.drop_drop] using K13) | (have h_ := K13; rw [List.take_of_length_le (by simp; omega)] at h_; simpa [List.drop_drop] using h_)))))))))))))))
def wT49 (x : S49) : Prop := (wInt .i64) x.f0 ∧ (wInt .i64) x.f1 ∧ (wInt .i64) x.f2 ∧ (wInt .i64) x.f3 ∧ (wInt .i64) x.f4 ∧ (wInt .i64) x.f5
theorem opens_T49 : Opens Try.prog 49 k49 wT49 := by
  intro H enc W fuel cs x h
  obtain ⟨xs, m, rfl, _, hl, hn, hx⟩ := DataW.trod_struct Try.underlying49 h
  have hl2 : cs.length = 6 := hl.trans (by kernel_rfl)
  have hn2 : xs.length = 6 := hn
  obtain ⟨y0, K00, w0⟩ := (opens_int Try.underlying3) ((hx 0 _ rfl).trans (List.getElem?_eq_getElem (by omega)))
  have K0 : (Kd.int .i64).K W y0 ((cs.drop 0).take 1) := Eq.mp (congrArg (fun n_ => (Kd.int .i64).K W y0 ((cs.drop 0).take n_)) (by kernel_rfl : Try.prog.cellsOf 3 = 1)) K00
  clear K00
  obtain ⟨y1, K10, w1⟩ := (opens_int Try.underlying3) ((hx 1 _ rfl).trans (List.getElem?_eq_getElem (by omega)))
  have K1 : (Kd.int .i64).K W y1 ((cs.drop 1).take 1) := Eq.mp (congrArg (fun n_ => (Kd.int .i64).K W y1 ((cs.drop 1).take n_)) (by kernel_rfl : Try.prog.cellsOf 3 = 1)) K10
  clear K10
  obtain ⟨y2, K20, w2⟩ := (opens_int Try.underlying3) ((hx 2 _ rfl).trans (List.getElem?_eq_getElem (by omega)))
  have K2 : (Kd.int .i64).K W y2 ((cs.drop 2).take 1) := Eq.mp (congrArg (fun n_ => (Kd.int .i64).K W y2 ((cs.drop 2).take n_)) (by kernel_rfl : Try.prog.cellsOf 3 = 1)) K20
  clear K20
  obtain ⟨y3, K30, w3⟩ := (opens_int Try.underlying3) ((hx 3 _ rfl).trans (List.getElem?_eq_getElem (by omega)))
  have K3 : (Kd.int .i64).K W y3 ((cs.drop 3).take 1) := Eq.mp (congrArg (fun n_ => (Kd.int .i64).K W y3 ((cs.drop 3).take n_)) (by kernel_rfl : Try.prog.cellsOf 3 = 1)) K30
  clear K30
  obtain ⟨y4, K40, w4⟩ := (opens_int Try.underlying3) ((hx 4 _ rfl).trans (List.getElem?_eq_getElem (by omega)))
  have K4 : (Kd.int .i64).K W y4 ((cs.drop 4).take 1) := Eq.mp (congrArg (fun n_ => (Kd.int .i64).K W y4 ((cs.drop 4).take n_)) (by kernel_rfl : Try.prog.cellsOf 3 = 1)) K40
  clear K40
  obtain ⟨y5, K50, w5⟩ := (opens_int Try.underlying3) ((hx 5 _ rfl).trans (List.getElem?_eq_getElem (by omega)))
  have K5 : (Kd.int .i64).K W y5 ((cs.drop 5).take 1) := Eq.mp (congrArg (fun n_ => (Kd.int .i64).K W y5 ((cs.drop 5).take n_)) (by kernel_rfl : Try.prog.cellsOf 3 = 1)) K50
  clear K50
  refine ⟨⟨y0, y1, y2, y3, y4, y5⟩, ?_, w0, w1, w2, w3, w4, w5⟩
  show (Kd.pair (Kd.int .i64) (Kd.pair (Kd.int .i64) (Kd.pair (Kd.int .i64) (Kd.pair (Kd.int .i64) (Kd.pair (Kd.int .i64) (Kd.int .i64)))))).K W (y0, (y1, (y2, (y3, (y4, y5))))) cs
  exact (pair_cut 1 (by first | exact K0 | (simpa [List.drop_drop] using K0) | (have h_ := K0; rw [List.take_of_length_le (by simp; omega)] at h_; simpa [List.drop_drop] using h_)) (pair_cut 1 (by first | exact K1 | (simpa [List.drop_drop] using K1) | (have h_ := K1; rw [List.take_of_length_le (by simp; omega)] at h_; simpa [List.drop_drop] using h_)) (pair_cut 1 (by first | exact K2 | (simpa [List.drop_drop] using K2) | (have h_ := K2; rw [List.take_of_length_le (by simp; omega)] at h_; simpa [List.drop_drop] using h_)) (pair_cut 1 (by first | exact K3 | (simpa [List.drop_drop] using K3) | (have h_ := K3; rw [List.take_of_length_le (by simp; omega)] at h_; simpa [List.drop_drop] using h_)) (pair_cut 1 (by first | exact K4 | (simpa [List.drop_drop] using K4) | (have h_ := K4; rw [List.take_of_length_le (by simp; omega)] at h_; simpa [List.drop_drop] using h_)) (by first | exact K5 | (simpa [List.drop_drop] using K5) | (have h_ := K5; rw [List.take_of_length_le (by simp; omega)] at h_; simpa [List.drop_drop] using h_)))))))
def wT26 (x : S26) : Prop := (wRow (wInt .i64)) x.f0 ∧ (wRow (wInt .i64)) x.f1 ∧ (wInt .i64) x.f2 ∧ (wInt .i64) x.f3 ∧ (wInt .i64) x.f4 ∧ (wInt .i64) x.f5 ∧ (wRow wT49) x.f6
theorem opens_T26 : Opens Try.prog 26 k26 wT26 := by
  intro H enc W fuel cs x h
  obtain ⟨xs, m, rfl, _, hl, hn, hx⟩ := DataW.trod_struct Try.underlying26 h
  have hl2 : cs.length = 7 := hl.trans (by kernel_rfl)
  have hn2 : xs.length = 7 := hn
  obtain ⟨y0, K00, w0⟩ := (opens_slice Try.underlying23 (by kernel_rfl) (opens_int Try.underlying3)) ((hx 0 _ rfl).trans (List.getElem?_eq_getElem (by omega)))
  have K0 : (Kd.slice 3 (Kd.int .i64)).K W y0 ((cs.drop 0).take 1) := Eq.mp (congrArg (fun n_ => (Kd.slice 3 (Kd.int .i64)).K W y0 ((cs.drop 0).take n_)) (by kernel_rfl : Try.prog.cellsOf 23 = 1)) K00
  clear K00
  obtain ⟨y1, K10, w1⟩ := (opens_slice Try.underlying23 (by kernel_rfl) (opens_int Try.underlying3)) ((hx 1 _ rfl).trans (List.getElem?_eq_getElem (by omega)))
  have K1 : (Kd.slice 3 (Kd.int .i64)).K W y1 ((cs.drop 1).take 1) := Eq.mp (congrArg (fun n_ => (Kd.slice 3 (Kd.int .i64)).K W y1 ((cs.drop 1).take n_)) (by kernel_rfl : Try.prog.cellsOf 23 = 1)) K10
  clear K10
  obtain ⟨y2, K20, w2⟩ := (opens_int Try.underlying3) ((hx 2 _ rfl).trans (List.getElem?_eq_getElem (by omega)))
  have K2 : (Kd.int .i64).K W y2 ((cs.drop 2).take 1) := Eq.mp (congrArg (fun n_ => (Kd.int .i64).K W y2 ((cs.drop 2).take n_)) (by kernel_rfl : Try.prog.cellsOf 3 = 1)) K20
  clear K20
  obtain ⟨y3, K30, w3⟩ := (opens_int Try.underlying3) ((hx 3 _ rfl).trans (List.getElem?_eq_getElem (by omega)))
  have K3 : (Kd.int .i64).K W y3 ((cs.drop 3).take 1) := Eq.mp (congrArg (fun n_ => (Kd.int .i64).K W y3 ((cs.drop 3).take n_)) (by kernel_rfl : Try.prog.cellsOf 3 = 1)) K30
  clear K30
  obtain ⟨y4, K40, w4⟩ := (opens_int Try.underlying3) ((hx 4 _ rfl).trans (List.getElem?_eq_getElem (by omega)))
  have K4 : (Kd.int .i64).K W y4 ((cs.drop 4).take 1) := Eq.mp (congrArg (fun n_ => (Kd.int .i64).K W y4 ((cs.drop 4).take n_)) (by kernel_rfl : Try.prog.cellsOf 3 = 1)) K40
  clear K40
  obtain ⟨y5, K50, w5⟩ := (opens_int Try.underlying3) ((hx 5 _ rfl).trans (List.getElem?_eq_getElem (by omega)))
  have K5 : (Kd.int .i64).K W y5 ((cs.drop 5).take 1) := Eq.mp (congrArg (fun n_ => (Kd.int .i64).K W y5 ((cs.drop 5).take n_)) (by kernel_rfl : Try.prog.cellsOf 3 = 1)) K50
  clear K50
  obtain ⟨y6, K60, w6⟩ := (opens_slice Try.underlying24 (by kernel_rfl) opens_T49) ((hx 6 _ rfl).trans (List.getElem?_eq_getElem (by omega)))
  have K6 : (Kd.slice 49 k49).K W y6 ((cs.drop 6).take 1) := Eq.mp (congrArg (fun n_ => (Kd.slice 49 k49).K W y6 ((cs.drop 6).take n_)) (by kernel_rfl : Try.prog.cellsOf 24 = 1)) K60
  clear K60
  refine ⟨⟨y0, y1, y2, y3, y4, y5, y6⟩, ?_, w0, w1, w2, w3, w4, w5, w6⟩
  show (Kd.pair (Kd.slice 3 (Kd.int .i64)) (Kd.pair (Kd.slice 3 (Kd.int .i64)) (Kd.pair (Kd.int .i64) (Kd.pair (Kd.int .i64) (Kd.pair (Kd.int .i64) (Kd.pair (Kd.int .i64) (Kd.slice 49 k49))))))).K W (y0, (y1, (y2, (y3, (y4, (y5, y6)))))) cs
  exact (pair_cut 1 (by first | exact K0 | (simpa [List.drop_drop] using K0) | (have h_ := K0; rw [List.take_of_length_le (by simp; omega)] at h_; simpa [List.drop_drop] using h_)) (pair_cut 1 (by first | exact K1 | (simpa [List.drop_drop] using K1) | (have h_ := K1; rw [List.take_of_length_le (by simp; omega)] at h_; simpa [List.drop_drop] using h_)) (pair_cut 1 (by first | exact K2 | (simpa [List.drop_drop] using K2) | (have h_ := K2; rw [List.take_of_length_le (by simp; omega)] at h_; simpa [List.drop_drop] using h_)) (pair_cut 1 (by first | exact K3 | (simpa [List.drop_drop] using K3) | (have h_ := K3; rw [List.take_of_length_le (by simp; omega)] at h_; simpa [List.drop_drop] using h_)) (pair_cut 1 (by first | exact K4 | (simpa [List.drop_drop] using K4) | (have h_ := K4; rw [List.take_of_length_le (by simp; omega)] at h_; simpa [List.drop_drop] using h_)) (pair_cut 1 (by first | exact K5 | (simpa [List.drop_drop] using K5) | (have h_ := K5; rw [List.take_of_length_le (by simp; omega)] at h_; simpa [List.drop_drop] using h_)) (by first | exact K6 | (simpa [List.drop_drop] using K6) | (have h_ := K6; rw [List.take_of_length_le (by simp; omega)] at h_; simpa [List.drop_drop] using h_))))))))
def wT37 (x : S37) : Prop := (wInt .u64) x.f0
theorem opens_T37 : Opens Try.prog 37 k37 wT37 := by
  intro H enc W fuel cs x h
  obtain ⟨xs, m, rfl, _, hl, hn, hx⟩ := DataW.trod_struct Try.underlying37 h
  have hl2 : cs.length = 1 := hl.trans (by kernel_rfl)
  have hn2 : xs.length = 1 := hn
  obtain ⟨y0, K00, w0⟩ := (opens_int Try.underlying35) ((hx 0 _ rfl).trans (List.getElem?_eq_getElem (by omega)))
  have K0 : (Kd.int .u64).K W y0 ((cs.drop 0).take 1) := Eq.mp (congrArg (fun n_ => (Kd.int .u64).K W y0 ((cs.drop 0).take n_)) (by kernel_rfl : Try.prog.cellsOf 35 = 1)) K00
  clear K00
  refine ⟨⟨y0⟩, ?_, w0⟩
  show (Kd.int .u64).K W y0 cs
  exact (by first | exact K0 | (simpa [List.drop_drop] using K0) | (have h_ := K0; rw [List.take_of_length_le (by simp; omega)] at h_; simpa [List.drop_drop] using h_))
end Go.Proofs.Ytgnahbjpockdmab.Q

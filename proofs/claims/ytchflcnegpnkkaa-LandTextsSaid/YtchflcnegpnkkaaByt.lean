import Derived.Test.YtchflcnegpnkkaaPlain
namespace Go.Proofs.Ytchflcnegpnkkaa.Byt
open Go.RowKit Go.Proofs.YtchflcnegpnkkaaOwn Go.Proofs.YtchflcnegpnkkaaW.PrintWords Go.Proofs.YtchflcnegpnkkaaW.PrintLast
theorem loop_len (s : ByteArray) : ∀ (d i : Nat) (r : List UInt8), i + d = s.size → (ByteArray.toList.loop s i r).length = d + r.length := by
  intro d; induction d with
  | zero => intro i r h; rw [ByteArray.toList.loop, if_neg (by omega)]; simp
  | succ d ih => intro i r h; rw [ByteArray.toList.loop, if_pos (by omega), ih (i + 1) _ (by omega), List.length_cons]; omega
theorem empty_iff (s : ByteArray) : s.toList = ([] : List UInt8) ↔ s.size = 0 := by
  have h := loop_len s s.size 0 [] (by omega)
  have e : (s.toList).length = s.size := by unfold ByteArray.toList; simpa using h
  constructor
  · intro h'; rw [h'] at e; simpa using e.symm
  · intro h'; exact List.eq_nil_of_length_eq_zero (by omega)
theorem row_size (s : ByteArray) {p e : Int} (p0 : 0 ≤ p) (h : p ≤ e) (he : e ≤ (s.size : Int)) : ((s.extract p.toNat e.toNat).size : Int) = e - p := by
  rw [ByteArray.size_extract]; omega
theorem row_bt (s : ByteArray) {p e k : Int} (p0 : 0 ≤ p) (k0 : 0 ≤ k) (h : p + k < e) (he : e ≤ (s.size : Int)) : bt (s.extract p.toNat e.toNat) k = bt s (p + k) := by
  have h1 : k.toNat < (s.extract p.toNat e.toNat).size := by rw [ByteArray.size_extract]; omega
  have h2 : (p + k).toNat < s.size := by omega
  rw [← bt_at _ _ h1, ← bt_at _ _ h2, ByteArray.getElem_extract]
  simp only [show p.toNat + k.toNat = (p + k).toNat by omega]
theorem app_size (s t : ByteArray) : (s ++ t).size = s.size + t.size := ByteArray.size_append
theorem app_bt (s t : ByteArray) {i : Int} (h : i < (s.size : Int)) (h0 : 0 ≤ i) : bt (s ++ t) i = bt s i := by
  have h1 : i.toNat < (s ++ t).size := by rw [app_size]; omega
  have h2 : i.toNat < s.size := by omega
  rw [← bt_at _ _ h1, ← bt_at _ _ h2, ByteArray.getElem_append_left h2]
theorem app_nl (s : ByteArray) : bt (s ++ (⟨#[10]⟩ : ByteArray)) (s.size : Int) = 10 := by
  have h1 : (s.size : Int).toNat < (s ++ (⟨#[10]⟩ : ByteArray)).size := by rw [app_size]; show s.size < s.size + 1; omega
  rw [← bt_at _ _ h1, ByteArray.getElem_append_right (by simp)]
  have : ∀ (i : Nat) (h : i < (⟨#[10]⟩ : ByteArray).size), i = 0 → (((⟨#[10]⟩ : ByteArray)[i]'h).toNat : Int) = 10 := by
    intro i h hi; subst hi; rfl
  exact this _ _ (by simp)
end Go.Proofs.Ytchflcnegpnkkaa.Byt

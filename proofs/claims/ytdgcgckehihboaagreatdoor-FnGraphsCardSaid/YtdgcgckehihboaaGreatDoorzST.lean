/- Texts as values. -/
import Derived.Test.YtdgcgckehihboaaGreatDoorzU1
import Derived.Test.YtdgcgckehihboaaGreatDoorzAv17
set_option linter.unusedSimpArgs false
set_option linter.unusedVariables false
set_option linter.unusedSectionVars false
set_option maxHeartbeats 4000000
set_option maxRecDepth 100000
namespace Go.Av
variable [Go.Av.DoorC]
open Go.RowKit
def Tx (l : List UInt8) : AV := .lit (.string ⟨l.toArray⟩)
def U8 (b : UInt8) : AV := .lit (.int .u8 b.toNat)
theorem ba_size (l : List UInt8) : (⟨l.toArray⟩ : ByteArray).size = l.length := by simp [ByteArray.size]
theorem ba_append (a b : List UInt8) : (⟨a.toArray⟩ : ByteArray) ++ (⟨b.toArray⟩ : ByteArray) = ⟨(a ++ b).toArray⟩ := by
  apply ByteArray.ext
  rw [ByteArray.data_append]
  simp
theorem ba_extract (a : List UInt8) (l h : Nat) : (⟨a.toArray⟩ : ByteArray).extract l h = ⟨((a.drop l).take (h - l)).toArray⟩ := by
  apply ByteArray.ext
  rw [ByteArray.data_extract, List.extract_toArray, List.extract_eq_take_drop]
theorem ba_getElem? (a : List UInt8) (i : Nat) : (⟨a.toArray⟩ : ByteArray)[i]? = a[i]? := by
  by_cases h : i < a.length
  · rw [List.getElem?_eq_getElem h]
    have h2 : i < (⟨a.toArray⟩ : ByteArray).size := by rw [ba_size]; exact h
    rw [getElem?_pos _ i h2]
    show some (a.toArray[i]'(by simpa using h)) = _
    simp
  · rw [List.getElem?_eq_none (by omega)]
    have h2 : ¬ i < (⟨a.toArray⟩ : ByteArray).size := by rw [ba_size]; exact h
    rw [getElem?_neg _ i h2]
theorem ba_toList (a : List UInt8) : (⟨a.toArray⟩ : ByteArray).toList = a := by
  rw [ByteArray.toList_eq]
@[go_sem] theorem lit_string (l : List UInt8) : AV.lit (.string ⟨List.toArray l⟩) = Tx l := (rfl)
@[go_sem] theorem lit_stringE : AV.lit (.string ByteArray.empty) = Tx [] := (rfl)
@[go_sem] theorem ev_string (E : Nat → AV) (l : List UInt8) : ev E (.const (.string ⟨List.toArray l⟩)) = Tx l := (rfl)
@[go_sem] theorem ev_stringE (E : Nat → AV) : ev E (.const (.string ByteArray.empty)) = Tx [] := (rfl)
@[go_sem] theorem sopV_add (a b : List UInt8) (h : a.length + b.length ≤ 9223372036854775807) : sopV .add [Tx a, Tx b] = some (Tx (a ++ b)) := by
  simp only [sopV, Tx, ba_size, ba_append, if_pos h]
@[go_sem] theorem sopV_eql (a b : List UInt8) : sopV (.eql false) [Tx a, Tx b] = some (Bv (decide (a = b))) := by
  simp [sopV, Tx, ba_toList]
@[go_sem] theorem sopV_neq (a b : List UInt8) : sopV (.eql true) [Tx a, Tx b] = some (Bv (!decide (a = b))) := by
  simp [sopV, Tx, ba_toList]
@[go_sem] theorem sopV_len (a : List UInt8) : sopV .len [Tx a] = some (I a.length) := by
  simp [sopV, Tx, ba_size]
@[go_sem] theorem sopV_idx (a : List UInt8) (i : Nat) (h : i < a.length) : sopV .idx [Tx a, I (i : Int)] = some (U8 (a.getD i 0)) := by
  simp [sopV, Tx, I, U8, ba_getElem?, h]
@[go_sem] theorem sopV_slc (a : List UInt8) (l h : Nat) (h1 : l ≤ h) (h2 : h ≤ a.length) : sopV (.slc true true) [Tx a, I (l : Int), I (h : Int)] = some (Tx ((a.drop l).take (h - l))) := by
  simp [sopV, Tx, I, ba_size, ba_extract, h1, h2]
@[go_sem] theorem sopV_slcL (a : List UInt8) (l : Nat) (h : l ≤ a.length) : sopV (.slc true false) [Tx a, I (l : Int)] = some (Tx (a.drop l)) := by
  have : (a.drop l).take (a.length - l) = a.drop l := List.take_of_length_le (by simp)
  simp [sopV, Tx, I, ba_size, ba_extract, h, this]
@[go_sem] theorem sopV_nil0 : sopV (.nil false) [.lit .nilIface] = some (Bv true) := (rfl)
@[go_sem] theorem sopV_nil1 : sopV (.nil true) [.lit .nilIface] = some (Bv false) := (rfl)
@[go_sem] theorem sopV_err0 (t : TypeId) (v : Value) : sopV (.nil false) [.lit (.iface t v)] = some (Bv false) := (rfl)
@[go_sem] theorem sopV_err1 (t : TypeId) (v : Value) : sopV (.nil true) [.lit (.iface t v)] = some (Bv true) := (rfl)
@[go_sem] theorem cell1_Tx (l : List UInt8) : (Tx l).cell1 = true := (rfl)
@[go_sem] theorem partsOf_Tx (l : List UInt8) : partsOf (Tx l) = [Tx l] := (rfl)
@[go_sem] theorem Bel_Tx (b : Nat) (l : List UInt8) : Bel b (Tx l) = True := eq_true (.lit _)
@[go_sem] theorem cell1_U8 (b : UInt8) : (U8 b).cell1 = true := (rfl)
@[go_sem] theorem partsOf_U8 (b : UInt8) : partsOf (U8 b) = [U8 b] := (rfl)
@[go_sem] theorem Bel_U8 (k : Nat) (b : UInt8) : Bel k (U8 b) = True := eq_true (.lit _)
section
variable {H : List Blk} {Kv : AV → List Blk → Prop}
@[go_sem] theorem BinW_eqlU (a b : UInt8) : BinW .eql (U8 a) (U8 b) H Kv = Kv (Bv (decide (a = b))) H := by
  have : ((a.toNat : Int) == (b.toNat : Int)) = decide (a = b) := by
    rw [Bool.eq_iff_iff, beq_iff_eq, decide_eq_true_eq]
    exact ⟨fun h => UInt8.toNat_inj.1 (by omega), fun h => by rw [h]⟩
  simp [BinW, swpBin, U8, this]
@[go_sem] theorem BinW_neqU (a b : UInt8) : BinW .neq (U8 a) (U8 b) H Kv = Kv (Bv (!decide (a = b))) H := by
  have : ((a.toNat : Int) != (b.toNat : Int)) = !decide (a = b) := by
    have h : ((a.toNat : Int) == (b.toNat : Int)) = decide (a = b) := by
      rw [Bool.eq_iff_iff, beq_iff_eq, decide_eq_true_eq]
      exact ⟨fun h => UInt8.toNat_inj.1 (by omega), fun h => by rw [h]⟩
    show (!((a.toNat : Int) == (b.toNat : Int))) = _
    rw [h]
  simp [BinW, swpBin, U8, this]
@[go_sem] theorem BinW_leqU (a b : UInt8) : BinW .leq (U8 a) (U8 b) H Kv = Kv (Bv (decide (a.toNat ≤ b.toNat))) H := by
  simp [BinW, swpBin, U8]
@[go_sem] theorem BinW_geqU (a b : UInt8) : BinW .geq (U8 a) (U8 b) H Kv = Kv (Bv (decide (b.toNat ≤ a.toNat))) H := by
  simp [BinW, swpBin, U8]
@[go_sem] theorem ConvW_U8 (a : UInt8) : ConvW .i64 (U8 a) H Kv = Kv (I a.toNat) H := by
  have h : w64 (a.toNat : Int) = (a.toNat : Int) := w64_id (by omega) (by have := a.toNat_lt; omega)
  simp only [ConvW, U8]
  show Kv (I (w64 _)) H = _
  rw [h]
@[go_sem] theorem ev_u8 (E : Nat → AV) (i : Int) : ev E (.const (.int .u8 i)) = .lit (.int .u8 i) := (rfl)
@[go_sem] theorem u8_44 : AV.lit (.int .u8 44) = U8 44 := (rfl)
@[go_sem] theorem u8_45 : AV.lit (.int .u8 45) = U8 45 := (rfl)
@[go_sem] theorem u8_48 : AV.lit (.int .u8 48) = U8 48 := (rfl)
@[go_sem] theorem u8_57 : AV.lit (.int .u8 57) = U8 57 := (rfl)
@[go_sem] theorem u8_59 : AV.lit (.int .u8 59) = U8 59 := (rfl)
end
end Go.Av

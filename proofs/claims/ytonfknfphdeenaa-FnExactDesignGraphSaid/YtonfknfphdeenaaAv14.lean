/- The abstract layer, part 14: blocks at the heap's end, computed. -/
import Derived.Test.YtonfknfphdeenaaAv13
set_option linter.unusedSimpArgs false
set_option linter.unusedVariables false
set_option maxHeartbeats 4000000
set_option maxRecDepth 100000
namespace Go.Av

section
variable {H : List Blk} {p ver ty sz off n : Nat} {cells cs : List AV}
theorem pc_ld (hp : H[p]? = some ⟨ver, ty, sz, cells⟩) : acell1 H (.pc p ver off) = cells[off]? := by simp [acell1, hp]
theorem pc_alive (hp : H[p]? = some ⟨ver, ty, sz, cells⟩) : alive H (.pc p ver off) = True := by simp [alive, hp]
theorem pc_lds (hp : H[p]? = some ⟨ver, ty, sz, cells⟩) (hl : off + n ≤ cells.length) : acells H n (.pc p ver off) = some ((cells.drop off).take n) := by simp [acells, hp, hl]
theorem pc_st (hp : H[p]? = some ⟨ver, ty, sz, cells⟩) (hl : off + cs.length ≤ cells.length) : astore H cs (.pc p ver off) = some (H.set p ⟨ver, ty, sz, setMany cells off cs⟩) := by simp [astore, hp, hl]
end

/-- Looked up. -/
def PcL (ver off : Nat) : Option Blk → Option AV
  | some k => if k.ver = ver then k.cells[off]? else none
  | none => none
def PcV (ver : Nat) : Option Blk → Prop
  | some k => k.ver = ver
  | none => False
def PcG (ver off c : Nat) : Option Blk → Option (List AV)
  | some k => if k.ver = ver ∧ off + c ≤ k.cells.length then some ((k.cells.drop off).take c) else none
  | none => none
def PcS (H bs : List Blk) (j ver off : Nat) (cs : List AV) : Option Blk → Option (List Blk)
  | some k => if k.ver = ver ∧ off + cs.length ≤ k.cells.length then some (H ++ bs.set j { k with cells := setMany k.cells off cs }) else none
  | none => none
def NmV (ver off len : Nat) : Option Blk → Option (Nat × List AV)
  | some k => if k.ver = ver then some (len, (k.cells.drop off).take (len * k.sz)) else none
  | none => none

section
variable (H bs : List Blk) (j ver ty sz off n len : Nat) (cs cells : List AV)
theorem acell1_own : acell1 (H ++ bs) (.pc (H.length + j) ver off) = PcL ver off bs[j]? := by
  simp only [acell1, hget]; rfl
theorem acell1_own0 : acell1 (H ++ bs) (.pc H.length ver off) = PcL ver off bs[0]? := acell1_own H bs 0 ver off
theorem alive_own : alive (H ++ bs) (.pc (H.length + j) ver off) = PcV ver bs[j]? := by
  simp only [alive, hget]
  cases bs[j]? <;> simp [PcV]
theorem alive_own0 : alive (H ++ bs) (.pc H.length ver off) = PcV ver bs[0]? := alive_own H bs 0 ver off
theorem acells_own : acells (H ++ bs) n (.pc (H.length + j) ver off) = PcG ver off n bs[j]? := by
  simp only [acells, hget]; rfl
theorem acells_own0 : acells (H ++ bs) n (.pc H.length ver off) = PcG ver off n bs[0]? := acells_own H bs 0 ver off n
theorem astore_own : astore (H ++ bs) cs (.pc (H.length + j) ver off) = PcS H bs j ver off cs bs[j]? := by
  simp only [astore, hget]
  cases bs[j]? <;> simp [PcS, hset]
theorem astore_own0 : astore (H ++ bs) cs (.pc H.length ver off) = PcS H bs 0 ver off cs bs[0]? := astore_own H bs 0 ver off cs
theorem aview_own : aview (H ++ bs) (.nm (H.length + j) ver off len) = NmV ver off len bs[j]? := by
  simp only [aview, hget]; rfl
theorem aview_own0 : aview (H ++ bs) (.nm H.length ver off len) = NmV ver off len bs[0]? := aview_own H bs 0 ver off len
theorem PcL_some : PcL ver off (some ⟨ver, ty, sz, cells⟩) = cells[off]? := by simp [PcL]
theorem PcV_some : PcV ver (some ⟨ver, ty, sz, cells⟩) = True := by simp [PcV]
theorem PcG_some : PcG ver off n (some ⟨ver, ty, sz, cells⟩) = if off + n ≤ cells.length then some ((cells.drop off).take n) else none := by simp [PcG]
theorem PcS_some : PcS H bs j ver off cs (some ⟨ver, ty, sz, cells⟩) = if off + cs.length ≤ cells.length then some (H ++ bs.set j ⟨ver, ty, sz, setMany cells off cs⟩) else none := by simp [PcS]
theorem NmV_some : NmV ver 0 len (some ⟨ver, ty, 1, cells⟩) = some (len, cells.take len) := by simp [NmV]
theorem setMany_nil : setMany cells off [] = cells := (rfl)
theorem setMany_cons (c : AV) : setMany cells off (c :: cs) = setMany (cells.set off c) (off + 1) cs := (rfl)
theorem partsOf_agg : partsOf (.agg cs) = cs := (rfl)
theorem cell1_nm (i : Nat) : (AV.nm i ver off len).cell1 = true := (rfl)
theorem cell1_nil : nilS.cell1 = true := (rfl)
theorem cell1_il : (AV.il len cs).cell1 = true := (rfl)
theorem cell1_Bv (b : Bool) : (Bv b).cell1 = true := (rfl)
theorem cell1_pc (i : Nat) : (AV.pc i ver off).cell1 = true := (rfl)
theorem partsOf_nm (i : Nat) : partsOf (.nm i ver off len) = [.nm i ver off len] := (rfl)
theorem partsOf_il : partsOf (.il len cs) = [.il len cs] := (rfl)
theorem partsOf_nil : partsOf nilS = [nilS] := (rfl)
theorem partsOf_Bv (b : Bool) : partsOf (Bv b) = [Bv b] := (rfl)
theorem afill_nil : afill cells [] = some cells := (rfl)
theorem afill_cons (v : AV) (rest : List (Nat × Nat × AV)) : afill cells ((off, n, v) :: rest) = if (partsOf v).length = n ∧ off + n ≤ cells.length then afill (setMany cells off (partsOf v)) rest else none := (rfl)
end
end Go.Av

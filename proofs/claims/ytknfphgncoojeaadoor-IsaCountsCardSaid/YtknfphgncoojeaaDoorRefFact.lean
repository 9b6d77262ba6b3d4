/- What the parts of tandemref4.row are, opcode by opcode. -/
import Derived.Test.YtknfphgncoojeaaDoorRefTab
namespace Go.Proofs.YtknfphgncoojeaaDoor
open Go.RowKit

def nameL : List (List UInt8) := [
  [65, 68, 67], [65, 78, 68], [65, 83, 76], [66, 67, 67], [66, 67, 83], [66, 69, 81], [66, 73, 84], [66, 77, 73], [66, 78, 69], [66, 80, 76],
  [66, 82, 75], [66, 86, 67], [66, 86, 83], [67, 76, 67], [67, 76, 68], [67, 76, 73], [67, 76, 86], [67, 77, 80], [67, 80, 88], [67, 80, 89],
  [68, 69, 67], [68, 69, 88], [68, 69, 89], [69, 79, 82], [73, 78, 67], [73, 78, 88], [73, 78, 89], [74, 77, 80], [74, 83, 82], [76, 68, 65],
  [76, 68, 88], [76, 68, 89], [76, 83, 82], [78, 79, 80], [79, 82, 65], [80, 72, 65], [80, 72, 80], [80, 76, 65], [80, 76, 80], [82, 79, 76],
  [82, 79, 82], [82, 84, 73], [82, 84, 83], [83, 66, 67], [83, 69, 67], [83, 69, 68], [83, 69, 73], [83, 84, 65], [83, 84, 88], [83, 84, 89],
  [84, 65, 88], [84, 65, 89], [84, 83, 88], [84, 88, 65], [84, 88, 83], [84, 89, 65], [65, 76, 82], [65, 78, 67], [65, 82, 82], [68, 67, 80],
  [73, 83, 67], [76, 65, 83], [76, 65, 88], [82, 76, 65], [82, 82, 65], [83, 65, 88], [83, 66, 88], [83, 76, 79], [83, 82, 69], [74, 65, 77]]
theorem names_all : (List.range 70).all (fun j => ((namesB.data.toList.drop (3 * j)).take 3) == nameL.getD j []) = true := by decide +kernel
theorem names_apart : (List.range 70).all (fun j => (List.range j).all fun i => !(nameL.getD i [] == nameL.getD j [])) = true := by decide +kernel
theorem nameOf_L (j : Nat) (h : j < 70) : (nameOf (j : Int)).data.toList = nameL.getD j [] := by
  have hh := names_all
  rw [List.all_eq_true] at hh
  have := eq_of_beq (hh j (by simpa using h))
  rw [← this]
  unfold nameOf
  rw [ByteArray.data_extract, Array.toList_extract, List.extract_eq_take_drop]
  have e1 : (3 * (j : Int)).toNat = 3 * j := by omega
  have e2 : (3 * (j : Int) + 3).toNat - 3 * j = 3 := by omega
  rw [e1, e2]
theorem namedV_of (s : ByteArray) (j : Nat) (h : j < 70) (hs : (nameL.getD j [] == s.data.toList) = true) : namedV s = (j : Int) := by
  have hh := names_apart
  rw [List.all_eq_true] at hh
  have h1 := hh j (by simpa using h)
  rw [List.all_eq_true] at h1
  have : namedO s = some j := by
    unfold namedO
    rw [List.find?_range_eq_some]
    refine ⟨by unfold eqS; rw [nameOf_L j h, hs], by simpa using h, fun i hi => ?_⟩
    have h2 := h1 i (by simpa using hi)
    unfold eqS
    rw [nameOf_L i (by omega), ← eq_of_beq hs]
    exact h2
  unfold namedV
  rw [this]

def bA (l : List UInt8) : ByteArray := ⟨l.toArray⟩
/-- the cell without its brackets -/
def cutL (l : List UInt8) (f : Bool) : List UInt8 := if f then (l.drop 1).take (l.length - 1 - 1) else l
/-- the mode that the first k letters give -/
def modeAcc (l : List UInt8) : Nat → Nat
  | 0 => 0
  | k + 1 => if eqS (lettersL.getD k ⟨#[]⟩) l then k else modeAcc l k
def okC (l : List UInt8) (c : Nat) : Bool :=
  decide (1 ≤ l.length ∧ l.length < 100) && (((l.getD 0 0).toNat == 40) == fillB c) && decide (3 ≤ (cutL l (fillB c)).length) && (nameL.getD (opT c) [] == (cutL l (fillB c)).take 3) &&
  ((if 4 < (cutL l (fillB c)).length then modeAcc ((cutL l (fillB c)).drop 4) 13 else 0) == modeT c) && decide (modeT c < 13) && decide (opT c < 70) &&
  (kindR (bA ((cutL l (fillB c)).take 3)) (modeT c) (fillB c) == kindT c) &&
  ((if eqS (bA ((cutL l (fillB c)).take 3)) [74, 65, 77] then 2 else if fillB c then 3 else if 55 < opT c ∨ (eqS (bA ((cutL l (fillB c)).take 3)) [78, 79, 80] = true ∧ c ≠ 234) ∨ c = 235 then 1 else 0) == classT c)
theorem okC_all : (List.range 256).all (fun c => okC (cellL.getD c []) c) = true := by decide +kernel
theorem okC_at (c : Nat) (h : c < 256) : okC (cellL.getD c []) c = true := by
  have := okC_all
  rw [List.all_eq_true] at this
  exact this c (by simpa using h)
end Go.Proofs.YtknfphgncoojeaaDoor

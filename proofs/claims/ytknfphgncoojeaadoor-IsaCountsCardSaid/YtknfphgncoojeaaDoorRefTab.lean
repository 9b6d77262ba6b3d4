/- The document's table, read: the facts that its rows need. -/
import Derived.Test.YtknfphgncoojeaaDoorRefKind
import Derived.Test.YtknfphgncoojeaaDoorIsaKind
namespace Go.Proofs.YtknfphgncoojeaaDoor
open Go.RowKit

/-- cellN over a list -/
def cellM : List UInt8 → Nat → Nat → Nat → Nat × Nat
  | [], i, fr, _ => (fr, i)
  | x :: l, i, fr, k => if x = 124 then (if k = 0 then (fr, i) else cellM l (i + 1) (i + 1) (k - 1)) else cellM l (i + 1) fr k
theorem getB (b : ByteArray) (i : Nat) (h : i < b.size) : b[i]! = b.data.toList[i]'h := by
  rw [getElem!_pos b i h]; rfl
theorem cellN_M (b : ByteArray) : ∀ (n fr k : Nat), n ≤ b.size → cellN b n fr k = cellM (b.data.toList.drop (b.size - n)) (b.size - n) fr k
  | 0, fr, k, h => by
    have e : b.data.toList.drop (b.size - 0) = [] := List.drop_eq_nil_of_le (by show b.data.size ≤ _; exact Nat.le_refl _)
    rw [e]; rfl
  | n + 1, fr, k, h => by
    have hl : b.size - (n + 1) < b.data.toList.length := by show _ < b.size; omega
    rw [List.drop_eq_getElem_cons hl]
    unfold cellN cellM
    have e : b.size - (n + 1) + 1 = b.size - n := by omega
    rw [getB b _ (by omega), e, cellN_M b n _ _ (by omega), cellN_M b n _ _ (by omega)]
def cL (l : List UInt8) (k : Nat) : List UInt8 := (l.drop (cellM l 0 0 k).1).take ((cellM l 0 0 k).2 - (cellM l 0 0 k).1)
theorem cellOf_L (b : ByteArray) (k : Nat) : (cellOf b k).data.toList = cL b.data.toList k := by
  unfold cellOf cL
  rw [cellN_M b b.size 0 k (Nat.le_refl _), Nat.sub_self, List.drop_zero, ByteArray.data_extract, Array.toList_extract, List.extract_eq_take_drop]
def cellL : List (List UInt8) := [
  [66, 82, 75], [79, 82, 65, 32, 105, 120], [74, 65, 77], [83, 76, 79, 32, 105, 120], [78, 79, 80, 32, 122], [79, 82, 65, 32, 122], [65, 83, 76, 32, 122], [83, 76, 79, 32, 122],
  [80, 72, 80], [79, 82, 65, 32, 105], [65, 83, 76, 32, 97], [65, 78, 67, 32, 105], [78, 79, 80, 32, 119], [79, 82, 65, 32, 119], [65, 83, 76, 32, 119], [83, 76, 79, 32, 119],
  [66, 80, 76, 32, 114], [79, 82, 65, 32, 105, 121], [74, 65, 77], [83, 76, 79, 32, 105, 121], [78, 79, 80, 32, 122, 120], [79, 82, 65, 32, 122, 120], [65, 83, 76, 32, 122, 120], [83, 76, 79, 32, 122, 120],
  [67, 76, 67], [79, 82, 65, 32, 119, 121], [78, 79, 80], [83, 76, 79, 32, 119, 121], [78, 79, 80, 32, 119, 120], [79, 82, 65, 32, 119, 120], [65, 83, 76, 32, 119, 120], [83, 76, 79, 32, 119, 120],
  [74, 83, 82, 32, 119], [65, 78, 68, 32, 105, 120], [74, 65, 77], [82, 76, 65, 32, 105, 120], [66, 73, 84, 32, 122], [65, 78, 68, 32, 122], [82, 79, 76, 32, 122], [82, 76, 65, 32, 122],
  [80, 76, 80], [65, 78, 68, 32, 105], [82, 79, 76, 32, 97], [65, 78, 67, 32, 105], [66, 73, 84, 32, 119], [65, 78, 68, 32, 119], [82, 79, 76, 32, 119], [82, 76, 65, 32, 119],
  [66, 77, 73, 32, 114], [65, 78, 68, 32, 105, 121], [74, 65, 77], [82, 76, 65, 32, 105, 121], [78, 79, 80, 32, 122, 120], [65, 78, 68, 32, 122, 120], [82, 79, 76, 32, 122, 120], [82, 76, 65, 32, 122, 120],
  [83, 69, 67], [65, 78, 68, 32, 119, 121], [78, 79, 80], [82, 76, 65, 32, 119, 121], [78, 79, 80, 32, 119, 120], [65, 78, 68, 32, 119, 120], [82, 79, 76, 32, 119, 120], [82, 76, 65, 32, 119, 120],
  [82, 84, 73], [69, 79, 82, 32, 105, 120], [74, 65, 77], [83, 82, 69, 32, 105, 120], [78, 79, 80, 32, 122], [69, 79, 82, 32, 122], [76, 83, 82, 32, 122], [83, 82, 69, 32, 122],
  [80, 72, 65], [69, 79, 82, 32, 105], [76, 83, 82, 32, 97], [65, 76, 82, 32, 105], [74, 77, 80, 32, 119], [69, 79, 82, 32, 119], [76, 83, 82, 32, 119], [83, 82, 69, 32, 119],
  [66, 86, 67, 32, 114], [69, 79, 82, 32, 105, 121], [74, 65, 77], [83, 82, 69, 32, 105, 121], [78, 79, 80, 32, 122, 120], [69, 79, 82, 32, 122, 120], [76, 83, 82, 32, 122, 120], [83, 82, 69, 32, 122, 120],
  [67, 76, 73], [69, 79, 82, 32, 119, 121], [78, 79, 80], [83, 82, 69, 32, 119, 121], [78, 79, 80, 32, 119, 120], [69, 79, 82, 32, 119, 120], [76, 83, 82, 32, 119, 120], [83, 82, 69, 32, 119, 120],
  [82, 84, 83], [65, 68, 67, 32, 105, 120], [74, 65, 77], [82, 82, 65, 32, 105, 120], [78, 79, 80, 32, 122], [65, 68, 67, 32, 122], [82, 79, 82, 32, 122], [82, 82, 65, 32, 122],
  [80, 76, 65], [65, 68, 67, 32, 105], [82, 79, 82, 32, 97], [65, 82, 82, 32, 105], [74, 77, 80, 32, 110], [65, 68, 67, 32, 119], [82, 79, 82, 32, 119], [82, 82, 65, 32, 119],
  [66, 86, 83, 32, 114], [65, 68, 67, 32, 105, 121], [74, 65, 77], [82, 82, 65, 32, 105, 121], [78, 79, 80, 32, 122, 120], [65, 68, 67, 32, 122, 120], [82, 79, 82, 32, 122, 120], [82, 82, 65, 32, 122, 120],
  [83, 69, 73], [65, 68, 67, 32, 119, 121], [78, 79, 80], [82, 82, 65, 32, 119, 121], [78, 79, 80, 32, 119, 120], [65, 68, 67, 32, 119, 120], [82, 79, 82, 32, 119, 120], [82, 82, 65, 32, 119, 120],
  [78, 79, 80, 32, 105], [83, 84, 65, 32, 105, 120], [78, 79, 80, 32, 105], [83, 65, 88, 32, 105, 120], [83, 84, 89, 32, 122], [83, 84, 65, 32, 122], [83, 84, 88, 32, 122], [83, 65, 88, 32, 122],
  [68, 69, 89], [78, 79, 80, 32, 105], [84, 88, 65], [40, 78, 79, 80, 32, 105, 41], [83, 84, 89, 32, 119], [83, 84, 65, 32, 119], [83, 84, 88, 32, 119], [83, 65, 88, 32, 119],
  [66, 67, 67, 32, 114], [83, 84, 65, 32, 105, 121], [74, 65, 77], [40, 78, 79, 80, 32, 105, 121, 41], [83, 84, 89, 32, 122, 120], [83, 84, 65, 32, 122, 120], [83, 84, 88, 32, 122, 121], [83, 65, 88, 32, 122, 121],
  [84, 89, 65], [83, 84, 65, 32, 119, 121], [84, 88, 83], [40, 78, 79, 80, 32, 119, 121, 41], [40, 78, 79, 80, 32, 119, 120, 41], [83, 84, 65, 32, 119, 120], [40, 78, 79, 80, 32, 119, 121, 41], [40, 78, 79, 80, 32, 119, 121, 41],
  [76, 68, 89, 32, 105], [76, 68, 65, 32, 105, 120], [76, 68, 88, 32, 105], [76, 65, 88, 32, 105, 120], [76, 68, 89, 32, 122], [76, 68, 65, 32, 122], [76, 68, 88, 32, 122], [76, 65, 88, 32, 122],
  [84, 65, 89], [76, 68, 65, 32, 105], [84, 65, 88], [40, 78, 79, 80, 32, 105, 41], [76, 68, 89, 32, 119], [76, 68, 65, 32, 119], [76, 68, 88, 32, 119], [76, 65, 88, 32, 119],
  [66, 67, 83, 32, 114], [76, 68, 65, 32, 105, 121], [74, 65, 77], [76, 65, 88, 32, 105, 121], [76, 68, 89, 32, 122, 120], [76, 68, 65, 32, 122, 120], [76, 68, 88, 32, 122, 121], [76, 65, 88, 32, 122, 121],
  [67, 76, 86], [76, 68, 65, 32, 119, 121], [84, 83, 88], [76, 65, 83, 32, 119, 121], [76, 68, 89, 32, 119, 120], [76, 68, 65, 32, 119, 120], [76, 68, 88, 32, 119, 121], [76, 65, 88, 32, 119, 121],
  [67, 80, 89, 32, 105], [67, 77, 80, 32, 105, 120], [78, 79, 80, 32, 105], [68, 67, 80, 32, 105, 120], [67, 80, 89, 32, 122], [67, 77, 80, 32, 122], [68, 69, 67, 32, 122], [68, 67, 80, 32, 122],
  [73, 78, 89], [67, 77, 80, 32, 105], [68, 69, 88], [83, 66, 88, 32, 105], [67, 80, 89, 32, 119], [67, 77, 80, 32, 119], [68, 69, 67, 32, 119], [68, 67, 80, 32, 119],
  [66, 78, 69, 32, 114], [67, 77, 80, 32, 105, 121], [74, 65, 77], [68, 67, 80, 32, 105, 121], [78, 79, 80, 32, 122, 120], [67, 77, 80, 32, 122, 120], [68, 69, 67, 32, 122, 120], [68, 67, 80, 32, 122, 120],
  [67, 76, 68], [67, 77, 80, 32, 119, 121], [78, 79, 80], [68, 67, 80, 32, 119, 121], [78, 79, 80, 32, 119, 120], [67, 77, 80, 32, 119, 120], [68, 69, 67, 32, 119, 120], [68, 67, 80, 32, 119, 120],
  [67, 80, 88, 32, 105], [83, 66, 67, 32, 105, 120], [78, 79, 80, 32, 105], [73, 83, 67, 32, 105, 120], [67, 80, 88, 32, 122], [83, 66, 67, 32, 122], [73, 78, 67, 32, 122], [73, 83, 67, 32, 122],
  [73, 78, 88], [83, 66, 67, 32, 105], [78, 79, 80], [83, 66, 67, 32, 105], [67, 80, 88, 32, 119], [83, 66, 67, 32, 119], [73, 78, 67, 32, 119], [73, 83, 67, 32, 119],
  [66, 69, 81, 32, 114], [83, 66, 67, 32, 105, 121], [74, 65, 77], [73, 83, 67, 32, 105, 121], [78, 79, 80, 32, 122, 120], [83, 66, 67, 32, 122, 120], [73, 78, 67, 32, 122, 120], [73, 83, 67, 32, 122, 120],
  [83, 69, 68], [83, 66, 67, 32, 119, 121], [78, 79, 80], [73, 83, 67, 32, 119, 121], [78, 79, 80, 32, 119, 120], [83, 66, 67, 32, 119, 120], [73, 78, 67, 32, 119, 120], [73, 83, 67, 32, 119, 120]]
def cellA (c : Nat) : ByteArray := ⟨(cellL.getD c []).toArray⟩
theorem cells0 : (List.range 16).all (fun j => cL refB0.data.toList j == cellL.getD (0 + j) []) = true := by decide +kernel
theorem cells1 : (List.range 16).all (fun j => cL refB1.data.toList j == cellL.getD (16 + j) []) = true := by decide +kernel
theorem cells2 : (List.range 16).all (fun j => cL refB2.data.toList j == cellL.getD (32 + j) []) = true := by decide +kernel
theorem cells3 : (List.range 16).all (fun j => cL refB3.data.toList j == cellL.getD (48 + j) []) = true := by decide +kernel
theorem cells4 : (List.range 16).all (fun j => cL refB4.data.toList j == cellL.getD (64 + j) []) = true := by decide +kernel
theorem cells5 : (List.range 16).all (fun j => cL refB5.data.toList j == cellL.getD (80 + j) []) = true := by decide +kernel
theorem cells6 : (List.range 16).all (fun j => cL refB6.data.toList j == cellL.getD (96 + j) []) = true := by decide +kernel
theorem cells7 : (List.range 16).all (fun j => cL refB7.data.toList j == cellL.getD (112 + j) []) = true := by decide +kernel
theorem cells8 : (List.range 16).all (fun j => cL refB8.data.toList j == cellL.getD (128 + j) []) = true := by decide +kernel
theorem cells9 : (List.range 16).all (fun j => cL refB9.data.toList j == cellL.getD (144 + j) []) = true := by decide +kernel
theorem cells10 : (List.range 16).all (fun j => cL refB10.data.toList j == cellL.getD (160 + j) []) = true := by decide +kernel
theorem cells11 : (List.range 16).all (fun j => cL refB11.data.toList j == cellL.getD (176 + j) []) = true := by decide +kernel
theorem cells12 : (List.range 16).all (fun j => cL refB12.data.toList j == cellL.getD (192 + j) []) = true := by decide +kernel
theorem cells13 : (List.range 16).all (fun j => cL refB13.data.toList j == cellL.getD (208 + j) []) = true := by decide +kernel
theorem cells14 : (List.range 16).all (fun j => cL refB14.data.toList j == cellL.getD (224 + j) []) = true := by decide +kernel
theorem cells15 : (List.range 16).all (fun j => cL refB15.data.toList j == cellL.getD (240 + j) []) = true := by decide +kernel
theorem cells_at (k j : Nat) (hk : k < 16) (hj : j < 16) : cellOf (refB k) j = cellA (16 * k + j) := by
  have hp : cL (refB k).data.toList j = cellL.getD (16 * k + j) [] := by
    have h : k = 0 ∨ k = 1 ∨ k = 2 ∨ k = 3 ∨ k = 4 ∨ k = 5 ∨ k = 6 ∨ k = 7 ∨ k = 8 ∨ k = 9 ∨ k = 10 ∨ k = 11 ∨ k = 12 ∨ k = 13 ∨ k = 14 ∨ k = 15 := by omega
    have g : ∀ (r : List UInt8) (b : Nat), (List.range 16).all (fun j => cL r j == cellL.getD (b + j) []) = true → cL r j = cellL.getD (b + j) [] := by
      intro r b hh
      rw [List.all_eq_true] at hh
      exact eq_of_beq (hh j (by simpa using hj))
    rcases h with rfl | rfl | rfl | rfl | rfl | rfl | rfl | rfl | rfl | rfl | rfl | rfl | rfl | rfl | rfl | rfl
    · exact g _ _ cells0
    · exact g _ _ cells1
    · exact g _ _ cells2
    · exact g _ _ cells3
    · exact g _ _ cells4
    · exact g _ _ cells5
    · exact g _ _ cells6
    · exact g _ _ cells7
    · exact g _ _ cells8
    · exact g _ _ cells9
    · exact g _ _ cells10
    · exact g _ _ cells11
    · exact g _ _ cells12
    · exact g _ _ cells13
    · exact g _ _ cells14
    · exact g _ _ cells15
  have hq := (cellOf_L (refB k) j).trans hp
  unfold cellA
  rw [← hq]
theorem cell_is (c : Nat) (h : c < 256) : cellOf (refB (c / 16)) (c % 16) = cellA c := by
  have := cells_at (c / 16) (c % 16) (by omega) (by omega)
  rw [show 16 * (c / 16) + c % 16 = c from by omega] at this
  exact this
def lettersL : List ByteArray := [⟨#[]⟩, ⟨#[97]⟩, ⟨#[105]⟩, ⟨#[122]⟩, ⟨#[122, 120]⟩, ⟨#[122, 121]⟩, ⟨#[105, 120]⟩, ⟨#[105, 121]⟩, ⟨#[119]⟩, ⟨#[119, 120]⟩, ⟨#[119, 121]⟩, ⟨#[110]⟩, ⟨#[114]⟩]
def lettersA : Array Value := (lettersL.map Value.string).toArray
end Go.Proofs.YtknfphgncoojeaaDoor

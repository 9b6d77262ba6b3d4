/- tandemref4.line: the contract. -/
import Derived.Test.YtknfphgncoojeaaDoorProg
import Derived.WalkKit
import Derived.WalkLawsBesides
import Derived.KernelRfl
namespace Go.Proofs.YtknfphgncoojeaaDoor
open Go.RowKit

def refB0 : ByteArray := ⟨#[66, 82, 75, 124, 79, 82, 65, 32, 105, 120, 124, 74, 65, 77, 124, 83, 76, 79, 32, 105, 120, 124, 78, 79, 80, 32, 122, 124, 79, 82, 65, 32, 122, 124, 65, 83, 76, 32, 122, 124, 83, 76, 79, 32, 122, 124, 80, 72, 80, 124, 79, 82, 65, 32, 105, 124, 65, 83, 76, 32, 97, 124, 65, 78, 67, 32, 105, 124, 78, 79, 80, 32, 119, 124, 79, 82, 65, 32, 119, 124, 65, 83, 76, 32, 119, 124, 83, 76, 79, 32, 119]⟩
def refB1 : ByteArray := ⟨#[66, 80, 76, 32, 114, 124, 79, 82, 65, 32, 105, 121, 124, 74, 65, 77, 124, 83, 76, 79, 32, 105, 121, 124, 78, 79, 80, 32, 122, 120, 124, 79, 82, 65, 32, 122, 120, 124, 65, 83, 76, 32, 122, 120, 124, 83, 76, 79, 32, 122, 120, 124, 67, 76, 67, 124, 79, 82, 65, 32, 119, 121, 124, 78, 79, 80, 124, 83, 76, 79, 32, 119, 121, 124, 78, 79, 80, 32, 119, 120, 124, 79, 82, 65, 32, 119, 120, 124, 65, 83, 76, 32, 119, 120, 124, 83, 76, 79, 32, 119, 120]⟩
def refB2 : ByteArray := ⟨#[74, 83, 82, 32, 119, 124, 65, 78, 68, 32, 105, 120, 124, 74, 65, 77, 124, 82, 76, 65, 32, 105, 120, 124, 66, 73, 84, 32, 122, 124, 65, 78, 68, 32, 122, 124, 82, 79, 76, 32, 122, 124, 82, 76, 65, 32, 122, 124, 80, 76, 80, 124, 65, 78, 68, 32, 105, 124, 82, 79, 76, 32, 97, 124, 65, 78, 67, 32, 105, 124, 66, 73, 84, 32, 119, 124, 65, 78, 68, 32, 119, 124, 82, 79, 76, 32, 119, 124, 82, 76, 65, 32, 119]⟩
def refB3 : ByteArray := ⟨#[66, 77, 73, 32, 114, 124, 65, 78, 68, 32, 105, 121, 124, 74, 65, 77, 124, 82, 76, 65, 32, 105, 121, 124, 78, 79, 80, 32, 122, 120, 124, 65, 78, 68, 32, 122, 120, 124, 82, 79, 76, 32, 122, 120, 124, 82, 76, 65, 32, 122, 120, 124, 83, 69, 67, 124, 65, 78, 68, 32, 119, 121, 124, 78, 79, 80, 124, 82, 76, 65, 32, 119, 121, 124, 78, 79, 80, 32, 119, 120, 124, 65, 78, 68, 32, 119, 120, 124, 82, 79, 76, 32, 119, 120, 124, 82, 76, 65, 32, 119, 120]⟩
def refB4 : ByteArray := ⟨#[82, 84, 73, 124, 69, 79, 82, 32, 105, 120, 124, 74, 65, 77, 124, 83, 82, 69, 32, 105, 120, 124, 78, 79, 80, 32, 122, 124, 69, 79, 82, 32, 122, 124, 76, 83, 82, 32, 122, 124, 83, 82, 69, 32, 122, 124, 80, 72, 65, 124, 69, 79, 82, 32, 105, 124, 76, 83, 82, 32, 97, 124, 65, 76, 82, 32, 105, 124, 74, 77, 80, 32, 119, 124, 69, 79, 82, 32, 119, 124, 76, 83, 82, 32, 119, 124, 83, 82, 69, 32, 119]⟩
def refB5 : ByteArray := ⟨#[66, 86, 67, 32, 114, 124, 69, 79, 82, 32, 105, 121, 124, 74, 65, 77, 124, 83, 82, 69, 32, 105, 121, 124, 78, 79, 80, 32, 122, 120, 124, 69, 79, 82, 32, 122, 120, 124, 76, 83, 82, 32, 122, 120, 124, 83, 82, 69, 32, 122, 120, 124, 67, 76, 73, 124, 69, 79, 82, 32, 119, 121, 124, 78, 79, 80, 124, 83, 82, 69, 32, 119, 121, 124, 78, 79, 80, 32, 119, 120, 124, 69, 79, 82, 32, 119, 120, 124, 76, 83, 82, 32, 119, 120, 124, 83, 82, 69, 32, 119, 120]⟩
def refB6 : ByteArray := ⟨#[82, 84, 83, 124, 65, 68, 67, 32, 105, 120, 124, 74, 65, 77, 124, 82, 82, 65, 32, 105, 120, 124, 78, 79, 80, 32, 122, 124, 65, 68, 67, 32, 122, 124, 82, 79, 82, 32, 122, 124, 82, 82, 65, 32, 122, 124, 80, 76, 65, 124, 65, 68, 67, 32, 105, 124, 82, 79, 82, 32, 97, 124, 65, 82, 82, 32, 105, 124, 74, 77, 80, 32, 110, 124, 65, 68, 67, 32, 119, 124, 82, 79, 82, 32, 119, 124, 82, 82, 65, 32, 119]⟩
def refB7 : ByteArray := ⟨#[66, 86, 83, 32, 114, 124, 65, 68, 67, 32, 105, 121, 124, 74, 65, 77, 124, 82, 82, 65, 32, 105, 121, 124, 78, 79, 80, 32, 122, 120, 124, 65, 68, 67, 32, 122, 120, 124, 82, 79, 82, 32, 122, 120, 124, 82, 82, 65, 32, 122, 120, 124, 83, 69, 73, 124, 65, 68, 67, 32, 119, 121, 124, 78, 79, 80, 124, 82, 82, 65, 32, 119, 121, 124, 78, 79, 80, 32, 119, 120, 124, 65, 68, 67, 32, 119, 120, 124, 82, 79, 82, 32, 119, 120, 124, 82, 82, 65, 32, 119, 120]⟩
def refB8 : ByteArray := ⟨#[78, 79, 80, 32, 105, 124, 83, 84, 65, 32, 105, 120, 124, 78, 79, 80, 32, 105, 124, 83, 65, 88, 32, 105, 120, 124, 83, 84, 89, 32, 122, 124, 83, 84, 65, 32, 122, 124, 83, 84, 88, 32, 122, 124, 83, 65, 88, 32, 122, 124, 68, 69, 89, 124, 78, 79, 80, 32, 105, 124, 84, 88, 65, 124, 40, 78, 79, 80, 32, 105, 41, 124, 83, 84, 89, 32, 119, 124, 83, 84, 65, 32, 119, 124, 83, 84, 88, 32, 119, 124, 83, 65, 88, 32, 119]⟩
def refB9 : ByteArray := ⟨#[66, 67, 67, 32, 114, 124, 83, 84, 65, 32, 105, 121, 124, 74, 65, 77, 124, 40, 78, 79, 80, 32, 105, 121, 41, 124, 83, 84, 89, 32, 122, 120, 124, 83, 84, 65, 32, 122, 120, 124, 83, 84, 88, 32, 122, 121, 124, 83, 65, 88, 32, 122, 121, 124, 84, 89, 65, 124, 83, 84, 65, 32, 119, 121, 124, 84, 88, 83, 124, 40, 78, 79, 80, 32, 119, 121, 41, 124, 40, 78, 79, 80, 32, 119, 120, 41, 124, 83, 84, 65, 32, 119, 120, 124, 40, 78, 79, 80, 32, 119, 121, 41, 124, 40, 78, 79, 80, 32, 119, 121, 41]⟩
def refB10 : ByteArray := ⟨#[76, 68, 89, 32, 105, 124, 76, 68, 65, 32, 105, 120, 124, 76, 68, 88, 32, 105, 124, 76, 65, 88, 32, 105, 120, 124, 76, 68, 89, 32, 122, 124, 76, 68, 65, 32, 122, 124, 76, 68, 88, 32, 122, 124, 76, 65, 88, 32, 122, 124, 84, 65, 89, 124, 76, 68, 65, 32, 105, 124, 84, 65, 88, 124, 40, 78, 79, 80, 32, 105, 41, 124, 76, 68, 89, 32, 119, 124, 76, 68, 65, 32, 119, 124, 76, 68, 88, 32, 119, 124, 76, 65, 88, 32, 119]⟩
def refB11 : ByteArray := ⟨#[66, 67, 83, 32, 114, 124, 76, 68, 65, 32, 105, 121, 124, 74, 65, 77, 124, 76, 65, 88, 32, 105, 121, 124, 76, 68, 89, 32, 122, 120, 124, 76, 68, 65, 32, 122, 120, 124, 76, 68, 88, 32, 122, 121, 124, 76, 65, 88, 32, 122, 121, 124, 67, 76, 86, 124, 76, 68, 65, 32, 119, 121, 124, 84, 83, 88, 124, 76, 65, 83, 32, 119, 121, 124, 76, 68, 89, 32, 119, 120, 124, 76, 68, 65, 32, 119, 120, 124, 76, 68, 88, 32, 119, 121, 124, 76, 65, 88, 32, 119, 121]⟩
def refB12 : ByteArray := ⟨#[67, 80, 89, 32, 105, 124, 67, 77, 80, 32, 105, 120, 124, 78, 79, 80, 32, 105, 124, 68, 67, 80, 32, 105, 120, 124, 67, 80, 89, 32, 122, 124, 67, 77, 80, 32, 122, 124, 68, 69, 67, 32, 122, 124, 68, 67, 80, 32, 122, 124, 73, 78, 89, 124, 67, 77, 80, 32, 105, 124, 68, 69, 88, 124, 83, 66, 88, 32, 105, 124, 67, 80, 89, 32, 119, 124, 67, 77, 80, 32, 119, 124, 68, 69, 67, 32, 119, 124, 68, 67, 80, 32, 119]⟩
def refB13 : ByteArray := ⟨#[66, 78, 69, 32, 114, 124, 67, 77, 80, 32, 105, 121, 124, 74, 65, 77, 124, 68, 67, 80, 32, 105, 121, 124, 78, 79, 80, 32, 122, 120, 124, 67, 77, 80, 32, 122, 120, 124, 68, 69, 67, 32, 122, 120, 124, 68, 67, 80, 32, 122, 120, 124, 67, 76, 68, 124, 67, 77, 80, 32, 119, 121, 124, 78, 79, 80, 124, 68, 67, 80, 32, 119, 121, 124, 78, 79, 80, 32, 119, 120, 124, 67, 77, 80, 32, 119, 120, 124, 68, 69, 67, 32, 119, 120, 124, 68, 67, 80, 32, 119, 120]⟩
def refB14 : ByteArray := ⟨#[67, 80, 88, 32, 105, 124, 83, 66, 67, 32, 105, 120, 124, 78, 79, 80, 32, 105, 124, 73, 83, 67, 32, 105, 120, 124, 67, 80, 88, 32, 122, 124, 83, 66, 67, 32, 122, 124, 73, 78, 67, 32, 122, 124, 73, 83, 67, 32, 122, 124, 73, 78, 88, 124, 83, 66, 67, 32, 105, 124, 78, 79, 80, 124, 83, 66, 67, 32, 105, 124, 67, 80, 88, 32, 119, 124, 83, 66, 67, 32, 119, 124, 73, 78, 67, 32, 119, 124, 73, 83, 67, 32, 119]⟩
def refB15 : ByteArray := ⟨#[66, 69, 81, 32, 114, 124, 83, 66, 67, 32, 105, 121, 124, 74, 65, 77, 124, 73, 83, 67, 32, 105, 121, 124, 78, 79, 80, 32, 122, 120, 124, 83, 66, 67, 32, 122, 120, 124, 73, 78, 67, 32, 122, 120, 124, 73, 83, 67, 32, 122, 120, 124, 83, 69, 68, 124, 83, 66, 67, 32, 119, 121, 124, 78, 79, 80, 124, 73, 83, 67, 32, 119, 121, 124, 78, 79, 80, 32, 119, 120, 124, 83, 66, 67, 32, 119, 120, 124, 73, 78, 67, 32, 119, 120, 124, 73, 83, 67, 32, 119, 120]⟩
def refB : Nat → ByteArray
  | 0 => refB0
  | 1 => refB1
  | 2 => refB2
  | 3 => refB3
  | 4 => refB4
  | 5 => refB5
  | 6 => refB6
  | 7 => refB7
  | 8 => refB8
  | 9 => refB9
  | 10 => refB10
  | 11 => refB11
  | 12 => refB12
  | 13 => refB13
  | 14 => refB14
  | _ => refB15

set_option maxRecDepth 100000 in
set_option maxHeartbeats 1000000 in
theorem refline0 (w : World) : Calls Tryd.prog 82 #[.int .u8 0] w fun e w' => e = .returned (.string refB0) ∧ w = w' := by
  go_enter Tryd.func82, Tryd.ntmps82
  go_wp2
  go_ret
  exact ⟨rfl, rfl⟩
set_option maxRecDepth 100000 in
set_option maxHeartbeats 1000000 in
theorem refline1 (w : World) : Calls Tryd.prog 82 #[.int .u8 1] w fun e w' => e = .returned (.string refB1) ∧ w = w' := by
  go_enter Tryd.func82, Tryd.ntmps82
  go_wp2
  go_ret
  exact ⟨rfl, rfl⟩
set_option maxRecDepth 100000 in
set_option maxHeartbeats 1000000 in
theorem refline2 (w : World) : Calls Tryd.prog 82 #[.int .u8 2] w fun e w' => e = .returned (.string refB2) ∧ w = w' := by
  go_enter Tryd.func82, Tryd.ntmps82
  go_wp2
  go_ret
  exact ⟨rfl, rfl⟩
set_option maxRecDepth 100000 in
set_option maxHeartbeats 1000000 in
theorem refline3 (w : World) : Calls Tryd.prog 82 #[.int .u8 3] w fun e w' => e = .returned (.string refB3) ∧ w = w' := by
  go_enter Tryd.func82, Tryd.ntmps82
  go_wp2
  go_ret
  exact ⟨rfl, rfl⟩
set_option maxRecDepth 100000 in
set_option maxHeartbeats 1000000 in
theorem refline4 (w : World) : Calls Tryd.prog 82 #[.int .u8 4] w fun e w' => e = .returned (.string refB4) ∧ w = w' := by
  go_enter Tryd.func82, Tryd.ntmps82
  go_wp2
  go_ret
  exact ⟨rfl, rfl⟩
set_option maxRecDepth 100000 in
set_option maxHeartbeats 1000000 in
theorem refline5 (w : World) : Calls Tryd.prog 82 #[.int .u8 5] w fun e w' => e = .returned (.string refB5) ∧ w = w' := by
  go_enter Tryd.func82, Tryd.ntmps82
  go_wp2
  go_ret
  exact ⟨rfl, rfl⟩
set_option maxRecDepth 100000 in
set_option maxHeartbeats 1000000 in
theorem refline6 (w : World) : Calls Tryd.prog 82 #[.int .u8 6] w fun e w' => e = .returned (.string refB6) ∧ w = w' := by
  go_enter Tryd.func82, Tryd.ntmps82
  go_wp2
  go_ret
  exact ⟨rfl, rfl⟩
set_option maxRecDepth 100000 in
set_option maxHeartbeats 1000000 in
theorem refline7 (w : World) : Calls Tryd.prog 82 #[.int .u8 7] w fun e w' => e = .returned (.string refB7) ∧ w = w' := by
  go_enter Tryd.func82, Tryd.ntmps82
  go_wp2
  go_ret
  exact ⟨rfl, rfl⟩
set_option maxRecDepth 100000 in
set_option maxHeartbeats 1000000 in
theorem refline8 (w : World) : Calls Tryd.prog 82 #[.int .u8 8] w fun e w' => e = .returned (.string refB8) ∧ w = w' := by
  go_enter Tryd.func82, Tryd.ntmps82
  go_wp2
  go_ret
  exact ⟨rfl, rfl⟩
set_option maxRecDepth 100000 in
set_option maxHeartbeats 1000000 in
theorem refline9 (w : World) : Calls Tryd.prog 82 #[.int .u8 9] w fun e w' => e = .returned (.string refB9) ∧ w = w' := by
  go_enter Tryd.func82, Tryd.ntmps82
  go_wp2
  go_ret
  exact ⟨rfl, rfl⟩
set_option maxRecDepth 100000 in
set_option maxHeartbeats 1000000 in
theorem refline10 (w : World) : Calls Tryd.prog 82 #[.int .u8 10] w fun e w' => e = .returned (.string refB10) ∧ w = w' := by
  go_enter Tryd.func82, Tryd.ntmps82
  go_wp2
  go_ret
  exact ⟨rfl, rfl⟩
set_option maxRecDepth 100000 in
set_option maxHeartbeats 1000000 in
theorem refline11 (w : World) : Calls Tryd.prog 82 #[.int .u8 11] w fun e w' => e = .returned (.string refB11) ∧ w = w' := by
  go_enter Tryd.func82, Tryd.ntmps82
  go_wp2
  go_ret
  exact ⟨rfl, rfl⟩
set_option maxRecDepth 100000 in
set_option maxHeartbeats 1000000 in
theorem refline12 (w : World) : Calls Tryd.prog 82 #[.int .u8 12] w fun e w' => e = .returned (.string refB12) ∧ w = w' := by
  go_enter Tryd.func82, Tryd.ntmps82
  go_wp2
  go_ret
  exact ⟨rfl, rfl⟩
set_option maxRecDepth 100000 in
set_option maxHeartbeats 1000000 in
theorem refline13 (w : World) : Calls Tryd.prog 82 #[.int .u8 13] w fun e w' => e = .returned (.string refB13) ∧ w = w' := by
  go_enter Tryd.func82, Tryd.ntmps82
  go_wp2
  go_ret
  exact ⟨rfl, rfl⟩
set_option maxRecDepth 100000 in
set_option maxHeartbeats 1000000 in
theorem refline14 (w : World) : Calls Tryd.prog 82 #[.int .u8 14] w fun e w' => e = .returned (.string refB14) ∧ w = w' := by
  go_enter Tryd.func82, Tryd.ntmps82
  go_wp2
  go_ret
  exact ⟨rfl, rfl⟩
set_option maxRecDepth 100000 in
set_option maxHeartbeats 1000000 in
theorem refline15 (w : World) : Calls Tryd.prog 82 #[.int .u8 15] w fun e w' => e = .returned (.string refB15) ∧ w = w' := by
  go_enter Tryd.func82, Tryd.ntmps82
  go_wp2
  go_ret
  exact ⟨rfl, rfl⟩
theorem refline_any (k : Nat) (hk : k < 16) (w : World) : Calls Tryd.prog 82 #[.int .u8 (k : Int)] w fun e w' => e = .returned (.string (refB k)) ∧ w = w' := by
  have h : k = 0 ∨ k = 1 ∨ k = 2 ∨ k = 3 ∨ k = 4 ∨ k = 5 ∨ k = 6 ∨ k = 7 ∨ k = 8 ∨ k = 9 ∨ k = 10 ∨ k = 11 ∨ k = 12 ∨ k = 13 ∨ k = 14 ∨ k = 15 := by omega
  rcases h with rfl | rfl | rfl | rfl | rfl | rfl | rfl | rfl | rfl | rfl | rfl | rfl | rfl | rfl | rfl | rfl
  · exact refline0 w
  · exact refline1 w
  · exact refline2 w
  · exact refline3 w
  · exact refline4 w
  · exact refline5 w
  · exact refline6 w
  · exact refline7 w
  · exact refline8 w
  · exact refline9 w
  · exact refline10 w
  · exact refline11 w
  · exact refline12 w
  · exact refline13 w
  · exact refline14 w
  · exact refline15 w
end Go.Proofs.YtknfphgncoojeaaDoor

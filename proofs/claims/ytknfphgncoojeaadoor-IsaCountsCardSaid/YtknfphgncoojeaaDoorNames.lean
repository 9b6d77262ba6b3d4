/- isa.name, isa.Name, tandemref4.Name: the contracts. -/
import Derived.Test.YtknfphgncoojeaaDoorProg
import Derived.WalkKit
import Derived.WalkLawsBesides
import Derived.KernelRfl
namespace Go.Proofs.YtknfphgncoojeaaDoor
open Go.RowKit

def namesB : ByteArray := ⟨#[65, 68, 67, 65, 78, 68, 65, 83, 76, 66, 67, 67, 66, 67, 83, 66, 69, 81, 66, 73, 84, 66, 77, 73, 66, 78, 69, 66, 80, 76, 66, 82, 75, 66, 86, 67, 66, 86, 83, 67, 76, 67, 67, 76, 68, 67, 76, 73, 67, 76, 86, 67, 77, 80, 67, 80, 88, 67, 80, 89, 68, 69, 67, 68, 69, 88, 68, 69, 89, 69, 79, 82, 73, 78, 67, 73, 78, 88, 73, 78, 89, 74, 77, 80, 74, 83, 82, 76, 68, 65, 76, 68, 88, 76, 68, 89, 76, 83, 82, 78, 79, 80, 79, 82, 65, 80, 72, 65, 80, 72, 80, 80, 76, 65, 80, 76, 80, 82, 79, 76, 82, 79, 82, 82, 84, 73, 82, 84, 83, 83, 66, 67, 83, 69, 67, 83, 69, 68, 83, 69, 73, 83, 84, 65, 83, 84, 88, 83, 84, 89, 84, 65, 88, 84, 65, 89, 84, 83, 88, 84, 88, 65, 84, 88, 83, 84, 89, 65, 65, 76, 82, 65, 78, 67, 65, 82, 82, 68, 67, 80, 73, 83, 67, 76, 65, 83, 76, 65, 88, 82, 76, 65, 82, 82, 65, 83, 65, 88, 83, 66, 88, 83, 76, 79, 83, 82, 69, 74, 65, 77]⟩
theorem namesB_size : namesB.size = 210 := by decide +kernel
def nameOf (op : Int) : ByteArray := namesB.extract (3 * op).toNat (3 * op + 3).toNat

set_option maxRecDepth 100000 in
set_option maxHeartbeats 1000000 in
theorem isaname_any (op : Int) (h0 : 0 ≤ op) (h : op < 70) (w : World) :
    Calls Tryd.prog 59 #[.int .i64 op] w fun e w' => e = .returned (.string (nameOf op)) ∧ w = w' := by
  go_enter Tryd.func59, Tryd.ntmps59
  go_wp2
  rw [run_slice_string _ _ _ _ _ _ _ Tryd.underlying9 (by omega) (by omega) (by show _ ≤ ((namesB.size : Nat) : Int); rw [namesB_size]; omega)]
  go_wp2
  go_ret
  exact ⟨rfl, rfl⟩

set_option maxRecDepth 100000 in
set_option maxHeartbeats 1000000 in
theorem isaName_no (op : Int) (h : op < 0 ∨ 70 ≤ op) (w : World) :
    Calls Tryd.prog 31 #[.int .i64 op] w fun e w' => e = .returned (.string ⟨#[]⟩) ∧ w = w' := by
  rcases h with h | h
  · go_enter Tryd.func31, Tryd.ntmps31
    go_wp2
    go_ret
    exact ⟨rfl, rfl⟩
  · have h' : ¬ op < 0 := by omega
    go_enter Tryd.func31, Tryd.ntmps31
    go_wp2
    go_ret
    exact ⟨rfl, rfl⟩
set_option maxRecDepth 100000 in
set_option maxHeartbeats 1000000 in
theorem isaName_yes (op : Int) (h0 : 0 ≤ op) (h : op < 70) (w : World) :
    Calls Tryd.prog 31 #[.int .i64 op] w fun e w' => e = .returned (.string (nameOf op)) ∧ w = w' := by
  have h1 : ¬ op < 0 := by omega
  have h2 : ¬ 70 ≤ op := by omega
  go_enter Tryd.func31, Tryd.ntmps31
  go_wp2_with ((with_reducible refine (isaname_any op h0 h _).mono ?_); rintro e w' ⟨rfl, rfl⟩)
  go_ret
  exact ⟨rfl, rfl⟩

set_option maxRecDepth 100000 in
set_option maxHeartbeats 1000000 in
theorem refName_no (op : Int) (h : op < 0 ∨ 70 ≤ op) (w : World) :
    Calls Tryd.prog 35 #[.int .i64 op] w fun e w' => e = .returned (.string ⟨#[]⟩) ∧ w = w' := by
  rcases h with h | h
  · go_enter Tryd.func35, Tryd.ntmps35
    go_wp2
    go_ret
    exact ⟨rfl, rfl⟩
  · have h' : ¬ op < 0 := by omega
    go_enter Tryd.func35, Tryd.ntmps35
    go_wp2
    go_ret
    exact ⟨rfl, rfl⟩
set_option maxRecDepth 100000 in
set_option maxHeartbeats 1000000 in
theorem refName_yes (op : Int) (h0 : 0 ≤ op) (h : op < 70) (w : World) :
    Calls Tryd.prog 35 #[.int .i64 op] w fun e w' => e = .returned (.string (nameOf op)) ∧ w = w' := by
  have h1 : ¬ op < 0 := by omega
  have h2 : ¬ 70 ≤ op := by omega
  go_enter Tryd.func35, Tryd.ntmps35
  go_wp2
  rw [run_slice_string _ _ _ _ _ _ _ Tryd.underlying9 (by omega) (by omega) (by show _ ≤ ((namesB.size : Nat) : Int); rw [namesB_size]; omega)]
  go_wp2
  go_ret
  exact ⟨rfl, rfl⟩

def nameAll (op : Int) : ByteArray := if 0 ≤ op ∧ op < 70 then nameOf op else ⟨#[]⟩
theorem isaName_any (op : Int) (w : World) :
    Calls Tryd.prog 31 #[.int .i64 op] w fun e w' => e = .returned (.string (nameAll op)) ∧ w = w' := by
  unfold nameAll
  by_cases h : 0 ≤ op ∧ op < 70
  · rw [if_pos h]; exact isaName_yes op h.1 h.2 w
  · rw [if_neg h]; exact isaName_no op (by omega) w
theorem refName_any (op : Int) (w : World) :
    Calls Tryd.prog 35 #[.int .i64 op] w fun e w' => e = .returned (.string (nameAll op)) ∧ w = w' := by
  unfold nameAll
  by_cases h : 0 ≤ op ∧ op < 70
  · rw [if_pos h]; exact refName_yes op h.1 h.2 w
  · rw [if_neg h]; exact refName_no op (by omega) w
end Go.Proofs.YtknfphgncoojeaaDoor

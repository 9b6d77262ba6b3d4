/- tandemref3.Sets, the operations from 0 to 23: the contract. -/
import Derived.Test.YtknfphgncoojeaaDoorFlagTab
namespace Go.Proofs.YtknfphgncoojeaaDoor
open Go.RowKit
set_option maxRecDepth 100000 in
set_option maxHeartbeats 32000000 in
theorem r3sets_0 (o : Nat) (h : 0 ≤ o ∧ o < 24) (w : World) : Calls Tryd.prog 47 #[.int .i64 (o : Int)] w fun e w' => e = .returned (.int .u8 (setsT o : Int)) ∧ w = w' := by
  have h' : o = 0 ∨ o = 1 ∨ o = 2 ∨ o = 3 ∨ o = 4 ∨ o = 5 ∨ o = 6 ∨ o = 7 ∨ o = 8 ∨ o = 9 ∨ o = 10 ∨ o = 11 ∨ o = 12 ∨ o = 13 ∨ o = 14 ∨ o = 15 ∨ o = 16 ∨ o = 17 ∨ o = 18 ∨ o = 19 ∨ o = 20 ∨ o = 21 ∨ o = 22 ∨ o = 23 := by omega
  clear h
  go_enter Tryd.func47, Tryd.ntmps47
  rcases h' with rfl | rfl | rfl | rfl | rfl | rfl | rfl | rfl | rfl | rfl | rfl | rfl | rfl | rfl | rfl | rfl | rfl | rfl | rfl | rfl | rfl | rfl | rfl | rfl
  all_goals
    go_wp2_with fail
    go_ret
    exact ⟨rfl, rfl⟩
end Go.Proofs.YtknfphgncoojeaaDoor

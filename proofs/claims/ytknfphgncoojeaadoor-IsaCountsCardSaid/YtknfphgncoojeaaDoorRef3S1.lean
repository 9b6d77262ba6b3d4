/- tandemref3.Sets, the operations from 24 to 46: the contract. -/
import Derived.Test.YtknfphgncoojeaaDoorFlagTab
namespace Go.Proofs.YtknfphgncoojeaaDoor
open Go.RowKit
set_option maxRecDepth 100000 in
set_option maxHeartbeats 32000000 in
theorem r3sets_1 (o : Nat) (h : 24 ≤ o ∧ o < 47) (w : World) : Calls Tryd.prog 47 #[.int .i64 (o : Int)] w fun e w' => e = .returned (.int .u8 (setsT o : Int)) ∧ w = w' := by
  have h' : o = 24 ∨ o = 25 ∨ o = 26 ∨ o = 27 ∨ o = 28 ∨ o = 29 ∨ o = 30 ∨ o = 31 ∨ o = 32 ∨ o = 33 ∨ o = 34 ∨ o = 35 ∨ o = 36 ∨ o = 37 ∨ o = 38 ∨ o = 39 ∨ o = 40 ∨ o = 41 ∨ o = 42 ∨ o = 43 ∨ o = 44 ∨ o = 45 ∨ o = 46 := by omega
  clear h
  go_enter Tryd.func47, Tryd.ntmps47
  rcases h' with rfl | rfl | rfl | rfl | rfl | rfl | rfl | rfl | rfl | rfl | rfl | rfl | rfl | rfl | rfl | rfl | rfl | rfl | rfl | rfl | rfl | rfl | rfl
  all_goals
    go_wp2_with fail
    go_ret
    exact ⟨rfl, rfl⟩
end Go.Proofs.YtknfphgncoojeaaDoor

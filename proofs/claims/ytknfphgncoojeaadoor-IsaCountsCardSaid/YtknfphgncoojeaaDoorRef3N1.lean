/- tandemref3.Needs, the operations from 35 to 69: the contract. -/
import Derived.Test.YtknfphgncoojeaaDoorFlagTab
namespace Go.Proofs.YtknfphgncoojeaaDoor
open Go.RowKit
set_option maxRecDepth 100000 in
set_option maxHeartbeats 32000000 in
theorem r3needs_1 (o : Nat) (h : 35 ≤ o ∧ o < 70) (w : World) : Calls Tryd.prog 46 #[.int .i64 (o : Int)] w fun e w' => e = .returned (.int .u8 (needsT o : Int)) ∧ w = w' := by
  have h' : o = 35 ∨ o = 36 ∨ o = 37 ∨ o = 38 ∨ o = 39 ∨ o = 40 ∨ o = 41 ∨ o = 42 ∨ o = 43 ∨ o = 44 ∨ o = 45 ∨ o = 46 ∨ o = 47 ∨ o = 48 ∨ o = 49 ∨ o = 50 ∨ o = 51 ∨ o = 52 ∨ o = 53 ∨ o = 54 ∨ o = 55 ∨ o = 56 ∨ o = 57 ∨ o = 58 ∨ o = 59 ∨ o = 60 ∨ o = 61 ∨ o = 62 ∨ o = 63 ∨ o = 64 ∨ o = 65 ∨ o = 66 ∨ o = 67 ∨ o = 68 ∨ o = 69 := by omega
  clear h
  go_enter Tryd.func46, Tryd.ntmps46
  rcases h' with rfl | rfl | rfl | rfl | rfl | rfl | rfl | rfl | rfl | rfl | rfl | rfl | rfl | rfl | rfl | rfl | rfl | rfl | rfl | rfl | rfl | rfl | rfl | rfl | rfl | rfl | rfl | rfl | rfl | rfl | rfl | rfl | rfl | rfl | rfl
  all_goals
    go_wp2_with fail
    go_ret
    exact ⟨rfl, rfl⟩
end Go.Proofs.YtknfphgncoojeaaDoor

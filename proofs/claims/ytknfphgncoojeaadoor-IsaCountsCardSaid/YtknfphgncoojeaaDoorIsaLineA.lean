/- isa.line's contract: rows 0 to 3 of the table. -/
import Derived.Test.YtknfphgncoojeaaDoorIsaLine
namespace Go.Proofs.YtknfphgncoojeaaDoor
open Go.RowKit
set_option maxRecDepth 100000 in
set_option maxHeartbeats 4000000 in
theorem line0 (w : World) : Calls Tryd.prog 71 #[.int .u8 0] w fun e w' => e = .returned (.agg (lineV 0)) ∧ Below w.heap.size w w' := by
  have hg := heap_alloc_new w (.cells #[.int .i64 0, .int .i64 0, .int .i64 0, .int .i64 0, .int .i64 0, .int .i64 0, .int .i64 0, .int .i64 0, .int .i64 0, .int .i64 0, .int .i64 0, .int .i64 0, .int .i64 0, .int .i64 0, .int .i64 0, .int .i64 0, .int .i64 0, .int .i64 0, .int .i64 0, .int .i64 0, .int .i64 0, .int .i64 0, .int .i64 0, .int .i64 0, .int .i64 0, .int .i64 0, .int .i64 0, .int .i64 0, .int .i64 0, .int .i64 0, .int .i64 0, .int .i64 0] 105)
  go_enter Tryd.func71, Tryd.ntmps71
  go_wp2_with ((with_reducible show wpList _ _ _ (⟨none, .store 105 (.tmp 2) _, _, _, _, none⟩ :: _) _ _); refine wpList_store_row rfl 105 (.tmp 2) _ rfl w.heap.size (lineV 0) rfl ?q1 105 _ hg size105 rfl (by kernel_rfl) ?_; (case q1 => rfl); rw [World.setRow_alloc_new])
  exact bodyPost_ret (results_cell_row rfl _ _ w.heap.size 105 (lineV 0) (0, 0) _ rfl (heap_alloc_new w _) Tryd.underlying105 rfl size105) rfl ⟨rfl, (Below.refl _ _).alloc (Nat.le_refl _) _⟩
set_option maxRecDepth 100000 in
set_option maxHeartbeats 4000000 in
theorem line1 (w : World) : Calls Tryd.prog 71 #[.int .u8 1] w fun e w' => e = .returned (.agg (lineV 1)) ∧ Below w.heap.size w w' := by
  have hg := heap_alloc_new w (.cells #[.int .i64 0, .int .i64 0, .int .i64 0, .int .i64 0, .int .i64 0, .int .i64 0, .int .i64 0, .int .i64 0, .int .i64 0, .int .i64 0, .int .i64 0, .int .i64 0, .int .i64 0, .int .i64 0, .int .i64 0, .int .i64 0, .int .i64 0, .int .i64 0, .int .i64 0, .int .i64 0, .int .i64 0, .int .i64 0, .int .i64 0, .int .i64 0, .int .i64 0, .int .i64 0, .int .i64 0, .int .i64 0, .int .i64 0, .int .i64 0, .int .i64 0, .int .i64 0] 105)
  go_enter Tryd.func71, Tryd.ntmps71
  go_wp2_with ((with_reducible show wpList _ _ _ (⟨none, .store 105 (.tmp 2) _, _, _, _, none⟩ :: _) _ _); refine wpList_store_row rfl 105 (.tmp 2) _ rfl w.heap.size (lineV 1) rfl ?q1 105 _ hg size105 rfl (by kernel_rfl) ?_; (case q1 => rfl); rw [World.setRow_alloc_new])
  exact bodyPost_ret (results_cell_row rfl _ _ w.heap.size 105 (lineV 1) (0, 0) _ rfl (heap_alloc_new w _) Tryd.underlying105 rfl size105) rfl ⟨rfl, (Below.refl _ _).alloc (Nat.le_refl _) _⟩
set_option maxRecDepth 100000 in
set_option maxHeartbeats 4000000 in
theorem line2 (w : World) : Calls Tryd.prog 71 #[.int .u8 2] w fun e w' => e = .returned (.agg (lineV 2)) ∧ Below w.heap.size w w' := by
  have hg := heap_alloc_new w (.cells #[.int .i64 0, .int .i64 0, .int .i64 0, .int .i64 0, .int .i64 0, .int .i64 0, .int .i64 0, .int .i64 0, .int .i64 0, .int .i64 0, .int .i64 0, .int .i64 0, .int .i64 0, .int .i64 0, .int .i64 0, .int .i64 0, .int .i64 0, .int .i64 0, .int .i64 0, .int .i64 0, .int .i64 0, .int .i64 0, .int .i64 0, .int .i64 0, .int .i64 0, .int .i64 0, .int .i64 0, .int .i64 0, .int .i64 0, .int .i64 0, .int .i64 0, .int .i64 0] 105)
  go_enter Tryd.func71, Tryd.ntmps71
  go_wp2_with ((with_reducible show wpList _ _ _ (⟨none, .store 105 (.tmp 2) _, _, _, _, none⟩ :: _) _ _); refine wpList_store_row rfl 105 (.tmp 2) _ rfl w.heap.size (lineV 2) rfl ?q1 105 _ hg size105 rfl (by kernel_rfl) ?_; (case q1 => rfl); rw [World.setRow_alloc_new])
  exact bodyPost_ret (results_cell_row rfl _ _ w.heap.size 105 (lineV 2) (0, 0) _ rfl (heap_alloc_new w _) Tryd.underlying105 rfl size105) rfl ⟨rfl, (Below.refl _ _).alloc (Nat.le_refl _) _⟩
set_option maxRecDepth 100000 in
set_option maxHeartbeats 4000000 in
theorem line3 (w : World) : Calls Tryd.prog 71 #[.int .u8 3] w fun e w' => e = .returned (.agg (lineV 3)) ∧ Below w.heap.size w w' := by
  have hg := heap_alloc_new w (.cells #[.int .i64 0, .int .i64 0, .int .i64 0, .int .i64 0, .int .i64 0, .int .i64 0, .int .i64 0, .int .i64 0, .int .i64 0, .int .i64 0, .int .i64 0, .int .i64 0, .int .i64 0, .int .i64 0, .int .i64 0, .int .i64 0, .int .i64 0, .int .i64 0, .int .i64 0, .int .i64 0, .int .i64 0, .int .i64 0, .int .i64 0, .int .i64 0, .int .i64 0, .int .i64 0, .int .i64 0, .int .i64 0, .int .i64 0, .int .i64 0, .int .i64 0, .int .i64 0] 105)
  go_enter Tryd.func71, Tryd.ntmps71
  go_wp2_with ((with_reducible show wpList _ _ _ (⟨none, .store 105 (.tmp 2) _, _, _, _, none⟩ :: _) _ _); refine wpList_store_row rfl 105 (.tmp 2) _ rfl w.heap.size (lineV 3) rfl ?q1 105 _ hg size105 rfl (by kernel_rfl) ?_; (case q1 => rfl); rw [World.setRow_alloc_new])
  exact bodyPost_ret (results_cell_row rfl _ _ w.heap.size 105 (lineV 3) (0, 0) _ rfl (heap_alloc_new w _) Tryd.underlying105 rfl size105) rfl ⟨rfl, (Below.refl _ _).alloc (Nat.le_refl _) _⟩
end Go.Proofs.YtknfphgncoojeaaDoor

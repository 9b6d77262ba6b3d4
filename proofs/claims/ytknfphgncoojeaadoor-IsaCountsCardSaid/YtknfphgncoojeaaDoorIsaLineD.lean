/- isa.line's contract: rows 12 to 15 of the table. -/
import Derived.Test.YtknfphgncoojeaaDoorIsaLine
namespace Go.Proofs.YtknfphgncoojeaaDoor
open Go.RowKit
set_option maxRecDepth 100000 in
set_option maxHeartbeats 4000000 in
theorem line12 (w : World) : Calls Tryd.prog 71 #[.int .u8 12] w fun e w' => e = .returned (.agg (lineV 12)) ∧ Below w.heap.size w w' := by
  have hg := heap_alloc_new w (.cells #[.int .i64 0, .int .i64 0, .int .i64 0, .int .i64 0, .int .i64 0, .int .i64 0, .int .i64 0, .int .i64 0, .int .i64 0, .int .i64 0, .int .i64 0, .int .i64 0, .int .i64 0, .int .i64 0, .int .i64 0, .int .i64 0, .int .i64 0, .int .i64 0, .int .i64 0, .int .i64 0, .int .i64 0, .int .i64 0, .int .i64 0, .int .i64 0, .int .i64 0, .int .i64 0, .int .i64 0, .int .i64 0, .int .i64 0, .int .i64 0, .int .i64 0, .int .i64 0] 105)
  go_enter Tryd.func71, Tryd.ntmps71
  go_wp2_with ((with_reducible show wpList _ _ _ (⟨none, .store 105 (.tmp 2) _, _, _, _, none⟩ :: _) _ _); refine wpList_store_row rfl 105 (.tmp 2) _ rfl w.heap.size (lineV 12) rfl ?q1 105 _ hg size105 rfl (by kernel_rfl) ?_; (case q1 => rfl); rw [World.setRow_alloc_new])
  exact bodyPost_ret (results_cell_row rfl _ _ w.heap.size 105 (lineV 12) (0, 0) _ rfl (heap_alloc_new w _) Tryd.underlying105 rfl size105) rfl ⟨rfl, (Below.refl _ _).alloc (Nat.le_refl _) _⟩
set_option maxRecDepth 100000 in
set_option maxHeartbeats 4000000 in
theorem line13 (w : World) : Calls Tryd.prog 71 #[.int .u8 13] w fun e w' => e = .returned (.agg (lineV 13)) ∧ Below w.heap.size w w' := by
  have hg := heap_alloc_new w (.cells #[.int .i64 0, .int .i64 0, .int .i64 0, .int .i64 0, .int .i64 0, .int .i64 0, .int .i64 0, .int .i64 0, .int .i64 0, .int .i64 0, .int .i64 0, .int .i64 0, .int .i64 0, .int .i64 0, .int .i64 0, .int .i64 0, .int .i64 0, .int .i64 0, .int .i64 0, .int .i64 0, .int .i64 0, .int .i64 0, .int .i64 0, .int .i64 0, .int .i64 0, .int .i64 0, .int .i64 0, .int .i64 0, .int .i64 0, .int .i64 0, .int .i64 0, .int .i64 0] 105)
  go_enter Tryd.func71, Tryd.ntmps71
  go_wp2_with ((with_reducible show wpList _ _ _ (⟨none, .store 105 (.tmp 2) _, _, _, _, none⟩ :: _) _ _); refine wpList_store_row rfl 105 (.tmp 2) _ rfl w.heap.size (lineV 13) rfl ?q1 105 _ hg size105 rfl (by kernel_rfl) ?_; (case q1 => rfl); rw [World.setRow_alloc_new])
  exact bodyPost_ret (results_cell_row rfl _ _ w.heap.size 105 (lineV 13) (0, 0) _ rfl (heap_alloc_new w _) Tryd.underlying105 rfl size105) rfl ⟨rfl, (Below.refl _ _).alloc (Nat.le_refl _) _⟩
set_option maxRecDepth 100000 in
set_option maxHeartbeats 4000000 in
theorem line14 (w : World) : Calls Tryd.prog 71 #[.int .u8 14] w fun e w' => e = .returned (.agg (lineV 14)) ∧ Below w.heap.size w w' := by
  have hg := heap_alloc_new w (.cells #[.int .i64 0, .int .i64 0, .int .i64 0, .int .i64 0, .int .i64 0, .int .i64 0, .int .i64 0, .int .i64 0, .int .i64 0, .int .i64 0, .int .i64 0, .int .i64 0, .int .i64 0, .int .i64 0, .int .i64 0, .int .i64 0, .int .i64 0, .int .i64 0, .int .i64 0, .int .i64 0, .int .i64 0, .int .i64 0, .int .i64 0, .int .i64 0, .int .i64 0, .int .i64 0, .int .i64 0, .int .i64 0, .int .i64 0, .int .i64 0, .int .i64 0, .int .i64 0] 105)
  go_enter Tryd.func71, Tryd.ntmps71
  go_wp2_with ((with_reducible show wpList _ _ _ (⟨none, .store 105 (.tmp 2) _, _, _, _, none⟩ :: _) _ _); refine wpList_store_row rfl 105 (.tmp 2) _ rfl w.heap.size (lineV 14) rfl ?q1 105 _ hg size105 rfl (by kernel_rfl) ?_; (case q1 => rfl); rw [World.setRow_alloc_new])
  exact bodyPost_ret (results_cell_row rfl _ _ w.heap.size 105 (lineV 14) (0, 0) _ rfl (heap_alloc_new w _) Tryd.underlying105 rfl size105) rfl ⟨rfl, (Below.refl _ _).alloc (Nat.le_refl _) _⟩
set_option maxRecDepth 100000 in
set_option maxHeartbeats 4000000 in
theorem line15 (w : World) : Calls Tryd.prog 71 #[.int .u8 15] w fun e w' => e = .returned (.agg (lineV 15)) ∧ Below w.heap.size w w' := by
  have hg := heap_alloc_new w (.cells #[.int .i64 0, .int .i64 0, .int .i64 0, .int .i64 0, .int .i64 0, .int .i64 0, .int .i64 0, .int .i64 0, .int .i64 0, .int .i64 0, .int .i64 0, .int .i64 0, .int .i64 0, .int .i64 0, .int .i64 0, .int .i64 0, .int .i64 0, .int .i64 0, .int .i64 0, .int .i64 0, .int .i64 0, .int .i64 0, .int .i64 0, .int .i64 0, .int .i64 0, .int .i64 0, .int .i64 0, .int .i64 0, .int .i64 0, .int .i64 0, .int .i64 0, .int .i64 0] 105)
  go_enter Tryd.func71, Tryd.ntmps71
  go_wp2_with ((with_reducible show wpList _ _ _ (⟨none, .store 105 (.tmp 2) _, _, _, _, none⟩ :: _) _ _); refine wpList_store_row rfl 105 (.tmp 2) _ rfl w.heap.size (lineV 15) rfl ?q1 105 _ hg size105 rfl (by kernel_rfl) ?_; (case q1 => rfl); rw [World.setRow_alloc_new])
  exact bodyPost_ret (results_cell_row rfl _ _ w.heap.size 105 (lineV 15) (0, 0) _ rfl (heap_alloc_new w _) Tryd.underlying105 rfl size105) rfl ⟨rfl, (Below.refl _ _).alloc (Nat.le_refl _) _⟩
end Go.Proofs.YtknfphgncoojeaaDoor

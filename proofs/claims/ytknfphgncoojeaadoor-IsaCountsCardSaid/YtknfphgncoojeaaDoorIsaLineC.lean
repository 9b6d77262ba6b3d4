/- isa.line's contract: rows 8 to 11 of the table. -/
import Derived.Test.YtknfphgncoojeaaDoorIsaLine
namespace Go.Proofs.YtknfphgncoojeaaDoor
open Go.RowKit
set_option maxRecDepth 100000 in
set_option maxHeartbeats 4000000 in
theorem line8 (w : World) : Calls Tryd.prog 71 #[.int .u8 8] w fun e w' => e = .returned (.agg (lineV 8)) ∧ Below w.heap.size w w' := by
  have hg := heap_alloc_new w (.cells #[.int .i64 0, .int .i64 0, .int .i64 0, .int .i64 0, .int .i64 0, .int .i64 0, .int .i64 0, .int .i64 0, .int .i64 0, .int .i64 0, .int .i64 0, .int .i64 0, .int .i64 0, .int .i64 0, .int .i64 0, .int .i64 0, .int .i64 0, .int .i64 0, .int .i64 0, .int .i64 0, .int .i64 0, .int .i64 0, .int .i64 0, .int .i64 0, .int .i64 0, .int .i64 0, .int .i64 0, .int .i64 0, .int .i64 0, .int .i64 0, .int .i64 0, .int .i64 0] 105)
  go_enter Tryd.func71, Tryd.ntmps71
  go_wp2_with ((with_reducible show wpList _ _ _ (⟨none, .store 105 (.tmp 2) _, _, _, _, none⟩ :: _) _ _); refine wpList_store_row rfl 105 (.tmp 2) _ rfl w.heap.size (lineV 8) rfl ?q1 105 _ hg size105 rfl (by kernel_rfl) ?_; (case q1 => rfl); rw [World.setRow_alloc_new])
  exact bodyPost_ret (results_cell_row rfl _ _ w.heap.size 105 (lineV 8) (0, 0) _ rfl (heap_alloc_new w _) Tryd.underlying105 rfl size105) rfl ⟨rfl, (Below.refl _ _).alloc (Nat.le_refl _) _⟩
set_option maxRecDepth 100000 in
set_option maxHeartbeats 4000000 in
theorem line9 (w : World) : Calls Tryd.prog 71 #[.int .u8 9] w fun e w' => e = .returned (.agg (lineV 9)) ∧ Below w.heap.size w w' := by
  have hg := heap_alloc_new w (.cells #[.int .i64 0, .int .i64 0, .int .i64 0, .int .i64 0, .int .i64 0, .int .i64 0, .int .i64 0, .int .i64 0, .int .i64 0, .int .i64 0, .int .i64 0, .int .i64 0, .int .i64 0, .int .i64 0, .int .i64 0, .int .i64 0, .int .i64 0, .int .i64 0, .int .i64 0, .int .i64 0, .int .i64 0, .int .i64 0, .int .i64 0, .int .i64 0, .int .i64 0, .int .i64 0, .int .i64 0, .int .i64 0, .int .i64 0, .int .i64 0, .int .i64 0, .int .i64 0] 105)
  go_enter Tryd.func71, Tryd.ntmps71
  go_wp2_with ((with_reducible show wpList _ _ _ (⟨none, .store 105 (.tmp 2) _, _, _, _, none⟩ :: _) _ _); refine wpList_store_row rfl 105 (.tmp 2) _ rfl w.heap.size (lineV 9) rfl ?q1 105 _ hg size105 rfl (by kernel_rfl) ?_; (case q1 => rfl); rw [World.setRow_alloc_new])
  exact bodyPost_ret (results_cell_row rfl _ _ w.heap.size 105 (lineV 9) (0, 0) _ rfl (heap_alloc_new w _) Tryd.underlying105 rfl size105) rfl ⟨rfl, (Below.refl _ _).alloc (Nat.le_refl _) _⟩
set_option maxRecDepth 100000 in
set_option maxHeartbeats 4000000 in
theorem line10 (w : World) : Calls Tryd.prog 71 #[.int .u8 10] w fun e w' => e = .returned (.agg (lineV 10)) ∧ Below w.heap.size w w' := by
  have hg := heap_alloc_new w (.cells #[.int .i64 0, .int .i64 0, .int .i64 0, .int .i64 0, .int .i64 0, .int .i64 0, .int .i64 0, .int .i64 0, .int .i64 0, .int .i64 0, .int .i64 0, .int .i64 0, .int .i64 0, .int .i64 0, .int .i64 0, .int .i64 0, .int .i64 0, .int .i64 0, .int .i64 0, .int .i64 0, .int .i64 0, .int .i64 0, .int .i64 0, .int .i64 0, .int .i64 0, .int .i64 0, .int .i64 0, .int .i64 0, .int .i64 0, .int .i64 0, .int .i64 0, .int .i64 0] 105)
  go_enter Tryd.func71, Tryd.ntmps71
  go_wp2_with ((with_reducible show wpList _ _ _ (⟨none, .store 105 (.tmp 2) _, _, _, _, none⟩ :: _) _ _); refine wpList_store_row rfl 105 (.tmp 2) _ rfl w.heap.size (lineV 10) rfl ?q1 105 _ hg size105 rfl (by kernel_rfl) ?_; (case q1 => rfl); rw [World.setRow_alloc_new])
  exact bodyPost_ret (results_cell_row rfl _ _ w.heap.size 105 (lineV 10) (0, 0) _ rfl (heap_alloc_new w _) Tryd.underlying105 rfl size105) rfl ⟨rfl, (Below.refl _ _).alloc (Nat.le_refl _) _⟩
set_option maxRecDepth 100000 in
set_option maxHeartbeats 4000000 in
theorem line11 (w : World) : Calls Tryd.prog 71 #[.int .u8 11] w fun e w' => e = .returned (.agg (lineV 11)) ∧ Below w.heap.size w w' := by
  have hg := heap_alloc_new w (.cells #[.int .i64 0, .int .i64 0, .int .i64 0, .int .i64 0, .int .i64 0, .int .i64 0, .int .i64 0, .int .i64 0, .int .i64 0, .int .i64 0, .int .i64 0, .int .i64 0, .int .i64 0, .int .i64 0, .int .i64 0, .int .i64 0, .int .i64 0, .int .i64 0, .int .i64 0, .int .i64 0, .int .i64 0, .int .i64 0, .int .i64 0, .int .i64 0, .int .i64 0, .int .i64 0, .int .i64 0, .int .i64 0, .int .i64 0, .int .i64 0, .int .i64 0, .int .i64 0] 105)
  go_enter Tryd.func71, Tryd.ntmps71
  go_wp2_with ((with_reducible show wpList _ _ _ (⟨none, .store 105 (.tmp 2) _, _, _, _, none⟩ :: _) _ _); refine wpList_store_row rfl 105 (.tmp 2) _ rfl w.heap.size (lineV 11) rfl ?q1 105 _ hg size105 rfl (by kernel_rfl) ?_; (case q1 => rfl); rw [World.setRow_alloc_new])
  exact bodyPost_ret (results_cell_row rfl _ _ w.heap.size 105 (lineV 11) (0, 0) _ rfl (heap_alloc_new w _) Tryd.underlying105 rfl size105) rfl ⟨rfl, (Below.refl _ _).alloc (Nat.le_refl _) _⟩
end Go.Proofs.YtknfphgncoojeaaDoor

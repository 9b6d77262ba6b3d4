/- isa.line's contract: rows 4 to 7 of the table. -/
import Derived.Test.YtknfphgncoojeaaDoorIsaLine
namespace Go.Proofs.YtknfphgncoojeaaDoor
open Go.RowKit
set_option maxRecDepth 100000 in
set_option maxHeartbeats 4000000 in
theorem line4 (w : World) : Calls Tryd.prog 71 #[.int .u8 4] w fun e w' => e = .returned (.agg (lineV 4)) ∧ Below w.heap.size w w' := by
  have hg := heap_alloc_new w (.cells #[.int .i64 0, .int .i64 0, .int .i64 0, .int .i64 0, .int .i64 0, .int .i64 0, .int .i64 0, .int .i64 0, .int .i64 0, .int .i64 0, .int .i64 0, .int .i64 0, .int .i64 0, .int .i64 0, .int .i64 0, .int .i64 0, .int .i64 0, .int .i64 0, .int .i64 0, .int .i64 0, .int .i64 0, .int .i64 0, .int .i64 0, .int .i64 0, .int .i64 0, .int .i64 0, .int .i64 0, .int .i64 0, .int .i64 0, .int .i64 0, .int .i64 0, .int .i64 0] 105)
  go_enter Tryd.func71, Tryd.ntmps71
  go_wp2_with ((with_reducible show wpList _ _ _ (⟨none, .store 105 (.tmp 2) _, _, _, _, none⟩ :: _) _ _); refine wpList_store_row rfl 105 (.tmp 2) _ rfl w.heap.size (lineV 4) rfl ?q1 105 _ hg size105 rfl (by kernel_rfl) ?_; (case q1 => rfl); rw [World.setRow_alloc_new])
  exact bodyPost_ret (results_cell_row rfl _ _ w.heap.size 105 (lineV 4) (0, 0) _ rfl (heap_alloc_new w _) Tryd.underlying105 rfl size105) rfl ⟨rfl, (Below.refl _ _).alloc (Nat.le_refl _) _⟩
set_option maxRecDepth 100000 in
set_option maxHeartbeats 4000000 in
theorem line5 (w : World) : Calls Tryd.prog 71 #[.int .u8 5] w fun e w' => e = .returned (.agg (lineV 5)) ∧ Below w.heap.size w w' := by
  have hg := heap_alloc_new w (.cells #[.int .i64 0, .int .i64 0, .int .i64 0, .int .i64 0, .int .i64 0, .int .i64 0, .int .i64 0, .int .i64 0, .int .i64 0, .int .i64 0, .int .i64 0, .int .i64 0, .int .i64 0, .int .i64 0, .int .i64 0, .int .i64 0, .int .i64 0, .int .i64 0, .int .i64 0, .int .i64 0, .int .i64 0, .int .i64 0, .int .i64 0, .int .i64 0, .int .i64 0, .int .i64 0, .int .i64 0, .int .i64 0, .int .i64 0, .int .i64 0, .int .i64 0, .int .i64 0] 105)
  go_enter Tryd.func71, Tryd.ntmps71
  go_wp2_with ((with_reducible show wpList _ _ _ (⟨none, .store 105 (.tmp 2) _, _, _, _, none⟩ :: _) _ _); refine wpList_store_row rfl 105 (.tmp 2) _ rfl w.heap.size (lineV 5) rfl ?q1 105 _ hg size105 rfl (by kernel_rfl) ?_; (case q1 => rfl); rw [World.setRow_alloc_new])
  exact bodyPost_ret (results_cell_row rfl _ _ w.heap.size 105 (lineV 5) (0, 0) _ rfl (heap_alloc_new w _) Tryd.underlying105 rfl size105) rfl ⟨rfl, (Below.refl _ _).alloc (Nat.le_refl _) _⟩
set_option maxRecDepth 100000 in
set_option maxHeartbeats 4000000 in
theorem line6 (w : World) : Calls Tryd.prog 71 #[.int .u8 6] w fun e w' => e = .returned (.agg (lineV 6)) ∧ Below w.heap.size w w' := by
  have hg := heap_alloc_new w (.cells #[.int .i64 0, .int .i64 0, .int .i64 0, .int .i64 0, .int .i64 0, .int .i64 0, .int .i64 0, .int .i64 0, .int .i64 0, .int .i64 0, .int .i64 0, .int .i64 0, .int .i64 0, .int .i64 0, .int .i64 0, .int .i64 0, .int .i64 0, .int .i64 0, .int .i64 0, .int .i64 0, .int .i64 0, .int .i64 0, .int .i64 0, .int .i64 0, .int .i64 0, .int .i64 0, .int .i64 0, .int .i64 0, .int .i64 0, .int .i64 0, .int .i64 0, .int .i64 0] 105)
  go_enter Tryd.func71, Tryd.ntmps71
  go_wp2_with ((with_reducible show wpList _ _ _ (⟨none, .store 105 (.tmp 2) _, _, _, _, none⟩ :: _) _ _); refine wpList_store_row rfl 105 (.tmp 2) _ rfl w.heap.size (lineV 6) rfl ?q1 105 _ hg size105 rfl (by kernel_rfl) ?_; (case q1 => rfl); rw [World.setRow_alloc_new])
  exact bodyPost_ret (results_cell_row rfl _ _ w.heap.size 105 (lineV 6) (0, 0) _ rfl (heap_alloc_new w _) Tryd.underlying105 rfl size105) rfl ⟨rfl, (Below.refl _ _).alloc (Nat.le_refl _) _⟩
set_option maxRecDepth 100000 in
set_option maxHeartbeats 4000000 in
theorem line7 (w : World) : Calls Tryd.prog 71 #[.int .u8 7] w fun e w' => e = .returned (.agg (lineV 7)) ∧ Below w.heap.size w w' := by
  have hg := heap_alloc_new w (.cells #[.int .i64 0, .int .i64 0, .int .i64 0, .int .i64 0, .int .i64 0, .int .i64 0, .int .i64 0, .int .i64 0, .int .i64 0, .int .i64 0, .int .i64 0, .int .i64 0, .int .i64 0, .int .i64 0, .int .i64 0, .int .i64 0, .int .i64 0, .int .i64 0, .int .i64 0, .int .i64 0, .int .i64 0, .int .i64 0, .int .i64 0, .int .i64 0, .int .i64 0, .int .i64 0, .int .i64 0, .int .i64 0, .int .i64 0, .int .i64 0, .int .i64 0, .int .i64 0] 105)
  go_enter Tryd.func71, Tryd.ntmps71
  go_wp2_with ((with_reducible show wpList _ _ _ (⟨none, .store 105 (.tmp 2) _, _, _, _, none⟩ :: _) _ _); refine wpList_store_row rfl 105 (.tmp 2) _ rfl w.heap.size (lineV 7) rfl ?q1 105 _ hg size105 rfl (by kernel_rfl) ?_; (case q1 => rfl); rw [World.setRow_alloc_new])
  exact bodyPost_ret (results_cell_row rfl _ _ w.heap.size 105 (lineV 7) (0, 0) _ rfl (heap_alloc_new w _) Tryd.underlying105 rfl size105) rfl ⟨rfl, (Below.refl _ _).alloc (Nat.le_refl _) _⟩
end Go.Proofs.YtknfphgncoojeaaDoor

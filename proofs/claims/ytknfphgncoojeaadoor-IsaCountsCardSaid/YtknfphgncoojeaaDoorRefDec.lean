/- tandemref4.Cycles, Decode: the contracts. -/
import Derived.Test.YtknfphgncoojeaaDoorRefShape
namespace Go.Proofs.YtknfphgncoojeaaDoor
open Go.RowKit
set_option maxRecDepth 100000 in
theorem refcycles_any (c : Nat) (hc : c < 256) (x t : Bool) (w : World) (tt : TypeId) (fr : Nat × Nat) (hL : w.heap[4]? = some (.cells lettersA tt fr)) :
    Calls Tryd.prog 43 #[.int .u8 (c : Int), .bool x, .bool t] w fun e w' => e = .returned (.int .i64 ((shapeC c x t).length : Int)) ∧ Below w.heap.size w w' := by
  have hsh := refshape_any c hc x t w tt fr hL
  obtain ⟨n, hn⟩ : ∃ n, (shapeC c x t).length = n := ⟨_, rfl⟩
  rw [hn] at hsh ⊢
  clear hn
  go_enter Tryd.func43, Tryd.ntmps43
  go_wp2_with fail
  refine hsh.mono ?_
  rintro e w1 ⟨v, rfl, hown, hnn, hB⟩
  obtain ⟨g, cap, cur, rfl, _, _, _, _, _, _, _⟩ := own_slice hown hnn
  go_wp2_with fail
  go_ret
  exact ⟨rfl, hB⟩
set_option maxRecDepth 100000 in
set_option maxHeartbeats 8000000 in
theorem refdecode_any (c : Nat) (hc : c < 256) (w : World) (tt : TypeId) (fr : Nat × Nat) (hL : w.heap[4]? = some (.cells lettersA tt fr)) :
    Calls Tryd.prog 22 #[.int .u8 (c : Int)] w fun e w' => e = .returned (.agg (instD c)) ∧ Below w.heap.size w w' := by
  have hL0 := row_alloc hL (.cells #[.int .i64 0, .int .i64 0, .int .i64 0, .int .i64 0, .int .i64 0, .int .i64 0] 36)
  have hB0 := (Below.refl w.heap.size w).alloc (Nat.le_refl _) (.cells #[.int .i64 0, .int .i64 0, .int .i64 0, .int .i64 0, .int .i64 0, .int .i64 0] 36)
  have hR0 := heap_alloc_new w (.cells #[.int .i64 0, .int .i64 0, .int .i64 0, .int .i64 0, .int .i64 0, .int .i64 0] 36)
  have hsz0 : (w.alloc (.cells #[.int .i64 0, .int .i64 0, .int .i64 0, .int .i64 0, .int .i64 0, .int .i64 0] 36)).heap.size = w.heap.size + 1 := by simp
  have hrow := refrow_any c hc _ tt fr hL0
  have hcy := fun wx h => refcycles_any c hc false false wx tt fr h
  unfold instV at hrow
  unfold instD
  obtain ⟨k, hk⟩ : ∃ k, kindT c = k := ⟨_, rfl⟩
  obtain ⟨m, hm⟩ : ∃ m, modeT c = m := ⟨_, rfl⟩
  obtain ⟨o, ho⟩ : ∃ o, opT c = o := ⟨_, rfl⟩
  obtain ⟨cl, hcl⟩ : ∃ cl, classT c = cl := ⟨_, rfl⟩
  obtain ⟨cy, hcy2⟩ : ∃ cy, (shapeC c false false).length = cy := ⟨_, rfl⟩
  obtain ⟨l, hl⟩ : ∃ l, lenR (modeT c) = l := ⟨_, rfl⟩
  rw [hl, hk, hm, ho, hcl] at hrow
  rw [hcy2] at hcy
  rw [hl, hk, hm, ho, hcl, hcy2]
  clear hk hm ho hcl hl hL hcy2
  go_enter Tryd.func22, Tryd.ntmps22
  go_wp2_with fail
  refine hrow.mono ?_
  rintro e w5 ⟨rfl, hb⟩
  clear hrow
  have hB := (hB0.trans (hb.mono hB0.size)).alloc (by have := hb.size; omega) (.cells #[.int .i64 (o : Int), .int .i64 (m : Int), .int .i64 (k : Int), .int .i64 (l : Int), .int .i64 0, .int .i64 (cl : Int)] 36)
  have hI := heap_alloc_new w5 (.cells #[.int .i64 (o : Int), .int .i64 (m : Int), .int .i64 (k : Int), .int .i64 (l : Int), .int .i64 0, .int .i64 (cl : Int)] 36)
  have hR := row_alloc ((hb.block _ (lt_of_row hR0)).trans hR0) (.cells #[.int .i64 (o : Int), .int .i64 (m : Int), .int .i64 (k : Int), .int .i64 (l : Int), .int .i64 0, .int .i64 (cl : Int)] 36)
  have hL := row_alloc ((hb.block _ (lt_of_row hL0)).trans hL0) (.cells #[.int .i64 (o : Int), .int .i64 (m : Int), .int .i64 (k : Int), .int .i64 (l : Int), .int .i64 0, .int .i64 (cl : Int)] 36)
  have hne : w.heap.size ≠ w5.heap.size := by have := hb.size; omega
  have hge : w.heap.size ≤ w5.heap.size := by have := hb.size; omega
  clear hb hB0 hR0 hL0 hsz0
  go_wp2_with fail
  refine (hcy _ hL).mono ?_
  rintro e w7 ⟨rfl, hb7⟩
  have hI7 := (hb7.block _ (lt_of_row hI)).trans hI
  have hR7 := (hb7.block _ (lt_of_row hR)).trans hR
  have hB7 := hB.trans (hb7.mono hB.size)
  clear hb7 hI hR hB hL hcy
  generalize w5.heap.size = g at *
  have c4 := (cell_of_row w7 g 4 _ _ _ hI7).trans (show _ = some (Value.int .i64 0) from rfl)
  have f4 := frozen_of_row hI7 4
  have hI8 := row_setCell (i := 4) hI7 (.int .i64 (cy : Int))
  have hR8 := row_setCell_other (i := 4) hR7 hne (.int .i64 (cy : Int))
  have hB8 := hB7.setCell (p := ⟨g, 4, none⟩) (by simp; omega) (.int .i64 (cy : Int))
  simp only [List.setIfInBounds_toArray, List.set_cons_zero, List.set_cons_succ] at hI8
  clear hI7 hR7 hB7
  go_wp2_with (first | ((with_reducible show wpList _ _ _ (⟨_, .load 36 (.tmp 3), _, _, _, none⟩ :: _) _ _); refine wpList_load_row rfl 36 (.tmp 3) rfl g ?q1 36 _ (0, 0) _ hI8 Tryd.underlying36 rfl sizeInst ?_; (case q1 => rfl)) | ((with_reducible show wpList _ _ _ (⟨none, .store 36 (.tmp 2) (.tmp 9), _, _, _, none⟩ :: _) _ _); refine wpList_store_row rfl 36 (.tmp 2) (.tmp 9) rfl w.heap.size #[.int .i64 (o : Int), .int .i64 (m : Int), .int .i64 (k : Int), .int .i64 (l : Int), .int .i64 (cy : Int), .int .i64 (cl : Int)] rfl rfl 36 _ hR8 sizeInst rfl (by kernel_rfl) ?_; obtain ⟨w9, e9, hR9, hB9⟩ := box_stored hB8 (Nat.le_refl _) hR8 #[.int .i64 (o : Int), .int .i64 (m : Int), .int .i64 (k : Int), .int .i64 (l : Int), .int .i64 (cy : Int), .int .i64 (cl : Int)]; rw [e9]; clear e9 hR8 hB8))
  exact bodyPost_ret (results_cell_row rfl _ _ w.heap.size 36 _ (0, 0) _ rfl hR9 Tryd.underlying36 rfl sizeInst) rfl ⟨rfl, hB9⟩
end Go.Proofs.YtknfphgncoojeaaDoor

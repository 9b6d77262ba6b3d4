/- isa.opcodes: the contract. -/
import Derived.Test.YtknfphgncoojeaaDoorIsaRow
import Derived.WalkLawsBesides
namespace Go.Proofs.YtknfphgncoojeaaDoor
open Go.RowKit

def pairV (p : Nat × Nat) : List Value := [.int .i64 (p.1 : Int), .int .i64 (p.2 : Int)]
def partA (k : Nat) : Array Value := ((tabL.take k).flatMap pairV ++ List.replicate (512 - 2 * k) (Value.int .i64 0)).toArray
def tabA : Array Value := (tabL.flatMap pairV).toArray
theorem flat_len (l : List (Nat × Nat)) : (l.flatMap pairV).length = 2 * l.length := by
  induction l with
  | nil => rfl
  | cons x l ih => rw [List.flatMap_cons, List.length_append, ih, List.length_cons]; simp [pairV]; omega
theorem partA_size (k : Nat) (h : k ≤ 256) : (partA k).size = 512 := by
  unfold partA
  simp only [List.size_toArray, List.length_append, List.length_replicate, flat_len, List.length_take, tabL_length]
  omega
theorem partA_at (k j : Nat) (h : k < 256) (hj : j < 2) : (partA k)[2 * k + j]? = some (.int .i64 0) := by
  unfold partA
  have hl : ((tabL.take k).flatMap pairV).length = 2 * k := by rw [flat_len, List.length_take, tabL_length]; omega
  rw [List.getElem?_toArray, List.getElem?_append_right (by omega), hl]
  rw [List.getElem?_replicate, if_pos (by omega)]
theorem partA_next (k : Nat) (h : k < 256) : ((partA k).setIfInBounds (2 * k) (.int .i64 (opT k : Int))).setIfInBounds (2 * k + 1) (.int .i64 (modeT k : Int)) = partA (k + 1) := by
  unfold partA
  have hk : k < tabL.length := by rw [tabL_length]; exact h
  have hl : ((tabL.take k).flatMap pairV).length = 2 * k := by rw [flat_len, List.length_take, tabL_length]; omega
  have e : 512 - 2 * k = (512 - 2 * (k + 1)) + 1 + 1 := by omega
  rw [List.setIfInBounds_toArray, List.setIfInBounds_toArray, List.set_append_right _ _ (by omega), List.set_append_right _ _ (by omega), hl, e, List.replicate_succ, List.replicate_succ]
  have e1 : 2 * k - 2 * k = 0 := by omega
  have e2 : 2 * k + 1 - 2 * k = 1 := by omega
  rw [e1, e2, List.set_cons_zero, List.set_cons_succ, List.set_cons_zero, List.take_succ_eq_append_getElem hk, List.flatMap_append, List.append_assoc]
  have eo : opT k = tabL[k].1 := by unfold opT; rw [List.getD_eq_getElem?_getD, List.getElem?_eq_getElem hk]; rfl
  have em : modeT k = tabL[k].2 := by unfold modeT; rw [List.getD_eq_getElem?_getD, List.getElem?_eq_getElem hk]; rfl
  rw [eo, em]
  simp [pairV]
theorem partA_last : partA 256 = tabA := by
  unfold partA tabA
  rw [List.take_of_length_le (by rw [tabL_length]; omega)]
  simp
theorem allocOps (w : World) : (Instr.alloc 62 true (.tuple #[])).run Tryd.prog w = .ok (.pointer (some ⟨w.heap.size, 0, none⟩)) (w.alloc (.cells (partA 0) 62)) := by kernel_rfl
theorem sizeTab : (Tryd.prog.info? 62).map (·.size) = some tabA.size := by kernel_rfl
set_option maxRecDepth 100000 in
set_option maxHeartbeats 4000000 in
theorem opcodes_any (w : World) : Calls Tryd.prog 32 #[] w fun e w' => e = .returned (.agg tabA) ∧ Below w.heap.size w w' := by
  have hal := allocOps
  go_enter Tryd.func32, Tryd.ntmps32
  go_wp2_with fail
  go_loopw [1, 2] (fun _ i wr => ∃ k : Nat, k ≤ 256 ∧ i = .int .i64 k ∧ wr.heap[w.heap.size]? = some (.cells (partA k) 62 (0, 0)) ∧ Below w.heap.size w wr) (fun _ i _ => 256 - (intOf i).toNat)
  case atStart => exact ⟨0, by omega, rfl, heap_alloc_new w _, (Below.refl _ _).alloc (Nat.le_refl _) _⟩
  case round =>
    obtain ⟨k, hk, rfl, hg, hB⟩ := hrel
    clear hal
    by_cases hlt : k < 256
    · have hw : IntKind.u8.wrap (k : Int) = (k : Int) := by rw [IntKind.wrap_u8]; omega
      go_wp2_with fail
      refine (rowOf_any k hlt _).mono ?_
      rintro e w1 ⟨rfl, hb⟩
      have hn := box_called hB hg hb; clear hg hB hb; obtain ⟨hg, hB⟩ := hn
      have e2 : 2 * k = k * 2 := by omega
      have c0 := cell_of_row w1 _ (k * 2) _ _ _ hg
      have c1 := cell_of_row w1 _ (k * 2 + 1) _ _ _ hg
      have p0 := partA_at k 0 hlt (by omega)
      have p1 := partA_at k 1 hlt (by omega)
      rw [e2] at p0 p1
      rw [Nat.add_zero] at p0
      rw [p0] at c0
      rw [p1] at c1
      have f0 := frozen_of_row hg (k * 2)
      have f1 := frozen_of_row hg (k * 2 + 1)
      clear p0 p1 e2
      go_wp2_with fail
      go_roundw
      case rel =>
        refine ⟨k + 1, by omega, by go_num, ?_, (hB.setCell (by simp) _).setCell (by simp) _⟩
        have := row_setCell (i := k * 2 + 1) (row_setCell (i := k * 2) hg (.int .i64 (opT k : Int))) (.int .i64 (modeT k : Int))
        rw [show k * 2 = 2 * k from by omega, partA_next k hlt] at this
        rw [show k * 2 = 2 * k from by omega]
        exact this
      case measure => simp [intOf]; omega
    · obtain rfl : k = 256 := by omega
      rw [partA_last] at hg
      go_wp2_with (first | ((with_reducible show wpList _ _ _ (⟨_, .load 62 (.tmp 0), _, _, _, none⟩ :: _) _ _); refine wpList_load_row rfl 62 (.tmp 0) rfl w.heap.size ?q1 62 _ (0, 0) _ hg Tryd.underlying62 rfl sizeTab ?_; (case q1 => rfl)) | ((with_reducible show wpList _ _ _ (⟨none, .store 62 (.tmp 0) (.tmp 11), _, _, _, none⟩ :: _) _ _); refine wpList_store_row rfl 62 (.tmp 0) (.tmp 11) rfl w.heap.size tabA rfl rfl 62 _ hg sizeTab rfl (by kernel_rfl) ?_; rw [setRow_self _ _ _ _ _ hg]))
      exact bodyPost_ret (results_cell_row rfl _ _ w.heap.size 62 _ (0, 0) _ rfl hg Tryd.underlying62 rfl sizeTab) rfl ⟨rfl, hB⟩
end Go.Proofs.YtknfphgncoojeaaDoor

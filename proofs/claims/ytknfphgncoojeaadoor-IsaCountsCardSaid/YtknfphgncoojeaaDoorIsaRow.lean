/- isa.line, isa.rowOf: their contracts for every opcode. -/
import Derived.Test.YtknfphgncoojeaaDoorIsaLineA
import Derived.Test.YtknfphgncoojeaaDoorIsaLineB
import Derived.Test.YtknfphgncoojeaaDoorIsaLineC
import Derived.Test.YtknfphgncoojeaaDoorIsaLineD
import Derived.Test.YtknfphgncoojeaaDoorBox
import Derived.Lib.Hide
import Derived.Laws.BitsLemmas
namespace Go.Proofs.YtknfphgncoojeaaDoor
open Go.RowKit
theorem line_any (k : Nat) (hk : k < 16) (w : World) : Calls Tryd.prog 71 #[.int .u8 (k : Int)] w fun e w' => e = .returned (.agg (lineV k)) ∧ Below w.heap.size w w' := by
  have h : k = 0 ∨ k = 1 ∨ k = 2 ∨ k = 3 ∨ k = 4 ∨ k = 5 ∨ k = 6 ∨ k = 7 ∨ k = 8 ∨ k = 9 ∨ k = 10 ∨ k = 11 ∨ k = 12 ∨ k = 13 ∨ k = 14 ∨ k = 15 := by omega
  rcases h with rfl | rfl | rfl | rfl | rfl | rfl | rfl | rfl | rfl | rfl | rfl | rfl | rfl | rfl | rfl | rfl
  · exact line0 w
  · exact line1 w
  · exact line2 w
  · exact line3 w
  · exact line4 w
  · exact line5 w
  · exact line6 w
  · exact line7 w
  · exact line8 w
  · exact line9 w
  · exact line10 w
  · exact line11 w
  · exact line12 w
  · exact line13 w
  · exact line14 w
  · exact line15 w

theorem flat_drop {α β : Type} (f : α → List β) (hf : ∀ x, (f x).length = 2) : ∀ (j : Nat) (l : List α), (l.flatMap f).drop (2 * j) = (l.drop j).flatMap f
  | 0, l => by simp
  | j + 1, [] => by simp
  | j + 1, x :: l => by
    have e : 2 * (j + 1) = (f x).length + 2 * j := by rw [hf]; omega
    rw [List.flatMap_cons, e, List.drop_append, List.drop_eq_nil_of_le (by omega), List.nil_append, List.drop_succ_cons]
    have e2 : (f x).length + 2 * j - (f x).length = 2 * j := by omega
    rw [e2, flat_drop f hf j l]
theorem flat_at {α β : Type} (f : α → List β) (hf : ∀ x, (f x).length = 2) (l : List α) (j : Nat) (h : j < l.length) : ((l.flatMap f).drop (2 * j)).take 2 = f l[j] := by
  rw [flat_drop f hf, List.drop_eq_getElem_cons h, List.flatMap_cons, List.take_append_of_le_length (by rw [hf]; omega), List.take_of_length_le (by rw [hf]; omega)]
theorem tabL_length : tabL.length = 256 := by decide +kernel
theorem lineV_at (c : Nat) (h : c < 256) : (lineV (c / 16)).extract (2 * (c % 16)) (2 * (c % 16) + 2) = #[.int .i64 (opT c : Int), .int .i64 (modeT c : Int)] := by
  unfold lineV
  rw [List.extract_toArray]
  have hl : c % 16 < ((tabL.drop (16 * (c / 16))).take 16).length := by rw [List.length_take, List.length_drop, tabL_length]; omega
  have := flat_at (fun p : Nat × Nat => [Value.int .i64 (p.1 : Int), Value.int .i64 (p.2 : Int)]) (fun _ => rfl) ((tabL.drop (16 * (c / 16))).take 16) (c % 16) hl
  have e : (2 * (c % 16) + 2 - 2 * (c % 16)) = 2 := by omega
  rw [List.extract_eq_take_drop, e, this, List.getElem_take, List.getElem_drop]
  have e2 : 16 * (c / 16) + c % 16 = c := by omega
  simp only [e2, opT, modeT]
  rw [List.getD_eq_getElem?_getD, List.getElem?_eq_getElem (by rw [tabL_length]; exact h)]
  rfl
theorem sizeRow : (Tryd.prog.info? 61).map (·.size) = some 2 := by kernel_rfl
theorem row_index (c : Nat) (h : c < 256) (w : World) : (Instr.index 105 (.agg (lineV (c / 16))) (.int .u8 ((c : Int) % 16))).run Tryd.prog w = .ok (.agg #[.int .i64 (opT c : Int), .int .i64 (modeT c : Int)]) w := by
  have h1 : 0 ≤ (c : Int) % 16 ∧ (c : Int) % 16 < 16 := by omega
  have e1 : ((c : Int) % 16).toNat = c % 16 := by omega
  have e2 : 2 * (c % 16) = c % 16 * 2 := by omega
  have hl := lineV_at c h
  rw [e2] at hl
  unfold Instr.index
  simp [asIntOf, run_underlying Tryd.underlying105, h1, part, e1, hl]
set_option maxRecDepth 100000 in
set_option maxHeartbeats 2000000 in
theorem rowOf_any (c : Nat) (h : c < 256) (w : World) : Calls Tryd.prog 37 #[.int .u8 (c : Int)] w fun e w' => e = .returned (.agg #[.int .i64 (opT c : Int), .int .i64 (modeT c : Int)]) ∧ Below w.heap.size w w' := by
  have ha := u8_and15 (c : Int) (by omega) (by omega)
  have hi := row_index c h
  have hd : (c : Int) / 16 = ((c / 16 : Nat) : Int) := by omega
  have HD := Lib.hid hd; clear hd
  go_enter Tryd.func37, Tryd.ntmps37
  have hg := heap_alloc_new w (.cells #[.int .i64 0, .int .i64 0] 61)
  have hB := (Below.refl w.heap.size w).alloc (Nat.le_refl _) (.cells #[.int .i64 0, .int .i64 0] 61)
  go_wp2_with fail
  rw [HD.out]
  refine (line_any _ (by omega) _).mono ?_
  rintro e w1 ⟨rfl, hb⟩
  have hn := box_called hB hg hb; clear hg hB hb; obtain ⟨hg, hB⟩ := hn
  go_wp2_with ((with_reducible show wpList _ _ _ (⟨none, .store 61 (.tmp 2) (.tmp 8), _, _, _, none⟩ :: _) _ _); refine wpList_store_row rfl 61 (.tmp 2) (.tmp 8) rfl w.heap.size _ rfl rfl 61 _ hg sizeRow rfl (by kernel_rfl) ?_; obtain ⟨w3, e3, hn⟩ := box_stored hB (Nat.le_refl _) hg #[.int .i64 (opT c : Int), .int .i64 (modeT c : Int)]; rw [e3]; clear e3 hg hB; obtain ⟨hg, hB⟩ := hn)
  exact bodyPost_ret (results_cell_row rfl _ _ w.heap.size 61 _ (0, 0) _ rfl hg Tryd.underlying61 rfl sizeRow) rfl ⟨rfl, hB⟩
end Go.Proofs.YtknfphgncoojeaaDoor

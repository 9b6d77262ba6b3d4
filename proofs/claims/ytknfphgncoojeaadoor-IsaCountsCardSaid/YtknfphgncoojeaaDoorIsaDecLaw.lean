/- IsaDecodes: the law's walk. -/
import Derived.Test.YtknfphgncoojeaaDoorIsaFlags
namespace Go.Proofs.YtknfphgncoojeaaDoor
open Go.RowKit
set_option maxRecDepth 100000 in
set_option maxHeartbeats 8000000 in
theorem isaDecodes_walk (c : Nat) (hc : c < 256) (w : World) (tF tL tN tG : TypeId) (fF fL fN fG : Nat × Nat) (hF : w.heap[3]? = some (.cells fillA tF fF)) (hL : w.heap[4]? = some (.cells lettersA tL fL)) (hN : w.heap[0]? = some (.cells lenA tN fN)) (hG : w.heap[5]? = some (.cells flagA tG fG)) :
    Calls Tryd.prog 6 #[.int .u8 (c : Int)] w fun e w' => e = .returned (.bool true) ∧ Below w.heap.size w w' := by
  have hdec := decode_any c hc w tF tN fF fN hF hN
  have hrd := fun wx h => refdecode_any c hc wx tL fL h
  unfold instD at hdec hrd
  obtain ⟨k, hk⟩ : ∃ k, kindT c = k := ⟨_, rfl⟩
  obtain ⟨m, hm⟩ : ∃ m, modeT c = m := ⟨_, rfl⟩
  obtain ⟨o, ho⟩ : ∃ o, opT c = o := ⟨_, rfl⟩
  obtain ⟨cl, hcl⟩ : ∃ cl, classT c = cl := ⟨_, rfl⟩
  obtain ⟨cy, hcy⟩ : ∃ cy, (shapeC c false false).length = cy := ⟨_, rfl⟩
  obtain ⟨l, hl⟩ : ∃ l, lenR (modeT c) = l := ⟨_, rfl⟩
  rw [hl, hk, hm, ho, hcl, hcy] at hdec hrd
  have hq := eql_inst (o : Int) (m : Int) (k : Int) (l : Int) (cy : Int) (cl : Int)
  have hfl := fun wx h => flags_any c hc wx tG fG h
  have hrf := fun wx h => refflags_any c hc wx tL fL h
  obtain ⟨p, hp⟩ : ∃ p, needsT (opT c) = p := ⟨_, rfl⟩
  obtain ⟨s, hs⟩ : ∃ s, setsT (opT c) = s := ⟨_, rfl⟩
  rw [hp, hs] at hfl hrf
  clear hk hm ho hcl hcy hl hp hs
  go_enter Tryd.func6, Tryd.ntmps6
  go_wp2_with fail
  refine hdec.mono ?_
  rintro e w1 ⟨rfl, hb1⟩
  have hB1 := hb1.alloc hb1.size (.cells #[.int .i64 (o : Int), .int .i64 (m : Int), .int .i64 (k : Int), .int .i64 (l : Int), .int .i64 (cy : Int), .int .i64 (cl : Int)] 36)
  have hA1 := heap_alloc_new w1 (.cells #[.int .i64 (o : Int), .int .i64 (m : Int), .int .i64 (k : Int), .int .i64 (l : Int), .int .i64 (cy : Int), .int .i64 (cl : Int)] 36)
  have hL1 := row_alloc ((hb1.block _ (lt_of_row hL)).trans hL) (.cells #[.int .i64 (o : Int), .int .i64 (m : Int), .int .i64 (k : Int), .int .i64 (l : Int), .int .i64 (cy : Int), .int .i64 (cl : Int)] 36)
  have hG1 := row_alloc ((hb1.block _ (lt_of_row hG)).trans hG) (.cells #[.int .i64 (o : Int), .int .i64 (m : Int), .int .i64 (k : Int), .int .i64 (l : Int), .int .i64 (cy : Int), .int .i64 (cl : Int)] 36)
  clear hb1 hdec
  go_wp2_with fail
  refine (hrd _ hL1).mono ?_
  rintro e w2 ⟨rfl, hb2⟩
  have hB2 := (hB1.trans (hb2.mono hB1.size)).alloc (by have h1 := hB1.size; have h2 := hb2.size; omega) (.cells #[.int .i64 (o : Int), .int .i64 (m : Int), .int .i64 (k : Int), .int .i64 (l : Int), .int .i64 (cy : Int), .int .i64 (cl : Int)] 36)
  have hA2 := row_alloc ((hb2.block _ (lt_of_row hA1)).trans hA1) (.cells #[.int .i64 (o : Int), .int .i64 (m : Int), .int .i64 (k : Int), .int .i64 (l : Int), .int .i64 (cy : Int), .int .i64 (cl : Int)] 36)
  have hC2 := heap_alloc_new w2 (.cells #[.int .i64 (o : Int), .int .i64 (m : Int), .int .i64 (k : Int), .int .i64 (l : Int), .int .i64 (cy : Int), .int .i64 (cl : Int)] 36)
  have hL2 := row_alloc ((hb2.block _ (lt_of_row hL1)).trans hL1) (.cells #[.int .i64 (o : Int), .int .i64 (m : Int), .int .i64 (k : Int), .int .i64 (l : Int), .int .i64 (cy : Int), .int .i64 (cl : Int)] 36)
  have hG2 := row_alloc ((hb2.block _ (lt_of_row hG1)).trans hG1) (.cells #[.int .i64 (o : Int), .int .i64 (m : Int), .int .i64 (k : Int), .int .i64 (l : Int), .int .i64 (cy : Int), .int .i64 (cl : Int)] 36)
  clear hb2 hB1 hA1 hL1 hG1 hrd
  go_wp2_with fail
  refine (hfl _ hG2).mono ?_
  rintro e w3 ⟨rfl, hb3⟩
  have hB3 := hB2.trans (hb3.mono hB2.size)
  have hA3 := (hb3.block _ (lt_of_row hA2)).trans hA2
  have hC3 := (hb3.block _ (lt_of_row hC2)).trans hC2
  have hL3 := (hb3.block _ (lt_of_row hL2)).trans hL2
  clear hb3 hB2 hA2 hC2 hL2 hG2 hfl
  go_wp2_with fail
  refine (hrf _ hL3).mono ?_
  rintro e w4 ⟨rfl, hb4⟩
  have hB4 := hB3.trans (hb4.mono hB3.size)
  have hA4 := (hb4.block _ (lt_of_row hA3)).trans hA3
  have hC4 := (hb4.block _ (lt_of_row hC3)).trans hC3
  clear hb4 hB3 hA3 hC3 hL3 hrf
  generalize w1.heap.size = g1 at *
  generalize w2.heap.size = g2 at *
  have hq4 := hq w4
  clear hq
  go_wp2_with (first | ((with_reducible show wpList _ _ _ (⟨_, .load 36 (.tmp 3), _, _, _, none⟩ :: _) _ _); refine wpList_load_row rfl 36 (.tmp 3) rfl g1 ?q1 36 _ (0, 0) _ hA4 Tryd.underlying36 rfl sizeInst ?_; (case q1 => rfl)) | ((with_reducible show wpList _ _ _ (⟨_, .load 36 (.tmp 4), _, _, _, none⟩ :: _) _ _); refine wpList_load_row rfl 36 (.tmp 4) rfl g2 ?q2 36 _ (0, 0) _ hC4 Tryd.underlying36 rfl sizeInst ?_; (case q2 => rfl)))
  go_ret
  exact ⟨rfl, hB4⟩
end Go.Proofs.YtknfphgncoojeaaDoor

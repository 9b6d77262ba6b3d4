/- isa.flow: the contract. -/
import Derived.Test.YtknfphgncoojeaaDoorAccApp
import Derived.Test.YtknfphgncoojeaaDoorIsaOpnd
import Derived.Test.YtknfphgncoojeaaDoorBox
import Derived.Lib.Hide
namespace Go.Proofs.YtknfphgncoojeaaDoor
open Go.RowKit
/-- the accesses of a jump, a branch, a stack instruction, behind the opcode's -/
def flowT (o m k : Nat) (x t : Bool) : List Nat :=
  if k = 5 then [1] ++ (if t = true then [2] ++ (if x = true then [6] else []) else []) else if k = 6 then [1, 1] ++ (if m = 11 then [4, 5] else []) else if k = 7 then [1, 10, 11, 11, 1] else
  if k = 8 then [2, 10, 12, 12] ++ (if o = 41 then [12] else [1]) else if k = 11 then [1, 11, 11, 11, 13, 14] else if k = 9 then [2, 11] else if k = 10 then [2, 10, 12] else []
theorem keep_row {w w' : World} {v v' : Value} {g : Nat} {ob : Obj} (hI : w.heap[g]? = some ob) (hne : v.ownBlock ≠ some g) (hblk : v'.ownBlock = v.ownBlock ∨ ∃ k, v'.ownBlock = some k ∧ w.heap.size ≤ k) (hg : w.grownBy w' v.ownBlock) : w'.heap[g]? = some ob ∧ v'.ownBlock ≠ some g := by
  have hlt := lt_of_row hI
  refine ⟨(hg.block g hlt (fun h => hne h.symm)).trans hI, ?_⟩
  rcases hblk with h | ⟨k, h, hk⟩
  · rw [h]; exact hne
  · rw [h]
    intro hq
    have := Option.some.inj hq
    omega
set_option maxRecDepth 100000 in
set_option maxHeartbeats 16000000 in
theorem flow_any (o m k : Nat) (x t : Bool) (hk : 5 ≤ k ∧ k ≤ 11) (v : Value) (n : Nat) (xs : List Value) (w0 w : World) (hB : Below w0.heap.size w0 w) (hown : w.ownsRow w0.heap.size 32 1 v n xs) (hnn : v ≠ .slice none 0 0) (hn : n ≤ 500) :
    Calls Tryd.prog 40 #[v, .agg #[.int .i64 (o : Int), .int .i64 (m : Int)], .int .i64 (k : Int), .bool x, .bool t] w fun e w' => ∃ v', e = .returned v' ∧ w'.ownsRow w0.heap.size 32 1 v' (n + (flowT o m k x t).length) (xs ++ accV (flowT o m k x t)) ∧ v' ≠ .slice none 0 0 ∧ Below w0.heap.size w0 w' := by
  have hk' : k = 5 ∨ k = 6 ∨ k = 7 ∨ k = 8 ∨ k = 9 ∨ k = 10 ∨ k = 11 := by omega
  clear hk
  have hown0 := hown
  have hB0 := hB
  have hB := hB.alloc hB.size (.cells #[.int .i64 (o : Int), .int .i64 (m : Int)] 61)
  have hown := hown.alloc (.cells #[.int .i64 (o : Int), .int .i64 (m : Int)] 61)
  have hI := heap_alloc_new w (.cells #[.int .i64 (o : Int), .int .i64 (m : Int)] 61)
  have hne : v.ownBlock ≠ some w.heap.size := by
    intro hq
    have := (hown0.lt _ hq).2
    omega
  clear hown0 hB0
  go_enter Tryd.func40, Tryd.ntmps40
  rcases hk' with rfl | rfl | rfl | rfl | rfl | rfl | rfl
  · cases t
    all_goals try cases x
    all_goals
      go_wp2_with (at_builtin; refine wpList_accs rfl _ _ 28 rfl 32 (.int .i64 0) Tryd.underlying28 infoAcc rfl _ w0 _ _ _ ?_ hown hnn hB _ ?_ ?_ ?_ ?_; exact rfl; (first | exact rfl | (show (Value.slice (some ⟨_, 0, none⟩) _ _) = _; simp)); simp [Value.oneCell']; (simp only [List.size_toArray, List.length_cons, List.length_nil]; omega); clear hown hnn hB; intro v1 w1 hown hnn hB _ _ _)
      go_ret
      exact ⟨_, rfl, by simpa [flowT, accV, Nat.add_assoc] using hown, hnn, hB⟩
  · by_cases hm : m = 11
    · have hm2 : ((m : Int) == 11) = true := by rw [beq_iff_eq]; omega
      have HM := Lib.hid hm; clear hm
      go_wp2_with (at_builtin; refine wpList_accs rfl _ _ 28 rfl 32 (.int .i64 0) Tryd.underlying28 infoAcc rfl _ w0 _ _ _ ?_ hown hnn hB _ ?_ ?_ ?_ ?_; exact rfl; (first | exact rfl | (show (Value.slice (some ⟨_, 0, none⟩) _ _) = _; simp)); simp [Value.oneCell']; (simp only [List.size_toArray, List.length_cons, List.length_nil]; omega); clear hown hnn hB; intro v1 w1 hown hnn hB _ hblk hg; obtain ⟨hI, hne⟩ := keep_row hI hne hblk hg; clear hblk hg; have c0 := (cell_of_row w1 w.heap.size 0 _ _ _ hI).trans (show _ = some (Value.int .i64 (o : Int)) from rfl); have c1 := (cell_of_row w1 w.heap.size 1 _ _ _ hI).trans (show _ = some (Value.int .i64 (m : Int)) from rfl))
      go_ret
      have hm := HM.out
      exact ⟨_, rfl, by simpa [flowT, accV, hm, Nat.add_assoc] using hown, hnn, hB⟩
    · have hm2 : ((m : Int) == 11) = false := by rw [beq_eq_false_iff_ne]; omega
      go_wp2_with (at_builtin; refine wpList_accs rfl _ _ 28 rfl 32 (.int .i64 0) Tryd.underlying28 infoAcc rfl _ w0 _ _ _ ?_ hown hnn hB _ ?_ ?_ ?_ ?_; exact rfl; (first | exact rfl | (show (Value.slice (some ⟨_, 0, none⟩) _ _) = _; simp)); simp [Value.oneCell']; (simp only [List.size_toArray, List.length_cons, List.length_nil]; omega); clear hown hnn hB; intro v1 w1 hown hnn hB _ hblk hg; obtain ⟨hI, hne⟩ := keep_row hI hne hblk hg; clear hblk hg; have c0 := (cell_of_row w1 w.heap.size 0 _ _ _ hI).trans (show _ = some (Value.int .i64 (o : Int)) from rfl); have c1 := (cell_of_row w1 w.heap.size 1 _ _ _ hI).trans (show _ = some (Value.int .i64 (m : Int)) from rfl))
      go_ret
      exact ⟨_, rfl, by simpa [flowT, accV, hm, Nat.add_assoc] using hown, hnn, hB⟩
  · go_wp2_with (at_builtin; refine wpList_accs rfl _ _ 28 rfl 32 (.int .i64 0) Tryd.underlying28 infoAcc rfl _ w0 _ _ _ ?_ hown hnn hB _ ?_ ?_ ?_ ?_; exact rfl; (first | exact rfl | (show (Value.slice (some ⟨_, 0, none⟩) _ _) = _; simp)); simp [Value.oneCell']; (simp only [List.size_toArray, List.length_cons, List.length_nil]; omega); clear hown hnn hB; intro v1 w1 hown hnn hB _ _ _)
    go_ret
    exact ⟨_, rfl, by simpa [flowT, accV, Nat.add_assoc] using hown, hnn, hB⟩
  · by_cases hm : o = 41
    · have hm2 : ((o : Int) == 41) = true := by rw [beq_iff_eq]; omega
      have HM := Lib.hid hm; clear hm
      go_wp2_with (at_builtin; refine wpList_accs rfl _ _ 28 rfl 32 (.int .i64 0) Tryd.underlying28 infoAcc rfl _ w0 _ _ _ ?_ hown hnn hB _ ?_ ?_ ?_ ?_; exact rfl; (first | exact rfl | (show (Value.slice (some ⟨_, 0, none⟩) _ _) = _; simp)); simp [Value.oneCell']; (simp only [List.size_toArray, List.length_cons, List.length_nil]; omega); clear hown hnn hB; intro v1 w1 hown hnn hB _ hblk hg; obtain ⟨hI, hne⟩ := keep_row hI hne hblk hg; clear hblk hg; have c0 := (cell_of_row w1 w.heap.size 0 _ _ _ hI).trans (show _ = some (Value.int .i64 (o : Int)) from rfl); have c1 := (cell_of_row w1 w.heap.size 1 _ _ _ hI).trans (show _ = some (Value.int .i64 (m : Int)) from rfl))
      go_ret
      have hm := HM.out
      exact ⟨_, rfl, by simpa [flowT, accV, hm, Nat.add_assoc] using hown, hnn, hB⟩
    · have hm2 : ((o : Int) == 41) = false := by rw [beq_eq_false_iff_ne]; omega
      go_wp2_with (at_builtin; refine wpList_accs rfl _ _ 28 rfl 32 (.int .i64 0) Tryd.underlying28 infoAcc rfl _ w0 _ _ _ ?_ hown hnn hB _ ?_ ?_ ?_ ?_; exact rfl; (first | exact rfl | (show (Value.slice (some ⟨_, 0, none⟩) _ _) = _; simp)); simp [Value.oneCell']; (simp only [List.size_toArray, List.length_cons, List.length_nil]; omega); clear hown hnn hB; intro v1 w1 hown hnn hB _ hblk hg; obtain ⟨hI, hne⟩ := keep_row hI hne hblk hg; clear hblk hg; have c0 := (cell_of_row w1 w.heap.size 0 _ _ _ hI).trans (show _ = some (Value.int .i64 (o : Int)) from rfl); have c1 := (cell_of_row w1 w.heap.size 1 _ _ _ hI).trans (show _ = some (Value.int .i64 (m : Int)) from rfl))
      go_ret
      exact ⟨_, rfl, by simpa [flowT, accV, hm, Nat.add_assoc] using hown, hnn, hB⟩
  all_goals
    go_wp2_with (at_builtin; refine wpList_accs rfl _ _ 28 rfl 32 (.int .i64 0) Tryd.underlying28 infoAcc rfl _ w0 _ _ _ ?_ hown hnn hB _ ?_ ?_ ?_ ?_; exact rfl; (first | exact rfl | (show (Value.slice (some ⟨_, 0, none⟩) _ _) = _; simp)); simp [Value.oneCell']; (simp only [List.size_toArray, List.length_cons, List.length_nil]; omega); clear hown hnn hB; intro v1 w1 hown hnn hB _ _ _)
    go_ret
    exact ⟨_, rfl, by simpa [flowT, accV, Nat.add_assoc] using hown, hnn, hB⟩
end Go.Proofs.YtknfphgncoojeaaDoor

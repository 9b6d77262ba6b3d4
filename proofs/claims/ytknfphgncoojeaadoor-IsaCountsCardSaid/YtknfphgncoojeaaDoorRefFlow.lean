/- tandemref4.flow: the contract. -/
import Derived.Test.YtknfphgncoojeaaDoorIsaShape
import Derived.Test.YtknfphgncoojeaaDoorBox
import Derived.Lib.Hide
namespace Go.Proofs.YtknfphgncoojeaaDoor
open Go.RowKit
theorem own_lit (w : World) (base n : Nat) (e : TypeId) (cs : Array Value) (hb : base ≤ w.heap.size) (hn : cs.size = n) (h : n ≤ 1000) : (w.alloc (.cells cs e)).ownsRow base e 1 (.slice (some ⟨w.heap.size, 0, none⟩) n n) n cs.toList :=
  ⟨by simpa using hn, .inr ⟨w.heap.size, n, cs, rfl, hb, heap_alloc_new w _, Nat.le_refl _, by unfold maxLen; omega, by simpa using hn, by rw [List.take_of_length_le]; simp; omega⟩⟩
set_option maxRecDepth 100000 in
set_option maxHeartbeats 16000000 in
theorem refflow_any (o m k : Nat) (l cy cl : Int) (x t : Bool) (hk : k = 0 ∨ (5 ≤ k ∧ k ≤ 12)) (w : World) :
    Calls Tryd.prog 41 #[.agg #[.int .i64 (o : Int), .int .i64 (m : Int), .int .i64 (k : Int), .int .i64 l, .int .i64 cy, .int .i64 cl], .bool x, .bool t] w fun e w' => ∃ v', e = .returned v' ∧ w'.ownsRow w.heap.size 32 1 v' (bodyT o m k x t).length.succ (accV (0 :: bodyT o m k x t)) ∧ v' ≠ .slice none 0 0 ∧ Below w.heap.size w w' := by
  have hk' : k = 0 ∨ k = 5 ∨ k = 6 ∨ k = 7 ∨ k = 8 ∨ k = 9 ∨ k = 10 ∨ k = 11 ∨ k = 12 := by omega
  clear hk
  have hB := ((Below.refl w.heap.size w).alloc (Nat.le_refl _) (.cells #[.int .i64 (o : Int), .int .i64 (m : Int), .int .i64 (k : Int), .int .i64 l, .int .i64 cy, .int .i64 cl] 36)).alloc (by simp) (.cells #[.int .i64 0] 32)
  have hI := row_alloc (heap_alloc_new w (.cells #[.int .i64 (o : Int), .int .i64 (m : Int), .int .i64 (k : Int), .int .i64 l, .int .i64 cy, .int .i64 cl] 36)) (.cells #[.int .i64 0] 32)
  have hown := own_lit (w.alloc (.cells #[.int .i64 (o : Int), .int .i64 (m : Int), .int .i64 (k : Int), .int .i64 l, .int .i64 cy, .int .i64 cl] 36)) w.heap.size 1 32 #[.int .i64 0] (by simp) rfl (by omega)
  rw [show (w.alloc (.cells #[.int .i64 (o : Int), .int .i64 (m : Int), .int .i64 (k : Int), .int .i64 l, .int .i64 cy, .int .i64 cl] 36)).heap.size = w.heap.size + 1 from by simp] at hown
  have hnn : (Value.slice (some ⟨w.heap.size + 1, 0, none⟩) 1 1) ≠ .slice none 0 0 := by simp
  have hne : (Value.slice (some ⟨w.heap.size + 1, 0, none⟩) 1 1).ownBlock ≠ some w.heap.size := by simp [Value.ownBlock]
  go_enter Tryd.func41, Tryd.ntmps41
  rcases hk' with rfl | rfl | rfl | rfl | rfl | rfl | rfl | rfl | rfl
  · by_cases hm : m = 2
    · have hm2 : ((m : Int) == 2) = true := by rw [beq_iff_eq]; omega
      have HM := Lib.hid hm; clear hm
      go_wp2_with (at_builtin; refine wpList_accs rfl _ _ 28 rfl 32 (.int .i64 0) Tryd.underlying28 infoAcc rfl _ w _ _ _ ?_ hown hnn hB _ ?_ ?_ ?_ ?_; exact rfl; (first | exact rfl | (show (Value.slice (some ⟨_, 0, none⟩) _ _) = _; simp)); simp [Value.oneCell']; (simp only [List.size_toArray, List.length_cons, List.length_nil]; omega); clear hown hnn hB; intro v1 w1 hown hnn hB _ hblk hg; obtain ⟨hI, hne⟩ := keep_row hI hne hblk hg; clear hblk hg; have c0 := (cell_of_row w1 w.heap.size 0 _ _ _ hI).trans (show _ = some (Value.int .i64 (o : Int)) from rfl); have c1 := (cell_of_row w1 w.heap.size 1 _ _ _ hI).trans (show _ = some (Value.int .i64 (m : Int)) from rfl))
      go_ret
      have hm := HM.out
      exact ⟨_, rfl, by simpa [bodyT, flowT, accV, Nat.add_comm, Nat.add_assoc, hm] using hown, hnn, hB⟩
    · have hm2 : ((m : Int) == 2) = false := by rw [beq_eq_false_iff_ne]; omega
      go_wp2_with (at_builtin; refine wpList_accs rfl _ _ 28 rfl 32 (.int .i64 0) Tryd.underlying28 infoAcc rfl _ w _ _ _ ?_ hown hnn hB _ ?_ ?_ ?_ ?_; exact rfl; (first | exact rfl | (show (Value.slice (some ⟨_, 0, none⟩) _ _) = _; simp)); simp [Value.oneCell']; (simp only [List.size_toArray, List.length_cons, List.length_nil]; omega); clear hown hnn hB; intro v1 w1 hown hnn hB _ hblk hg; obtain ⟨hI, hne⟩ := keep_row hI hne hblk hg; clear hblk hg; have c0 := (cell_of_row w1 w.heap.size 0 _ _ _ hI).trans (show _ = some (Value.int .i64 (o : Int)) from rfl); have c1 := (cell_of_row w1 w.heap.size 1 _ _ _ hI).trans (show _ = some (Value.int .i64 (m : Int)) from rfl))
      go_ret
      exact ⟨_, rfl, by simpa [bodyT, flowT, accV, Nat.add_comm, Nat.add_assoc, hm] using hown, hnn, hB⟩
  · cases t
    all_goals try cases x
    all_goals
      go_wp2_with (at_builtin; refine wpList_accs rfl _ _ 28 rfl 32 (.int .i64 0) Tryd.underlying28 infoAcc rfl _ w _ _ _ ?_ hown hnn hB _ ?_ ?_ ?_ ?_; exact rfl; (first | exact rfl | (show (Value.slice (some ⟨_, 0, none⟩) _ _) = _; simp)); simp [Value.oneCell']; (simp only [List.size_toArray, List.length_cons, List.length_nil]; omega); clear hown hnn hB; intro v1 w1 hown hnn hB _ _ _)
      go_ret
      exact ⟨_, rfl, by simpa [bodyT, flowT, accV, Nat.add_comm, Nat.add_assoc] using hown, hnn, hB⟩
  · by_cases hm : m = 11
    · have hm2 : ((m : Int) == 11) = true := by rw [beq_iff_eq]; omega
      have HM := Lib.hid hm; clear hm
      go_wp2_with (at_builtin; refine wpList_accs rfl _ _ 28 rfl 32 (.int .i64 0) Tryd.underlying28 infoAcc rfl _ w _ _ _ ?_ hown hnn hB _ ?_ ?_ ?_ ?_; exact rfl; (first | exact rfl | (show (Value.slice (some ⟨_, 0, none⟩) _ _) = _; simp)); simp [Value.oneCell']; (simp only [List.size_toArray, List.length_cons, List.length_nil]; omega); clear hown hnn hB; intro v1 w1 hown hnn hB _ hblk hg; obtain ⟨hI, hne⟩ := keep_row hI hne hblk hg; clear hblk hg; have c0 := (cell_of_row w1 w.heap.size 0 _ _ _ hI).trans (show _ = some (Value.int .i64 (o : Int)) from rfl); have c1 := (cell_of_row w1 w.heap.size 1 _ _ _ hI).trans (show _ = some (Value.int .i64 (m : Int)) from rfl))
      go_ret
      have hm := HM.out
      exact ⟨_, rfl, by simpa [bodyT, flowT, accV, Nat.add_comm, Nat.add_assoc, hm] using hown, hnn, hB⟩
    · have hm2 : ((m : Int) == 11) = false := by rw [beq_eq_false_iff_ne]; omega
      go_wp2_with (at_builtin; refine wpList_accs rfl _ _ 28 rfl 32 (.int .i64 0) Tryd.underlying28 infoAcc rfl _ w _ _ _ ?_ hown hnn hB _ ?_ ?_ ?_ ?_; exact rfl; (first | exact rfl | (show (Value.slice (some ⟨_, 0, none⟩) _ _) = _; simp)); simp [Value.oneCell']; (simp only [List.size_toArray, List.length_cons, List.length_nil]; omega); clear hown hnn hB; intro v1 w1 hown hnn hB _ hblk hg; obtain ⟨hI, hne⟩ := keep_row hI hne hblk hg; clear hblk hg; have c0 := (cell_of_row w1 w.heap.size 0 _ _ _ hI).trans (show _ = some (Value.int .i64 (o : Int)) from rfl); have c1 := (cell_of_row w1 w.heap.size 1 _ _ _ hI).trans (show _ = some (Value.int .i64 (m : Int)) from rfl))
      go_ret
      exact ⟨_, rfl, by simpa [bodyT, flowT, accV, Nat.add_comm, Nat.add_assoc, hm] using hown, hnn, hB⟩
  · go_wp2_with (at_builtin; refine wpList_accs rfl _ _ 28 rfl 32 (.int .i64 0) Tryd.underlying28 infoAcc rfl _ w _ _ _ ?_ hown hnn hB _ ?_ ?_ ?_ ?_; exact rfl; (first | exact rfl | (show (Value.slice (some ⟨_, 0, none⟩) _ _) = _; simp)); simp [Value.oneCell']; (simp only [List.size_toArray, List.length_cons, List.length_nil]; omega); clear hown hnn hB; intro v1 w1 hown hnn hB _ _ _)
    go_ret
    exact ⟨_, rfl, by simpa [bodyT, flowT, accV, Nat.add_comm, Nat.add_assoc] using hown, hnn, hB⟩
  · by_cases hm : o = 41
    · have hm2 : ((o : Int) == 41) = true := by rw [beq_iff_eq]; omega
      have HM := Lib.hid hm; clear hm
      go_wp2_with (at_builtin; refine wpList_accs rfl _ _ 28 rfl 32 (.int .i64 0) Tryd.underlying28 infoAcc rfl _ w _ _ _ ?_ hown hnn hB _ ?_ ?_ ?_ ?_; exact rfl; (first | exact rfl | (show (Value.slice (some ⟨_, 0, none⟩) _ _) = _; simp)); simp [Value.oneCell']; (simp only [List.size_toArray, List.length_cons, List.length_nil]; omega); clear hown hnn hB; intro v1 w1 hown hnn hB _ hblk hg; obtain ⟨hI, hne⟩ := keep_row hI hne hblk hg; clear hblk hg; have c0 := (cell_of_row w1 w.heap.size 0 _ _ _ hI).trans (show _ = some (Value.int .i64 (o : Int)) from rfl); have c1 := (cell_of_row w1 w.heap.size 1 _ _ _ hI).trans (show _ = some (Value.int .i64 (m : Int)) from rfl))
      go_ret
      have hm := HM.out
      exact ⟨_, rfl, by simpa [bodyT, flowT, accV, Nat.add_comm, Nat.add_assoc, hm] using hown, hnn, hB⟩
    · have hm2 : ((o : Int) == 41) = false := by rw [beq_eq_false_iff_ne]; omega
      go_wp2_with (at_builtin; refine wpList_accs rfl _ _ 28 rfl 32 (.int .i64 0) Tryd.underlying28 infoAcc rfl _ w _ _ _ ?_ hown hnn hB _ ?_ ?_ ?_ ?_; exact rfl; (first | exact rfl | (show (Value.slice (some ⟨_, 0, none⟩) _ _) = _; simp)); simp [Value.oneCell']; (simp only [List.size_toArray, List.length_cons, List.length_nil]; omega); clear hown hnn hB; intro v1 w1 hown hnn hB _ hblk hg; obtain ⟨hI, hne⟩ := keep_row hI hne hblk hg; clear hblk hg; have c0 := (cell_of_row w1 w.heap.size 0 _ _ _ hI).trans (show _ = some (Value.int .i64 (o : Int)) from rfl); have c1 := (cell_of_row w1 w.heap.size 1 _ _ _ hI).trans (show _ = some (Value.int .i64 (m : Int)) from rfl))
      go_ret
      exact ⟨_, rfl, by simpa [bodyT, flowT, accV, Nat.add_comm, Nat.add_assoc, hm] using hown, hnn, hB⟩
  · go_wp2_with (at_builtin; refine wpList_accs rfl _ _ 28 rfl 32 (.int .i64 0) Tryd.underlying28 infoAcc rfl _ w _ _ _ ?_ hown hnn hB _ ?_ ?_ ?_ ?_; exact rfl; (first | exact rfl | (show (Value.slice (some ⟨_, 0, none⟩) _ _) = _; simp)); simp [Value.oneCell']; (simp only [List.size_toArray, List.length_cons, List.length_nil]; omega); clear hown hnn hB; intro v1 w1 hown hnn hB _ _ _)
    go_ret
    exact ⟨_, rfl, by simpa [bodyT, flowT, accV, Nat.add_comm, Nat.add_assoc] using hown, hnn, hB⟩
  · go_wp2_with (at_builtin; refine wpList_accs rfl _ _ 28 rfl 32 (.int .i64 0) Tryd.underlying28 infoAcc rfl _ w _ _ _ ?_ hown hnn hB _ ?_ ?_ ?_ ?_; exact rfl; (first | exact rfl | (show (Value.slice (some ⟨_, 0, none⟩) _ _) = _; simp)); simp [Value.oneCell']; (simp only [List.size_toArray, List.length_cons, List.length_nil]; omega); clear hown hnn hB; intro v1 w1 hown hnn hB _ _ _)
    go_ret
    exact ⟨_, rfl, by simpa [bodyT, flowT, accV, Nat.add_comm, Nat.add_assoc] using hown, hnn, hB⟩
  · go_wp2_with (at_builtin; refine wpList_accs rfl _ _ 28 rfl 32 (.int .i64 0) Tryd.underlying28 infoAcc rfl _ w _ _ _ ?_ hown hnn hB _ ?_ ?_ ?_ ?_; exact rfl; (first | exact rfl | (show (Value.slice (some ⟨_, 0, none⟩) _ _) = _; simp)); simp [Value.oneCell']; (simp only [List.size_toArray, List.length_cons, List.length_nil]; omega); clear hown hnn hB; intro v1 w1 hown hnn hB _ _ _)
    go_ret
    exact ⟨_, rfl, by simpa [bodyT, flowT, accV, Nat.add_comm, Nat.add_assoc] using hown, hnn, hB⟩
  · go_wp2_with (at_builtin; refine wpList_accs rfl _ _ 28 rfl 32 (.int .i64 0) Tryd.underlying28 infoAcc rfl _ w _ _ _ ?_ hown hnn hB _ ?_ ?_ ?_ ?_; exact rfl; (first | exact rfl | (show (Value.slice (some ⟨_, 0, none⟩) _ _) = _; simp)); simp [Value.oneCell']; (simp only [List.size_toArray, List.length_cons, List.length_nil]; omega); clear hown hnn hB; intro v1 w1 hown hnn hB _ _ _)
    go_ret
    exact ⟨_, rfl, by simpa [bodyT, flowT, accV, Nat.add_comm, Nat.add_assoc] using hown, hnn, hB⟩
end Go.Proofs.YtknfphgncoojeaaDoor

/- isa.Shape, isa.Cycles: the contracts. -/
import Derived.Test.YtknfphgncoojeaaDoorIsaFlow
import Derived.Test.YtknfphgncoojeaaDoorIsaKind
import Derived.Laws.MakeOwn
namespace Go.Proofs.YtknfphgncoojeaaDoor
open Go.RowKit
def bodyT (o m k : Nat) (x t : Bool) : List Nat := if k = 12 then [] else if k = 0 then (if m = 2 then [1] else [2]) else if 1 ≤ k ∧ k ≤ 4 then opndT m k x else flowT o m k x t
def shapeT (o m k : Nat) (x t : Bool) : List Nat := 0 :: bodyT o m k x t
def shapeC (c : Nat) (x t : Bool) : List Nat := shapeT (opT c) (modeT c) (kindT c) x t
theorem kinds_all : (List.range 256).all (fun c => decide (kindT c < 13) && decide (modeT c < 13) && decide (opT c < 70)) = true := by decide +kernel
theorem kinds_at (c : Nat) (h : c < 256) : kindT c < 13 ∧ modeT c < 13 ∧ opT c < 70 := by
  have := kinds_all
  rw [List.all_eq_true] at this
  have := this c (by simpa using h)
  simpa [Bool.and_eq_true, and_assoc] using this
theorem make8 (w : World) : (Instr.makeSlice 28 (.int .i64 0) (.int .i64 8)).run Tryd.prog w = .ok (.slice (some ⟨w.heap.size, 0, none⟩) 0 8) (w.alloc (.cells #[.int .i64 0, .int .i64 0, .int .i64 0, .int .i64 0, .int .i64 0, .int .i64 0, .int .i64 0, .int .i64 0] 32)) := by
  obtain ⟨i, hi, hz, hsz, hby⟩ := info_parts infoAcc
  have := run_makeSlice (P := Tryd.prog) w 28 32 i (.int .i64 0) Tryd.underlying28 hi hz .i64 .i64 0 8 (by omega) (by omega) (by rw [hsz]; decide) (by rw [hby]; decide) (by omega)
  rw [hsz, show madeCells (Value.int .i64 0).cells (Int.toNat 8 * 1) = #[.int .i64 0, .int .i64 0, .int .i64 0, .int .i64 0, .int .i64 0, .int .i64 0, .int .i64 0, .int .i64 0] from by kernel_rfl] at this
  exact this
set_option maxRecDepth 100000 in
set_option maxHeartbeats 16000000 in
theorem shape_any (c : Nat) (hc : c < 256) (x t : Bool) (w : World) (tt : TypeId) (fr : Nat × Nat) (hF : w.heap[3]? = some (.cells fillA tt fr)) :
    Calls Tryd.prog 15 #[.int .u8 (c : Int), .bool x, .bool t] w fun e w' => ∃ v, e = .returned v ∧ w'.ownsRow w.heap.size 32 1 v (shapeC c x t).length (accV (shapeC c x t)) ∧ v ≠ .slice none 0 0 ∧ Below w.heap.size w w' := by
  have hkind := fun wx h => kind_any c hc wx tt fr h
  have hrow := rowOf_any c hc w
  obtain ⟨hk13, hm13, _⟩ := kinds_at c hc
  unfold shapeC
  obtain ⟨k, hk⟩ : ∃ k, kindT c = k := ⟨_, rfl⟩
  obtain ⟨m, hm⟩ : ∃ m, modeT c = m := ⟨_, rfl⟩
  obtain ⟨o, ho⟩ : ∃ o, opT c = o := ⟨_, rfl⟩
  rw [hk] at hk13 hkind
  rw [hm] at hm13
  rw [hk, hm, ho]
  rw [hm, ho] at hrow
  clear hk hm ho
  go_enter Tryd.func15, Tryd.ntmps15
  go_wp2_with fail
  refine hrow.mono ?_
  rintro e w1 ⟨rfl, hb1⟩
  have hF1 := (hb1.block _ (lt_of_row hF)).trans hF
  clear hrow
  go_wp2_with fail
  refine (hkind w1 hF1).mono ?_
  rintro e w2 ⟨rfl, hb2⟩
  have hB2 := hb1.trans (hb2.mono hb1.size)
  clear hb1 hb2 hF hF1 hkind
  have hB := (hB2.alloc hB2.size (.cells #[.int .i64 (o : Int), .int .i64 (m : Int)] 61)).alloc (by simp; have := hB2.size; omega) (.cells #[.int .i64 0, .int .i64 0, .int .i64 0, .int .i64 0, .int .i64 0, .int .i64 0, .int .i64 0, .int .i64 0] 32)
  have hI := row_alloc (heap_alloc_new w2 (.cells #[.int .i64 (o : Int), .int .i64 (m : Int)] 61)) (.cells #[.int .i64 0, .int .i64 0, .int .i64 0, .int .i64 0, .int .i64 0, .int .i64 0, .int .i64 0, .int .i64 0] 32)
  have hown := World.ownsRow_made (base := w.heap.size) (e := 32) (size := 1) (w2.alloc (.cells #[.int .i64 (o : Int), .int .i64 (m : Int)] 61)) #[.int .i64 0, .int .i64 0, .int .i64 0, .int .i64 0, .int .i64 0, .int .i64 0, .int .i64 0, .int .i64 0] 8 (by simp; have := hB2.size; omega) (by unfold maxLen; omega) rfl
  rw [show (w2.alloc (.cells #[.int .i64 (o : Int), .int .i64 (m : Int)] 61)).heap.size = w2.heap.size + 1 from by simp] at hown
  have hnn : (Value.slice (some ⟨w2.heap.size + 1, 0, none⟩) 0 8) ≠ .slice none 0 0 := by simp
  have hne : (Value.slice (some ⟨w2.heap.size + 1, 0, none⟩) 0 8).ownBlock ≠ some w2.heap.size := by simp [Value.ownBlock]
  clear hB2
  have hmk := make8 (w2.alloc (.cells #[.int .i64 (o : Int), .int .i64 (m : Int)] 61))
  rw [show (w2.alloc (.cells #[.int .i64 (o : Int), .int .i64 (m : Int)] 61)).heap.size = w2.heap.size + 1 from by simp] at hmk
  have hk' : k = 0 ∨ k = 12 ∨ (1 ≤ k ∧ k ≤ 4) ∨ (5 ≤ k ∧ k ≤ 11) := by omega
  rcases hk' with rfl | rfl | hk' | hk'
  · by_cases hm2 : m = 2
    · have hm3 : ((m : Int) == 2) = true := by rw [beq_iff_eq]; omega
      have HM := Lib.hid hm2; clear hm2
      go_wp2_with (at_builtin; refine wpList_accs rfl _ _ 28 rfl 32 (.int .i64 0) Tryd.underlying28 infoAcc rfl _ w _ _ _ ?_ hown hnn hB _ ?_ ?_ ?_ ?_; exact rfl; (first | exact rfl | (show (Value.slice (some ⟨_, 0, none⟩) _ _) = _; simp)); simp [Value.oneCell']; (simp only [List.size_toArray, List.length_cons, List.length_nil]; omega); clear hown hnn hB; intro v1 w3 hown hnn hB _ hblk hg; obtain ⟨hI, hne⟩ := keep_row hI hne hblk hg; clear hblk hg; have c0 := (cell_of_row w3 w2.heap.size 0 _ _ _ hI).trans (show _ = some (Value.int .i64 (o : Int)) from rfl); have c1 := (cell_of_row w3 w2.heap.size 1 _ _ _ hI).trans (show _ = some (Value.int .i64 (m : Int)) from rfl))
      go_ret
      have hm2 := HM.out
      exact ⟨_, rfl, by simpa [shapeT, bodyT, accV, hm2] using hown, hnn, hB⟩
    · have hm3 : ((m : Int) == 2) = false := by rw [beq_eq_false_iff_ne]; omega
      go_wp2_with (at_builtin; refine wpList_accs rfl _ _ 28 rfl 32 (.int .i64 0) Tryd.underlying28 infoAcc rfl _ w _ _ _ ?_ hown hnn hB _ ?_ ?_ ?_ ?_; exact rfl; (first | exact rfl | (show (Value.slice (some ⟨_, 0, none⟩) _ _) = _; simp)); simp [Value.oneCell']; (simp only [List.size_toArray, List.length_cons, List.length_nil]; omega); clear hown hnn hB; intro v1 w3 hown hnn hB _ hblk hg; obtain ⟨hI, hne⟩ := keep_row hI hne hblk hg; clear hblk hg; have c0 := (cell_of_row w3 w2.heap.size 0 _ _ _ hI).trans (show _ = some (Value.int .i64 (o : Int)) from rfl); have c1 := (cell_of_row w3 w2.heap.size 1 _ _ _ hI).trans (show _ = some (Value.int .i64 (m : Int)) from rfl))
      go_ret
      exact ⟨_, rfl, by simpa [shapeT, bodyT, accV, hm2] using hown, hnn, hB⟩
  · go_wp2_with (at_builtin; refine wpList_accs rfl _ _ 28 rfl 32 (.int .i64 0) Tryd.underlying28 infoAcc rfl _ w _ _ _ ?_ hown hnn hB _ ?_ ?_ ?_ ?_; exact rfl; (first | exact rfl | (show (Value.slice (some ⟨_, 0, none⟩) _ _) = _; simp)); simp [Value.oneCell']; (simp only [List.size_toArray, List.length_cons, List.length_nil]; omega); clear hown hnn hB; intro v1 w3 hown hnn hB _ hblk hg; obtain ⟨hI, hne⟩ := keep_row hI hne hblk hg; clear hblk hg; have c0 := (cell_of_row w3 w2.heap.size 0 _ _ _ hI).trans (show _ = some (Value.int .i64 (o : Int)) from rfl); have c1 := (cell_of_row w3 w2.heap.size 1 _ _ _ hI).trans (show _ = some (Value.int .i64 (m : Int)) from rfl))
    go_ret
    exact ⟨_, rfl, by simpa [shapeT, bodyT, accV] using hown, hnn, hB⟩
  · have hc : k = 1 ∨ k = 2 ∨ k = 3 ∨ k = 4 := by omega
    clear hk'
    rcases hc with rfl | rfl | rfl | rfl
    · go_wp2_with (at_builtin; refine wpList_accs rfl _ _ 28 rfl 32 (.int .i64 0) Tryd.underlying28 infoAcc rfl _ w _ _ _ ?_ hown hnn hB _ ?_ ?_ ?_ ?_; exact rfl; (first | exact rfl | (show (Value.slice (some ⟨_, 0, none⟩) _ _) = _; simp)); simp [Value.oneCell']; (simp only [List.size_toArray, List.length_cons, List.length_nil]; omega); clear hown hnn hB; intro v1 w3 hown hnn hB _ hblk hg; obtain ⟨hI, hne⟩ := keep_row hI hne hblk hg; clear hblk hg; have c0 := (cell_of_row w3 w2.heap.size 0 _ _ _ hI).trans (show _ = some (Value.int .i64 (o : Int)) from rfl); have c1 := (cell_of_row w3 w2.heap.size 1 _ _ _ hI).trans (show _ = some (Value.int .i64 (m : Int)) from rfl))
      refine (opnd_any m 1 x hm13 (by omega) v1 _ _ w w3 hB hown hnn (by simp)).mono ?_
      rintro e w5 ⟨v5, rfl, hown5, hnn5, hB5⟩
      clear hown hnn hB hI hne c0 c1
      go_wp2_with fail
      go_ret
      refine ⟨_, rfl, ?_, hnn5, hB5⟩
      simpa [shapeT, bodyT, accV, Nat.add_comm] using hown5
    · go_wp2_with (at_builtin; refine wpList_accs rfl _ _ 28 rfl 32 (.int .i64 0) Tryd.underlying28 infoAcc rfl _ w _ _ _ ?_ hown hnn hB _ ?_ ?_ ?_ ?_; exact rfl; (first | exact rfl | (show (Value.slice (some ⟨_, 0, none⟩) _ _) = _; simp)); simp [Value.oneCell']; (simp only [List.size_toArray, List.length_cons, List.length_nil]; omega); clear hown hnn hB; intro v1 w3 hown hnn hB _ hblk hg; obtain ⟨hI, hne⟩ := keep_row hI hne hblk hg; clear hblk hg; have c0 := (cell_of_row w3 w2.heap.size 0 _ _ _ hI).trans (show _ = some (Value.int .i64 (o : Int)) from rfl); have c1 := (cell_of_row w3 w2.heap.size 1 _ _ _ hI).trans (show _ = some (Value.int .i64 (m : Int)) from rfl))
      refine (opnd_any m 2 x hm13 (by omega) v1 _ _ w w3 hB hown hnn (by simp)).mono ?_
      rintro e w5 ⟨v5, rfl, hown5, hnn5, hB5⟩
      clear hown hnn hB hI hne c0 c1
      go_wp2_with fail
      go_ret
      refine ⟨_, rfl, ?_, hnn5, hB5⟩
      simpa [shapeT, bodyT, accV, Nat.add_comm] using hown5
    · go_wp2_with (at_builtin; refine wpList_accs rfl _ _ 28 rfl 32 (.int .i64 0) Tryd.underlying28 infoAcc rfl _ w _ _ _ ?_ hown hnn hB _ ?_ ?_ ?_ ?_; exact rfl; (first | exact rfl | (show (Value.slice (some ⟨_, 0, none⟩) _ _) = _; simp)); simp [Value.oneCell']; (simp only [List.size_toArray, List.length_cons, List.length_nil]; omega); clear hown hnn hB; intro v1 w3 hown hnn hB _ hblk hg; obtain ⟨hI, hne⟩ := keep_row hI hne hblk hg; clear hblk hg; have c0 := (cell_of_row w3 w2.heap.size 0 _ _ _ hI).trans (show _ = some (Value.int .i64 (o : Int)) from rfl); have c1 := (cell_of_row w3 w2.heap.size 1 _ _ _ hI).trans (show _ = some (Value.int .i64 (m : Int)) from rfl))
      refine (opnd_any m 3 x hm13 (by omega) v1 _ _ w w3 hB hown hnn (by simp)).mono ?_
      rintro e w5 ⟨v5, rfl, hown5, hnn5, hB5⟩
      clear hown hnn hB hI hne c0 c1
      go_wp2_with fail
      go_ret
      refine ⟨_, rfl, ?_, hnn5, hB5⟩
      simpa [shapeT, bodyT, accV, Nat.add_comm] using hown5
    · go_wp2_with (at_builtin; refine wpList_accs rfl _ _ 28 rfl 32 (.int .i64 0) Tryd.underlying28 infoAcc rfl _ w _ _ _ ?_ hown hnn hB _ ?_ ?_ ?_ ?_; exact rfl; (first | exact rfl | (show (Value.slice (some ⟨_, 0, none⟩) _ _) = _; simp)); simp [Value.oneCell']; (simp only [List.size_toArray, List.length_cons, List.length_nil]; omega); clear hown hnn hB; intro v1 w3 hown hnn hB _ hblk hg; obtain ⟨hI, hne⟩ := keep_row hI hne hblk hg; clear hblk hg; have c0 := (cell_of_row w3 w2.heap.size 0 _ _ _ hI).trans (show _ = some (Value.int .i64 (o : Int)) from rfl); have c1 := (cell_of_row w3 w2.heap.size 1 _ _ _ hI).trans (show _ = some (Value.int .i64 (m : Int)) from rfl))
      refine (opnd_any m 4 x hm13 (by omega) v1 _ _ w w3 hB hown hnn (by simp)).mono ?_
      rintro e w5 ⟨v5, rfl, hown5, hnn5, hB5⟩
      clear hown hnn hB hI hne c0 c1
      go_wp2_with fail
      go_ret
      refine ⟨_, rfl, ?_, hnn5, hB5⟩
      simpa [shapeT, bodyT, accV, Nat.add_comm] using hown5
  · have hc : k = 5 ∨ k = 6 ∨ k = 7 ∨ k = 8 ∨ k = 9 ∨ k = 10 ∨ k = 11 := by omega
    clear hk'
    rcases hc with rfl | rfl | rfl | rfl | rfl | rfl | rfl
    · go_wp2_with (at_builtin; refine wpList_accs rfl _ _ 28 rfl 32 (.int .i64 0) Tryd.underlying28 infoAcc rfl _ w _ _ _ ?_ hown hnn hB _ ?_ ?_ ?_ ?_; exact rfl; (first | exact rfl | (show (Value.slice (some ⟨_, 0, none⟩) _ _) = _; simp)); simp [Value.oneCell']; (simp only [List.size_toArray, List.length_cons, List.length_nil]; omega); clear hown hnn hB; intro v1 w3 hown hnn hB _ hblk hg; obtain ⟨hI, hne⟩ := keep_row hI hne hblk hg; clear hblk hg; have c0 := (cell_of_row w3 w2.heap.size 0 _ _ _ hI).trans (show _ = some (Value.int .i64 (o : Int)) from rfl); have c1 := (cell_of_row w3 w2.heap.size 1 _ _ _ hI).trans (show _ = some (Value.int .i64 (m : Int)) from rfl))
      refine (flow_any o m 5 x t (by omega) v1 _ _ w w3 hB hown hnn (by simp)).mono ?_
      rintro e w5 ⟨v5, rfl, hown5, hnn5, hB5⟩
      clear hown hnn hB hI hne c0 c1
      go_wp2_with fail
      go_ret
      refine ⟨_, rfl, ?_, hnn5, hB5⟩
      simpa [shapeT, bodyT, accV, Nat.add_comm] using hown5
    · go_wp2_with (at_builtin; refine wpList_accs rfl _ _ 28 rfl 32 (.int .i64 0) Tryd.underlying28 infoAcc rfl _ w _ _ _ ?_ hown hnn hB _ ?_ ?_ ?_ ?_; exact rfl; (first | exact rfl | (show (Value.slice (some ⟨_, 0, none⟩) _ _) = _; simp)); simp [Value.oneCell']; (simp only [List.size_toArray, List.length_cons, List.length_nil]; omega); clear hown hnn hB; intro v1 w3 hown hnn hB _ hblk hg; obtain ⟨hI, hne⟩ := keep_row hI hne hblk hg; clear hblk hg; have c0 := (cell_of_row w3 w2.heap.size 0 _ _ _ hI).trans (show _ = some (Value.int .i64 (o : Int)) from rfl); have c1 := (cell_of_row w3 w2.heap.size 1 _ _ _ hI).trans (show _ = some (Value.int .i64 (m : Int)) from rfl))
      refine (flow_any o m 6 x t (by omega) v1 _ _ w w3 hB hown hnn (by simp)).mono ?_
      rintro e w5 ⟨v5, rfl, hown5, hnn5, hB5⟩
      clear hown hnn hB hI hne c0 c1
      go_wp2_with fail
      go_ret
      refine ⟨_, rfl, ?_, hnn5, hB5⟩
      simpa [shapeT, bodyT, accV, Nat.add_comm] using hown5
    · go_wp2_with (at_builtin; refine wpList_accs rfl _ _ 28 rfl 32 (.int .i64 0) Tryd.underlying28 infoAcc rfl _ w _ _ _ ?_ hown hnn hB _ ?_ ?_ ?_ ?_; exact rfl; (first | exact rfl | (show (Value.slice (some ⟨_, 0, none⟩) _ _) = _; simp)); simp [Value.oneCell']; (simp only [List.size_toArray, List.length_cons, List.length_nil]; omega); clear hown hnn hB; intro v1 w3 hown hnn hB _ hblk hg; obtain ⟨hI, hne⟩ := keep_row hI hne hblk hg; clear hblk hg; have c0 := (cell_of_row w3 w2.heap.size 0 _ _ _ hI).trans (show _ = some (Value.int .i64 (o : Int)) from rfl); have c1 := (cell_of_row w3 w2.heap.size 1 _ _ _ hI).trans (show _ = some (Value.int .i64 (m : Int)) from rfl))
      refine (flow_any o m 7 x t (by omega) v1 _ _ w w3 hB hown hnn (by simp)).mono ?_
      rintro e w5 ⟨v5, rfl, hown5, hnn5, hB5⟩
      clear hown hnn hB hI hne c0 c1
      go_wp2_with fail
      go_ret
      refine ⟨_, rfl, ?_, hnn5, hB5⟩
      simpa [shapeT, bodyT, accV, Nat.add_comm] using hown5
    · go_wp2_with (at_builtin; refine wpList_accs rfl _ _ 28 rfl 32 (.int .i64 0) Tryd.underlying28 infoAcc rfl _ w _ _ _ ?_ hown hnn hB _ ?_ ?_ ?_ ?_; exact rfl; (first | exact rfl | (show (Value.slice (some ⟨_, 0, none⟩) _ _) = _; simp)); simp [Value.oneCell']; (simp only [List.size_toArray, List.length_cons, List.length_nil]; omega); clear hown hnn hB; intro v1 w3 hown hnn hB _ hblk hg; obtain ⟨hI, hne⟩ := keep_row hI hne hblk hg; clear hblk hg; have c0 := (cell_of_row w3 w2.heap.size 0 _ _ _ hI).trans (show _ = some (Value.int .i64 (o : Int)) from rfl); have c1 := (cell_of_row w3 w2.heap.size 1 _ _ _ hI).trans (show _ = some (Value.int .i64 (m : Int)) from rfl))
      refine (flow_any o m 8 x t (by omega) v1 _ _ w w3 hB hown hnn (by simp)).mono ?_
      rintro e w5 ⟨v5, rfl, hown5, hnn5, hB5⟩
      clear hown hnn hB hI hne c0 c1
      go_wp2_with fail
      go_ret
      refine ⟨_, rfl, ?_, hnn5, hB5⟩
      simpa [shapeT, bodyT, accV, Nat.add_comm] using hown5
    · go_wp2_with (at_builtin; refine wpList_accs rfl _ _ 28 rfl 32 (.int .i64 0) Tryd.underlying28 infoAcc rfl _ w _ _ _ ?_ hown hnn hB _ ?_ ?_ ?_ ?_; exact rfl; (first | exact rfl | (show (Value.slice (some ⟨_, 0, none⟩) _ _) = _; simp)); simp [Value.oneCell']; (simp only [List.size_toArray, List.length_cons, List.length_nil]; omega); clear hown hnn hB; intro v1 w3 hown hnn hB _ hblk hg; obtain ⟨hI, hne⟩ := keep_row hI hne hblk hg; clear hblk hg; have c0 := (cell_of_row w3 w2.heap.size 0 _ _ _ hI).trans (show _ = some (Value.int .i64 (o : Int)) from rfl); have c1 := (cell_of_row w3 w2.heap.size 1 _ _ _ hI).trans (show _ = some (Value.int .i64 (m : Int)) from rfl))
      refine (flow_any o m 9 x t (by omega) v1 _ _ w w3 hB hown hnn (by simp)).mono ?_
      rintro e w5 ⟨v5, rfl, hown5, hnn5, hB5⟩
      clear hown hnn hB hI hne c0 c1
      go_wp2_with fail
      go_ret
      refine ⟨_, rfl, ?_, hnn5, hB5⟩
      simpa [shapeT, bodyT, accV, Nat.add_comm] using hown5
    · go_wp2_with (at_builtin; refine wpList_accs rfl _ _ 28 rfl 32 (.int .i64 0) Tryd.underlying28 infoAcc rfl _ w _ _ _ ?_ hown hnn hB _ ?_ ?_ ?_ ?_; exact rfl; (first | exact rfl | (show (Value.slice (some ⟨_, 0, none⟩) _ _) = _; simp)); simp [Value.oneCell']; (simp only [List.size_toArray, List.length_cons, List.length_nil]; omega); clear hown hnn hB; intro v1 w3 hown hnn hB _ hblk hg; obtain ⟨hI, hne⟩ := keep_row hI hne hblk hg; clear hblk hg; have c0 := (cell_of_row w3 w2.heap.size 0 _ _ _ hI).trans (show _ = some (Value.int .i64 (o : Int)) from rfl); have c1 := (cell_of_row w3 w2.heap.size 1 _ _ _ hI).trans (show _ = some (Value.int .i64 (m : Int)) from rfl))
      refine (flow_any o m 10 x t (by omega) v1 _ _ w w3 hB hown hnn (by simp)).mono ?_
      rintro e w5 ⟨v5, rfl, hown5, hnn5, hB5⟩
      clear hown hnn hB hI hne c0 c1
      go_wp2_with fail
      go_ret
      refine ⟨_, rfl, ?_, hnn5, hB5⟩
      simpa [shapeT, bodyT, accV, Nat.add_comm] using hown5
    · go_wp2_with (at_builtin; refine wpList_accs rfl _ _ 28 rfl 32 (.int .i64 0) Tryd.underlying28 infoAcc rfl _ w _ _ _ ?_ hown hnn hB _ ?_ ?_ ?_ ?_; exact rfl; (first | exact rfl | (show (Value.slice (some ⟨_, 0, none⟩) _ _) = _; simp)); simp [Value.oneCell']; (simp only [List.size_toArray, List.length_cons, List.length_nil]; omega); clear hown hnn hB; intro v1 w3 hown hnn hB _ hblk hg; obtain ⟨hI, hne⟩ := keep_row hI hne hblk hg; clear hblk hg; have c0 := (cell_of_row w3 w2.heap.size 0 _ _ _ hI).trans (show _ = some (Value.int .i64 (o : Int)) from rfl); have c1 := (cell_of_row w3 w2.heap.size 1 _ _ _ hI).trans (show _ = some (Value.int .i64 (m : Int)) from rfl))
      refine (flow_any o m 11 x t (by omega) v1 _ _ w w3 hB hown hnn (by simp)).mono ?_
      rintro e w5 ⟨v5, rfl, hown5, hnn5, hB5⟩
      clear hown hnn hB hI hne c0 c1
      go_wp2_with fail
      go_ret
      refine ⟨_, rfl, ?_, hnn5, hB5⟩
      simpa [shapeT, bodyT, accV, Nat.add_comm] using hown5
end Go.Proofs.YtknfphgncoojeaaDoor

/- tandemref4.Shape, Cycles: the contracts. -/
import Derived.Test.YtknfphgncoojeaaDoorRefBegin
import Derived.Test.YtknfphgncoojeaaDoorRefRow
import Derived.Test.YtknfphgncoojeaaDoorIsaDec
namespace Go.Proofs.YtknfphgncoojeaaDoor
open Go.RowKit
theorem opnd_mid (m k : Nat) (x : Bool) : opndT m k x = 1 :: (midT m ++ (if (m = 9 ∨ m = 10 ∨ m = 7) ∧ (x = true ∨ k ≠ 1) then [6] else []) ++ (if k = 2 then [9] else if k = 3 then [7, 8, 9] else [7])) := by
  unfold opndT midT
  simp
set_option maxRecDepth 100000 in
set_option maxHeartbeats 32000000 in
theorem refshape_any (c : Nat) (hc : c < 256) (x t : Bool) (w : World) (tt : TypeId) (fr : Nat × Nat) (hL : w.heap[4]? = some (.cells lettersA tt fr)) :
    Calls Tryd.prog 16 #[.int .u8 (c : Int), .bool x, .bool t] w fun e w' => ∃ v, e = .returned v ∧ w'.ownsRow w.heap.size 32 1 v (shapeC c x t).length (accV (shapeC c x t)) ∧ v ≠ .slice none 0 0 ∧ Below w.heap.size w w' := by
  have hrow := refrow_any c hc w tt fr hL
  unfold instV at hrow
  obtain ⟨hk13, hm13, _⟩ := kinds_at c hc
  unfold shapeC
  obtain ⟨k, hk⟩ : ∃ k, kindT c = k := ⟨_, rfl⟩
  obtain ⟨m, hm⟩ : ∃ m, modeT c = m := ⟨_, rfl⟩
  obtain ⟨o, ho⟩ : ∃ o, opT c = o := ⟨_, rfl⟩
  obtain ⟨cl, hcl⟩ : ∃ cl, classT c = cl := ⟨_, rfl⟩
  rw [hk] at hk13
  rw [hm] at hm13
  rw [hk, hm, ho]
  rw [hk, hm, ho, hcl] at hrow
  obtain ⟨l, hl⟩ : ∃ l, lenR m = l := ⟨_, rfl⟩
  rw [hl] at hrow
  clear hk hm ho hcl hl hL
  go_enter Tryd.func16, Tryd.ntmps16
  go_wp2_with fail
  refine hrow.mono ?_
  rintro e w5 ⟨rfl, hb⟩
  clear hrow
  have hsz : w.heap.size ≤ w5.heap.size := hb.size
  have hk' : k = 1 ∨ k = 2 ∨ k = 3 ∨ k = 4 ∨ k = 0 ∨ k = 5 ∨ k = 6 ∨ k = 7 ∨ k = 8 ∨ k = 9 ∨ k = 10 ∨ k = 11 ∨ k = 12 := by omega
  rcases hk' with rfl | rfl | rfl | rfl | rfl | rfl | rfl | rfl | rfl | rfl | rfl | rfl | rfl
  · have hB := hb.alloc hb.size (.cells #[.int .i64 (o : Int), .int .i64 (m : Int), .int .i64 (1 : Int), .int .i64 (l : Int), .int .i64 0, .int .i64 (cl : Int)] 36)
    have hI := heap_alloc_new w5 (.cells #[.int .i64 (o : Int), .int .i64 (m : Int), .int .i64 (1 : Int), .int .i64 (l : Int), .int .i64 0, .int .i64 (cl : Int)] 36)
    have c1 := (cell_of_row _ _ 1 _ _ _ hI).trans (show _ = some (Value.int .i64 (m : Int)) from rfl)
    have c2 := (cell_of_row _ _ 2 _ _ _ hI).trans (show _ = some (Value.int .i64 (1 : Int)) from rfl)
    clear hb
    go_wp2_with fail
    refine (begin_any m hm13 _).mono ?_
    rintro e w7 ⟨v1, rfl, hown, hnn, hb7⟩
    have hown0 := hown
    have hown := own_mono (b' := w.heap.size) hown hB.size
    have hI := (hb7.block _ (lt_of_row hI)).trans hI
    have hmid := midT_le m
    have hne : v1.ownBlock ≠ some w5.heap.size := by
      intro hq
      have := (hown0.lt _ hq).1
      simp at this
      omega
    have hB := hB.trans (hb7.mono hB.size)
    clear hb7 c1 c2 hown0
    have c1 := (cell_of_row w7 w5.heap.size 1 _ _ _ hI).trans (show _ = some (Value.int .i64 (m : Int)) from rfl)
    have c2 := (cell_of_row w7 w5.heap.size 2 _ _ _ hI).trans (show _ = some (Value.int .i64 (1 : Int)) from rfl)
    by_cases m9 : m = 9
    · have b9 : ((m : Int) == 9) = true := by rw [beq_iff_eq]; omega
      have HM := Lib.hid m9; clear m9
      cases x
      all_goals
        go_wp2_with (at_builtin; refine wpList_accs rfl _ _ 28 rfl 32 (.int .i64 0) Tryd.underlying28 infoAcc rfl _ w _ _ _ ?_ hown hnn hB _ ?_ ?_ ?_ ?_; exact rfl; (first | exact rfl | (show (Value.slice (some ⟨_, 0, none⟩) _ _) = _; simp)); simp [Value.oneCell']; (simp only [List.size_toArray, List.length_cons, List.length_nil]; omega); clear hown hnn hB; intro v1 w1 hown hnn hB _ hblk hg; obtain ⟨hI, hne⟩ := keep_row hI hne hblk hg; clear hblk hg; have c1 := (cell_of_row w1 w5.heap.size 1 _ _ _ hI).trans (show _ = some (Value.int .i64 (m : Int)) from rfl); have c2 := (cell_of_row w1 w5.heap.size 2 _ _ _ hI).trans (show _ = some (Value.int .i64 (1 : Int)) from rfl))
        go_ret
        have hm := HM.out
        exact ⟨_, rfl, own_acc hown (by simp [shapeT, bodyT, opnd_mid, accV, hm]), hnn, hB⟩
    · have b9 : ((m : Int) == 9) = false := by rw [beq_eq_false_iff_ne]; omega
      by_cases m10 : m = 10
      · have b10 : ((m : Int) == 10) = true := by rw [beq_iff_eq]; omega
        have HM := Lib.hid m10; clear m10
        cases x
        all_goals
          go_wp2_with (at_builtin; refine wpList_accs rfl _ _ 28 rfl 32 (.int .i64 0) Tryd.underlying28 infoAcc rfl _ w _ _ _ ?_ hown hnn hB _ ?_ ?_ ?_ ?_; exact rfl; (first | exact rfl | (show (Value.slice (some ⟨_, 0, none⟩) _ _) = _; simp)); simp [Value.oneCell']; (simp only [List.size_toArray, List.length_cons, List.length_nil]; omega); clear hown hnn hB; intro v1 w1 hown hnn hB _ hblk hg; obtain ⟨hI, hne⟩ := keep_row hI hne hblk hg; clear hblk hg; have c1 := (cell_of_row w1 w5.heap.size 1 _ _ _ hI).trans (show _ = some (Value.int .i64 (m : Int)) from rfl); have c2 := (cell_of_row w1 w5.heap.size 2 _ _ _ hI).trans (show _ = some (Value.int .i64 (1 : Int)) from rfl))
          go_ret
          have hm := HM.out
          exact ⟨_, rfl, own_acc hown (by simp [shapeT, bodyT, opnd_mid, accV, hm]), hnn, hB⟩
      · have b10 : ((m : Int) == 10) = false := by rw [beq_eq_false_iff_ne]; omega
        by_cases m7 : m = 7
        · have b7 : ((m : Int) == 7) = true := by rw [beq_iff_eq]; omega
          have HM := Lib.hid m7; clear m7
          cases x
          all_goals
            go_wp2_with (at_builtin; refine wpList_accs rfl _ _ 28 rfl 32 (.int .i64 0) Tryd.underlying28 infoAcc rfl _ w _ _ _ ?_ hown hnn hB _ ?_ ?_ ?_ ?_; exact rfl; (first | exact rfl | (show (Value.slice (some ⟨_, 0, none⟩) _ _) = _; simp)); simp [Value.oneCell']; (simp only [List.size_toArray, List.length_cons, List.length_nil]; omega); clear hown hnn hB; intro v1 w1 hown hnn hB _ hblk hg; obtain ⟨hI, hne⟩ := keep_row hI hne hblk hg; clear hblk hg; have c1 := (cell_of_row w1 w5.heap.size 1 _ _ _ hI).trans (show _ = some (Value.int .i64 (m : Int)) from rfl); have c2 := (cell_of_row w1 w5.heap.size 2 _ _ _ hI).trans (show _ = some (Value.int .i64 (1 : Int)) from rfl))
            go_ret
            have hm := HM.out
            exact ⟨_, rfl, own_acc hown (by simp [shapeT, bodyT, opnd_mid, accV, hm]), hnn, hB⟩
        · have b7 : ((m : Int) == 7) = false := by rw [beq_eq_false_iff_ne]; omega
          go_wp2_with (at_builtin; refine wpList_accs rfl _ _ 28 rfl 32 (.int .i64 0) Tryd.underlying28 infoAcc rfl _ w _ _ _ ?_ hown hnn hB _ ?_ ?_ ?_ ?_; exact rfl; (first | exact rfl | (show (Value.slice (some ⟨_, 0, none⟩) _ _) = _; simp)); simp [Value.oneCell']; (simp only [List.size_toArray, List.length_cons, List.length_nil]; omega); clear hown hnn hB; intro v1 w1 hown hnn hB _ hblk hg; obtain ⟨hI, hne⟩ := keep_row hI hne hblk hg; clear hblk hg; have c1 := (cell_of_row w1 w5.heap.size 1 _ _ _ hI).trans (show _ = some (Value.int .i64 (m : Int)) from rfl); have c2 := (cell_of_row w1 w5.heap.size 2 _ _ _ hI).trans (show _ = some (Value.int .i64 (1 : Int)) from rfl))
          go_ret
          exact ⟨_, rfl, own_acc hown (by simp [shapeT, bodyT, opnd_mid, accV, m9, m10, m7]), hnn, hB⟩
  · have hB := hb.alloc hb.size (.cells #[.int .i64 (o : Int), .int .i64 (m : Int), .int .i64 (2 : Int), .int .i64 (l : Int), .int .i64 0, .int .i64 (cl : Int)] 36)
    have hI := heap_alloc_new w5 (.cells #[.int .i64 (o : Int), .int .i64 (m : Int), .int .i64 (2 : Int), .int .i64 (l : Int), .int .i64 0, .int .i64 (cl : Int)] 36)
    have c1 := (cell_of_row _ _ 1 _ _ _ hI).trans (show _ = some (Value.int .i64 (m : Int)) from rfl)
    have c2 := (cell_of_row _ _ 2 _ _ _ hI).trans (show _ = some (Value.int .i64 (2 : Int)) from rfl)
    clear hb
    go_wp2_with fail
    refine (begin_any m hm13 _).mono ?_
    rintro e w7 ⟨v1, rfl, hown, hnn, hb7⟩
    have hown0 := hown
    have hown := own_mono (b' := w.heap.size) hown hB.size
    have hI := (hb7.block _ (lt_of_row hI)).trans hI
    have hmid := midT_le m
    have hne : v1.ownBlock ≠ some w5.heap.size := by
      intro hq
      have := (hown0.lt _ hq).1
      simp at this
      omega
    have hB := hB.trans (hb7.mono hB.size)
    clear hb7 c1 c2 hown0
    have c1 := (cell_of_row w7 w5.heap.size 1 _ _ _ hI).trans (show _ = some (Value.int .i64 (m : Int)) from rfl)
    have c2 := (cell_of_row w7 w5.heap.size 2 _ _ _ hI).trans (show _ = some (Value.int .i64 (2 : Int)) from rfl)
    by_cases m9 : m = 9
    · have b9 : ((m : Int) == 9) = true := by rw [beq_iff_eq]; omega
      have HM := Lib.hid m9; clear m9
      cases x
      all_goals
        go_wp2_with (at_builtin; refine wpList_accs rfl _ _ 28 rfl 32 (.int .i64 0) Tryd.underlying28 infoAcc rfl _ w _ _ _ ?_ hown hnn hB _ ?_ ?_ ?_ ?_; exact rfl; (first | exact rfl | (show (Value.slice (some ⟨_, 0, none⟩) _ _) = _; simp)); simp [Value.oneCell']; (simp only [List.size_toArray, List.length_cons, List.length_nil]; omega); clear hown hnn hB; intro v1 w1 hown hnn hB _ hblk hg; obtain ⟨hI, hne⟩ := keep_row hI hne hblk hg; clear hblk hg; have c1 := (cell_of_row w1 w5.heap.size 1 _ _ _ hI).trans (show _ = some (Value.int .i64 (m : Int)) from rfl); have c2 := (cell_of_row w1 w5.heap.size 2 _ _ _ hI).trans (show _ = some (Value.int .i64 (2 : Int)) from rfl))
        go_ret
        have hm := HM.out
        exact ⟨_, rfl, own_acc hown (by simp [shapeT, bodyT, opnd_mid, accV, hm]), hnn, hB⟩
    · have b9 : ((m : Int) == 9) = false := by rw [beq_eq_false_iff_ne]; omega
      by_cases m10 : m = 10
      · have b10 : ((m : Int) == 10) = true := by rw [beq_iff_eq]; omega
        have HM := Lib.hid m10; clear m10
        cases x
        all_goals
          go_wp2_with (at_builtin; refine wpList_accs rfl _ _ 28 rfl 32 (.int .i64 0) Tryd.underlying28 infoAcc rfl _ w _ _ _ ?_ hown hnn hB _ ?_ ?_ ?_ ?_; exact rfl; (first | exact rfl | (show (Value.slice (some ⟨_, 0, none⟩) _ _) = _; simp)); simp [Value.oneCell']; (simp only [List.size_toArray, List.length_cons, List.length_nil]; omega); clear hown hnn hB; intro v1 w1 hown hnn hB _ hblk hg; obtain ⟨hI, hne⟩ := keep_row hI hne hblk hg; clear hblk hg; have c1 := (cell_of_row w1 w5.heap.size 1 _ _ _ hI).trans (show _ = some (Value.int .i64 (m : Int)) from rfl); have c2 := (cell_of_row w1 w5.heap.size 2 _ _ _ hI).trans (show _ = some (Value.int .i64 (2 : Int)) from rfl))
          go_ret
          have hm := HM.out
          exact ⟨_, rfl, own_acc hown (by simp [shapeT, bodyT, opnd_mid, accV, hm]), hnn, hB⟩
      · have b10 : ((m : Int) == 10) = false := by rw [beq_eq_false_iff_ne]; omega
        by_cases m7 : m = 7
        · have b7 : ((m : Int) == 7) = true := by rw [beq_iff_eq]; omega
          have HM := Lib.hid m7; clear m7
          cases x
          all_goals
            go_wp2_with (at_builtin; refine wpList_accs rfl _ _ 28 rfl 32 (.int .i64 0) Tryd.underlying28 infoAcc rfl _ w _ _ _ ?_ hown hnn hB _ ?_ ?_ ?_ ?_; exact rfl; (first | exact rfl | (show (Value.slice (some ⟨_, 0, none⟩) _ _) = _; simp)); simp [Value.oneCell']; (simp only [List.size_toArray, List.length_cons, List.length_nil]; omega); clear hown hnn hB; intro v1 w1 hown hnn hB _ hblk hg; obtain ⟨hI, hne⟩ := keep_row hI hne hblk hg; clear hblk hg; have c1 := (cell_of_row w1 w5.heap.size 1 _ _ _ hI).trans (show _ = some (Value.int .i64 (m : Int)) from rfl); have c2 := (cell_of_row w1 w5.heap.size 2 _ _ _ hI).trans (show _ = some (Value.int .i64 (2 : Int)) from rfl))
            go_ret
            have hm := HM.out
            exact ⟨_, rfl, own_acc hown (by simp [shapeT, bodyT, opnd_mid, accV, hm]), hnn, hB⟩
        · have b7 : ((m : Int) == 7) = false := by rw [beq_eq_false_iff_ne]; omega
          go_wp2_with (at_builtin; refine wpList_accs rfl _ _ 28 rfl 32 (.int .i64 0) Tryd.underlying28 infoAcc rfl _ w _ _ _ ?_ hown hnn hB _ ?_ ?_ ?_ ?_; exact rfl; (first | exact rfl | (show (Value.slice (some ⟨_, 0, none⟩) _ _) = _; simp)); simp [Value.oneCell']; (simp only [List.size_toArray, List.length_cons, List.length_nil]; omega); clear hown hnn hB; intro v1 w1 hown hnn hB _ hblk hg; obtain ⟨hI, hne⟩ := keep_row hI hne hblk hg; clear hblk hg; have c1 := (cell_of_row w1 w5.heap.size 1 _ _ _ hI).trans (show _ = some (Value.int .i64 (m : Int)) from rfl); have c2 := (cell_of_row w1 w5.heap.size 2 _ _ _ hI).trans (show _ = some (Value.int .i64 (2 : Int)) from rfl))
          go_ret
          exact ⟨_, rfl, own_acc hown (by simp [shapeT, bodyT, opnd_mid, accV, m9, m10, m7]), hnn, hB⟩
  · have hB := hb.alloc hb.size (.cells #[.int .i64 (o : Int), .int .i64 (m : Int), .int .i64 (3 : Int), .int .i64 (l : Int), .int .i64 0, .int .i64 (cl : Int)] 36)
    have hI := heap_alloc_new w5 (.cells #[.int .i64 (o : Int), .int .i64 (m : Int), .int .i64 (3 : Int), .int .i64 (l : Int), .int .i64 0, .int .i64 (cl : Int)] 36)
    have c1 := (cell_of_row _ _ 1 _ _ _ hI).trans (show _ = some (Value.int .i64 (m : Int)) from rfl)
    have c2 := (cell_of_row _ _ 2 _ _ _ hI).trans (show _ = some (Value.int .i64 (3 : Int)) from rfl)
    clear hb
    go_wp2_with fail
    refine (begin_any m hm13 _).mono ?_
    rintro e w7 ⟨v1, rfl, hown, hnn, hb7⟩
    have hown0 := hown
    have hown := own_mono (b' := w.heap.size) hown hB.size
    have hI := (hb7.block _ (lt_of_row hI)).trans hI
    have hmid := midT_le m
    have hne : v1.ownBlock ≠ some w5.heap.size := by
      intro hq
      have := (hown0.lt _ hq).1
      simp at this
      omega
    have hB := hB.trans (hb7.mono hB.size)
    clear hb7 c1 c2 hown0
    have c1 := (cell_of_row w7 w5.heap.size 1 _ _ _ hI).trans (show _ = some (Value.int .i64 (m : Int)) from rfl)
    have c2 := (cell_of_row w7 w5.heap.size 2 _ _ _ hI).trans (show _ = some (Value.int .i64 (3 : Int)) from rfl)
    by_cases m9 : m = 9
    · have b9 : ((m : Int) == 9) = true := by rw [beq_iff_eq]; omega
      have HM := Lib.hid m9; clear m9
      cases x
      all_goals
        go_wp2_with (at_builtin; refine wpList_accs rfl _ _ 28 rfl 32 (.int .i64 0) Tryd.underlying28 infoAcc rfl _ w _ _ _ ?_ hown hnn hB _ ?_ ?_ ?_ ?_; exact rfl; (first | exact rfl | (show (Value.slice (some ⟨_, 0, none⟩) _ _) = _; simp)); simp [Value.oneCell']; (simp only [List.size_toArray, List.length_cons, List.length_nil]; omega); clear hown hnn hB; intro v1 w1 hown hnn hB _ hblk hg; obtain ⟨hI, hne⟩ := keep_row hI hne hblk hg; clear hblk hg; have c1 := (cell_of_row w1 w5.heap.size 1 _ _ _ hI).trans (show _ = some (Value.int .i64 (m : Int)) from rfl); have c2 := (cell_of_row w1 w5.heap.size 2 _ _ _ hI).trans (show _ = some (Value.int .i64 (3 : Int)) from rfl))
        go_ret
        have hm := HM.out
        exact ⟨_, rfl, own_acc hown (by simp [shapeT, bodyT, opnd_mid, accV, hm]), hnn, hB⟩
    · have b9 : ((m : Int) == 9) = false := by rw [beq_eq_false_iff_ne]; omega
      by_cases m10 : m = 10
      · have b10 : ((m : Int) == 10) = true := by rw [beq_iff_eq]; omega
        have HM := Lib.hid m10; clear m10
        cases x
        all_goals
          go_wp2_with (at_builtin; refine wpList_accs rfl _ _ 28 rfl 32 (.int .i64 0) Tryd.underlying28 infoAcc rfl _ w _ _ _ ?_ hown hnn hB _ ?_ ?_ ?_ ?_; exact rfl; (first | exact rfl | (show (Value.slice (some ⟨_, 0, none⟩) _ _) = _; simp)); simp [Value.oneCell']; (simp only [List.size_toArray, List.length_cons, List.length_nil]; omega); clear hown hnn hB; intro v1 w1 hown hnn hB _ hblk hg; obtain ⟨hI, hne⟩ := keep_row hI hne hblk hg; clear hblk hg; have c1 := (cell_of_row w1 w5.heap.size 1 _ _ _ hI).trans (show _ = some (Value.int .i64 (m : Int)) from rfl); have c2 := (cell_of_row w1 w5.heap.size 2 _ _ _ hI).trans (show _ = some (Value.int .i64 (3 : Int)) from rfl))
          go_ret
          have hm := HM.out
          exact ⟨_, rfl, own_acc hown (by simp [shapeT, bodyT, opnd_mid, accV, hm]), hnn, hB⟩
      · have b10 : ((m : Int) == 10) = false := by rw [beq_eq_false_iff_ne]; omega
        by_cases m7 : m = 7
        · have b7 : ((m : Int) == 7) = true := by rw [beq_iff_eq]; omega
          have HM := Lib.hid m7; clear m7
          cases x
          all_goals
            go_wp2_with (at_builtin; refine wpList_accs rfl _ _ 28 rfl 32 (.int .i64 0) Tryd.underlying28 infoAcc rfl _ w _ _ _ ?_ hown hnn hB _ ?_ ?_ ?_ ?_; exact rfl; (first | exact rfl | (show (Value.slice (some ⟨_, 0, none⟩) _ _) = _; simp)); simp [Value.oneCell']; (simp only [List.size_toArray, List.length_cons, List.length_nil]; omega); clear hown hnn hB; intro v1 w1 hown hnn hB _ hblk hg; obtain ⟨hI, hne⟩ := keep_row hI hne hblk hg; clear hblk hg; have c1 := (cell_of_row w1 w5.heap.size 1 _ _ _ hI).trans (show _ = some (Value.int .i64 (m : Int)) from rfl); have c2 := (cell_of_row w1 w5.heap.size 2 _ _ _ hI).trans (show _ = some (Value.int .i64 (3 : Int)) from rfl))
            go_ret
            have hm := HM.out
            exact ⟨_, rfl, own_acc hown (by simp [shapeT, bodyT, opnd_mid, accV, hm]), hnn, hB⟩
        · have b7 : ((m : Int) == 7) = false := by rw [beq_eq_false_iff_ne]; omega
          go_wp2_with (at_builtin; refine wpList_accs rfl _ _ 28 rfl 32 (.int .i64 0) Tryd.underlying28 infoAcc rfl _ w _ _ _ ?_ hown hnn hB _ ?_ ?_ ?_ ?_; exact rfl; (first | exact rfl | (show (Value.slice (some ⟨_, 0, none⟩) _ _) = _; simp)); simp [Value.oneCell']; (simp only [List.size_toArray, List.length_cons, List.length_nil]; omega); clear hown hnn hB; intro v1 w1 hown hnn hB _ hblk hg; obtain ⟨hI, hne⟩ := keep_row hI hne hblk hg; clear hblk hg; have c1 := (cell_of_row w1 w5.heap.size 1 _ _ _ hI).trans (show _ = some (Value.int .i64 (m : Int)) from rfl); have c2 := (cell_of_row w1 w5.heap.size 2 _ _ _ hI).trans (show _ = some (Value.int .i64 (3 : Int)) from rfl))
          go_ret
          exact ⟨_, rfl, own_acc hown (by simp [shapeT, bodyT, opnd_mid, accV, m9, m10, m7]), hnn, hB⟩
  · have hB := hb.alloc hb.size (.cells #[.int .i64 (o : Int), .int .i64 (m : Int), .int .i64 (4 : Int), .int .i64 (l : Int), .int .i64 0, .int .i64 (cl : Int)] 36)
    have hI := heap_alloc_new w5 (.cells #[.int .i64 (o : Int), .int .i64 (m : Int), .int .i64 (4 : Int), .int .i64 (l : Int), .int .i64 0, .int .i64 (cl : Int)] 36)
    have c1 := (cell_of_row _ _ 1 _ _ _ hI).trans (show _ = some (Value.int .i64 (m : Int)) from rfl)
    have c2 := (cell_of_row _ _ 2 _ _ _ hI).trans (show _ = some (Value.int .i64 (4 : Int)) from rfl)
    clear hb
    go_wp2_with fail
    refine (begin_any m hm13 _).mono ?_
    rintro e w7 ⟨v1, rfl, hown, hnn, hb7⟩
    have hown0 := hown
    have hown := own_mono (b' := w.heap.size) hown hB.size
    have hI := (hb7.block _ (lt_of_row hI)).trans hI
    have hmid := midT_le m
    have hne : v1.ownBlock ≠ some w5.heap.size := by
      intro hq
      have := (hown0.lt _ hq).1
      simp at this
      omega
    have hB := hB.trans (hb7.mono hB.size)
    clear hb7 c1 c2 hown0
    have c1 := (cell_of_row w7 w5.heap.size 1 _ _ _ hI).trans (show _ = some (Value.int .i64 (m : Int)) from rfl)
    have c2 := (cell_of_row w7 w5.heap.size 2 _ _ _ hI).trans (show _ = some (Value.int .i64 (4 : Int)) from rfl)
    by_cases m9 : m = 9
    · have b9 : ((m : Int) == 9) = true := by rw [beq_iff_eq]; omega
      have HM := Lib.hid m9; clear m9
      cases x
      all_goals
        go_wp2_with (at_builtin; refine wpList_accs rfl _ _ 28 rfl 32 (.int .i64 0) Tryd.underlying28 infoAcc rfl _ w _ _ _ ?_ hown hnn hB _ ?_ ?_ ?_ ?_; exact rfl; (first | exact rfl | (show (Value.slice (some ⟨_, 0, none⟩) _ _) = _; simp)); simp [Value.oneCell']; (simp only [List.size_toArray, List.length_cons, List.length_nil]; omega); clear hown hnn hB; intro v1 w1 hown hnn hB _ hblk hg; obtain ⟨hI, hne⟩ := keep_row hI hne hblk hg; clear hblk hg; have c1 := (cell_of_row w1 w5.heap.size 1 _ _ _ hI).trans (show _ = some (Value.int .i64 (m : Int)) from rfl); have c2 := (cell_of_row w1 w5.heap.size 2 _ _ _ hI).trans (show _ = some (Value.int .i64 (4 : Int)) from rfl))
        go_ret
        have hm := HM.out
        exact ⟨_, rfl, own_acc hown (by simp [shapeT, bodyT, opnd_mid, accV, hm]), hnn, hB⟩
    · have b9 : ((m : Int) == 9) = false := by rw [beq_eq_false_iff_ne]; omega
      by_cases m10 : m = 10
      · have b10 : ((m : Int) == 10) = true := by rw [beq_iff_eq]; omega
        have HM := Lib.hid m10; clear m10
        cases x
        all_goals
          go_wp2_with (at_builtin; refine wpList_accs rfl _ _ 28 rfl 32 (.int .i64 0) Tryd.underlying28 infoAcc rfl _ w _ _ _ ?_ hown hnn hB _ ?_ ?_ ?_ ?_; exact rfl; (first | exact rfl | (show (Value.slice (some ⟨_, 0, none⟩) _ _) = _; simp)); simp [Value.oneCell']; (simp only [List.size_toArray, List.length_cons, List.length_nil]; omega); clear hown hnn hB; intro v1 w1 hown hnn hB _ hblk hg; obtain ⟨hI, hne⟩ := keep_row hI hne hblk hg; clear hblk hg; have c1 := (cell_of_row w1 w5.heap.size 1 _ _ _ hI).trans (show _ = some (Value.int .i64 (m : Int)) from rfl); have c2 := (cell_of_row w1 w5.heap.size 2 _ _ _ hI).trans (show _ = some (Value.int .i64 (4 : Int)) from rfl))
          go_ret
          have hm := HM.out
          exact ⟨_, rfl, own_acc hown (by simp [shapeT, bodyT, opnd_mid, accV, hm]), hnn, hB⟩
      · have b10 : ((m : Int) == 10) = false := by rw [beq_eq_false_iff_ne]; omega
        by_cases m7 : m = 7
        · have b7 : ((m : Int) == 7) = true := by rw [beq_iff_eq]; omega
          have HM := Lib.hid m7; clear m7
          cases x
          all_goals
            go_wp2_with (at_builtin; refine wpList_accs rfl _ _ 28 rfl 32 (.int .i64 0) Tryd.underlying28 infoAcc rfl _ w _ _ _ ?_ hown hnn hB _ ?_ ?_ ?_ ?_; exact rfl; (first | exact rfl | (show (Value.slice (some ⟨_, 0, none⟩) _ _) = _; simp)); simp [Value.oneCell']; (simp only [List.size_toArray, List.length_cons, List.length_nil]; omega); clear hown hnn hB; intro v1 w1 hown hnn hB _ hblk hg; obtain ⟨hI, hne⟩ := keep_row hI hne hblk hg; clear hblk hg; have c1 := (cell_of_row w1 w5.heap.size 1 _ _ _ hI).trans (show _ = some (Value.int .i64 (m : Int)) from rfl); have c2 := (cell_of_row w1 w5.heap.size 2 _ _ _ hI).trans (show _ = some (Value.int .i64 (4 : Int)) from rfl))
            go_ret
            have hm := HM.out
            exact ⟨_, rfl, own_acc hown (by simp [shapeT, bodyT, opnd_mid, accV, hm]), hnn, hB⟩
        · have b7 : ((m : Int) == 7) = false := by rw [beq_eq_false_iff_ne]; omega
          go_wp2_with (at_builtin; refine wpList_accs rfl _ _ 28 rfl 32 (.int .i64 0) Tryd.underlying28 infoAcc rfl _ w _ _ _ ?_ hown hnn hB _ ?_ ?_ ?_ ?_; exact rfl; (first | exact rfl | (show (Value.slice (some ⟨_, 0, none⟩) _ _) = _; simp)); simp [Value.oneCell']; (simp only [List.size_toArray, List.length_cons, List.length_nil]; omega); clear hown hnn hB; intro v1 w1 hown hnn hB _ hblk hg; obtain ⟨hI, hne⟩ := keep_row hI hne hblk hg; clear hblk hg; have c1 := (cell_of_row w1 w5.heap.size 1 _ _ _ hI).trans (show _ = some (Value.int .i64 (m : Int)) from rfl); have c2 := (cell_of_row w1 w5.heap.size 2 _ _ _ hI).trans (show _ = some (Value.int .i64 (4 : Int)) from rfl))
          go_ret
          exact ⟨_, rfl, own_acc hown (by simp [shapeT, bodyT, opnd_mid, accV, m9, m10, m7]), hnn, hB⟩
  · have hB := hb.alloc hb.size (.cells #[.int .i64 (o : Int), .int .i64 (m : Int), .int .i64 (0 : Int), .int .i64 (l : Int), .int .i64 0, .int .i64 (cl : Int)] 36)
    have hI := heap_alloc_new w5 (.cells #[.int .i64 (o : Int), .int .i64 (m : Int), .int .i64 (0 : Int), .int .i64 (l : Int), .int .i64 0, .int .i64 (cl : Int)] 36)
    have c1 := (cell_of_row _ _ 1 _ _ _ hI).trans (show _ = some (Value.int .i64 (m : Int)) from rfl)
    have c2 := (cell_of_row _ _ 2 _ _ _ hI).trans (show _ = some (Value.int .i64 (0 : Int)) from rfl)
    clear hb
    go_wp2_with ((with_reducible show wpList _ _ _ (⟨_, .load 36 (.tmp 7), _, _, _, none⟩ :: _) _ _); refine wpList_load_row rfl 36 (.tmp 7) rfl w5.heap.size ?q1 36 _ (0, 0) _ hI Tryd.underlying36 rfl sizeInst ?_; (case q1 => rfl))
    refine (refflow_any o m 0 _ _ _ x t (by omega) _).mono ?_
    rintro e w7 ⟨v1, rfl, hown, hnn, hb7⟩
    have hown := own_mono (b' := w.heap.size) hown hB.size
    have hB := hB.trans (hb7.mono hB.size)
    clear hb7 c1 c2 hI
    go_wp2_with fail
    go_ret
    exact ⟨_, rfl, own_acc hown (by simp [shapeT, bodyT, accV]), hnn, hB⟩
  · have hB := hb.alloc hb.size (.cells #[.int .i64 (o : Int), .int .i64 (m : Int), .int .i64 (5 : Int), .int .i64 (l : Int), .int .i64 0, .int .i64 (cl : Int)] 36)
    have hI := heap_alloc_new w5 (.cells #[.int .i64 (o : Int), .int .i64 (m : Int), .int .i64 (5 : Int), .int .i64 (l : Int), .int .i64 0, .int .i64 (cl : Int)] 36)
    have c1 := (cell_of_row _ _ 1 _ _ _ hI).trans (show _ = some (Value.int .i64 (m : Int)) from rfl)
    have c2 := (cell_of_row _ _ 2 _ _ _ hI).trans (show _ = some (Value.int .i64 (5 : Int)) from rfl)
    clear hb
    go_wp2_with ((with_reducible show wpList _ _ _ (⟨_, .load 36 (.tmp 7), _, _, _, none⟩ :: _) _ _); refine wpList_load_row rfl 36 (.tmp 7) rfl w5.heap.size ?q1 36 _ (0, 0) _ hI Tryd.underlying36 rfl sizeInst ?_; (case q1 => rfl))
    refine (refflow_any o m 5 _ _ _ x t (by omega) _).mono ?_
    rintro e w7 ⟨v1, rfl, hown, hnn, hb7⟩
    have hown := own_mono (b' := w.heap.size) hown hB.size
    have hB := hB.trans (hb7.mono hB.size)
    clear hb7 c1 c2 hI
    go_wp2_with fail
    go_ret
    exact ⟨_, rfl, own_acc hown (by simp [shapeT, bodyT, accV]), hnn, hB⟩
  · have hB := hb.alloc hb.size (.cells #[.int .i64 (o : Int), .int .i64 (m : Int), .int .i64 (6 : Int), .int .i64 (l : Int), .int .i64 0, .int .i64 (cl : Int)] 36)
    have hI := heap_alloc_new w5 (.cells #[.int .i64 (o : Int), .int .i64 (m : Int), .int .i64 (6 : Int), .int .i64 (l : Int), .int .i64 0, .int .i64 (cl : Int)] 36)
    have c1 := (cell_of_row _ _ 1 _ _ _ hI).trans (show _ = some (Value.int .i64 (m : Int)) from rfl)
    have c2 := (cell_of_row _ _ 2 _ _ _ hI).trans (show _ = some (Value.int .i64 (6 : Int)) from rfl)
    clear hb
    go_wp2_with ((with_reducible show wpList _ _ _ (⟨_, .load 36 (.tmp 7), _, _, _, none⟩ :: _) _ _); refine wpList_load_row rfl 36 (.tmp 7) rfl w5.heap.size ?q1 36 _ (0, 0) _ hI Tryd.underlying36 rfl sizeInst ?_; (case q1 => rfl))
    refine (refflow_any o m 6 _ _ _ x t (by omega) _).mono ?_
    rintro e w7 ⟨v1, rfl, hown, hnn, hb7⟩
    have hown := own_mono (b' := w.heap.size) hown hB.size
    have hB := hB.trans (hb7.mono hB.size)
    clear hb7 c1 c2 hI
    go_wp2_with fail
    go_ret
    exact ⟨_, rfl, own_acc hown (by simp [shapeT, bodyT, accV]), hnn, hB⟩
  · have hB := hb.alloc hb.size (.cells #[.int .i64 (o : Int), .int .i64 (m : Int), .int .i64 (7 : Int), .int .i64 (l : Int), .int .i64 0, .int .i64 (cl : Int)] 36)
    have hI := heap_alloc_new w5 (.cells #[.int .i64 (o : Int), .int .i64 (m : Int), .int .i64 (7 : Int), .int .i64 (l : Int), .int .i64 0, .int .i64 (cl : Int)] 36)
    have c1 := (cell_of_row _ _ 1 _ _ _ hI).trans (show _ = some (Value.int .i64 (m : Int)) from rfl)
    have c2 := (cell_of_row _ _ 2 _ _ _ hI).trans (show _ = some (Value.int .i64 (7 : Int)) from rfl)
    clear hb
    go_wp2_with ((with_reducible show wpList _ _ _ (⟨_, .load 36 (.tmp 7), _, _, _, none⟩ :: _) _ _); refine wpList_load_row rfl 36 (.tmp 7) rfl w5.heap.size ?q1 36 _ (0, 0) _ hI Tryd.underlying36 rfl sizeInst ?_; (case q1 => rfl))
    refine (refflow_any o m 7 _ _ _ x t (by omega) _).mono ?_
    rintro e w7 ⟨v1, rfl, hown, hnn, hb7⟩
    have hown := own_mono (b' := w.heap.size) hown hB.size
    have hB := hB.trans (hb7.mono hB.size)
    clear hb7 c1 c2 hI
    go_wp2_with fail
    go_ret
    exact ⟨_, rfl, own_acc hown (by simp [shapeT, bodyT, accV]), hnn, hB⟩
  · have hB := hb.alloc hb.size (.cells #[.int .i64 (o : Int), .int .i64 (m : Int), .int .i64 (8 : Int), .int .i64 (l : Int), .int .i64 0, .int .i64 (cl : Int)] 36)
    have hI := heap_alloc_new w5 (.cells #[.int .i64 (o : Int), .int .i64 (m : Int), .int .i64 (8 : Int), .int .i64 (l : Int), .int .i64 0, .int .i64 (cl : Int)] 36)
    have c1 := (cell_of_row _ _ 1 _ _ _ hI).trans (show _ = some (Value.int .i64 (m : Int)) from rfl)
    have c2 := (cell_of_row _ _ 2 _ _ _ hI).trans (show _ = some (Value.int .i64 (8 : Int)) from rfl)
    clear hb
    go_wp2_with ((with_reducible show wpList _ _ _ (⟨_, .load 36 (.tmp 7), _, _, _, none⟩ :: _) _ _); refine wpList_load_row rfl 36 (.tmp 7) rfl w5.heap.size ?q1 36 _ (0, 0) _ hI Tryd.underlying36 rfl sizeInst ?_; (case q1 => rfl))
    refine (refflow_any o m 8 _ _ _ x t (by omega) _).mono ?_
    rintro e w7 ⟨v1, rfl, hown, hnn, hb7⟩
    have hown := own_mono (b' := w.heap.size) hown hB.size
    have hB := hB.trans (hb7.mono hB.size)
    clear hb7 c1 c2 hI
    go_wp2_with fail
    go_ret
    exact ⟨_, rfl, own_acc hown (by simp [shapeT, bodyT, accV]), hnn, hB⟩
  · have hB := hb.alloc hb.size (.cells #[.int .i64 (o : Int), .int .i64 (m : Int), .int .i64 (9 : Int), .int .i64 (l : Int), .int .i64 0, .int .i64 (cl : Int)] 36)
    have hI := heap_alloc_new w5 (.cells #[.int .i64 (o : Int), .int .i64 (m : Int), .int .i64 (9 : Int), .int .i64 (l : Int), .int .i64 0, .int .i64 (cl : Int)] 36)
    have c1 := (cell_of_row _ _ 1 _ _ _ hI).trans (show _ = some (Value.int .i64 (m : Int)) from rfl)
    have c2 := (cell_of_row _ _ 2 _ _ _ hI).trans (show _ = some (Value.int .i64 (9 : Int)) from rfl)
    clear hb
    go_wp2_with ((with_reducible show wpList _ _ _ (⟨_, .load 36 (.tmp 7), _, _, _, none⟩ :: _) _ _); refine wpList_load_row rfl 36 (.tmp 7) rfl w5.heap.size ?q1 36 _ (0, 0) _ hI Tryd.underlying36 rfl sizeInst ?_; (case q1 => rfl))
    refine (refflow_any o m 9 _ _ _ x t (by omega) _).mono ?_
    rintro e w7 ⟨v1, rfl, hown, hnn, hb7⟩
    have hown := own_mono (b' := w.heap.size) hown hB.size
    have hB := hB.trans (hb7.mono hB.size)
    clear hb7 c1 c2 hI
    go_wp2_with fail
    go_ret
    exact ⟨_, rfl, own_acc hown (by simp [shapeT, bodyT, accV]), hnn, hB⟩
  · have hB := hb.alloc hb.size (.cells #[.int .i64 (o : Int), .int .i64 (m : Int), .int .i64 (10 : Int), .int .i64 (l : Int), .int .i64 0, .int .i64 (cl : Int)] 36)
    have hI := heap_alloc_new w5 (.cells #[.int .i64 (o : Int), .int .i64 (m : Int), .int .i64 (10 : Int), .int .i64 (l : Int), .int .i64 0, .int .i64 (cl : Int)] 36)
    have c1 := (cell_of_row _ _ 1 _ _ _ hI).trans (show _ = some (Value.int .i64 (m : Int)) from rfl)
    have c2 := (cell_of_row _ _ 2 _ _ _ hI).trans (show _ = some (Value.int .i64 (10 : Int)) from rfl)
    clear hb
    go_wp2_with ((with_reducible show wpList _ _ _ (⟨_, .load 36 (.tmp 7), _, _, _, none⟩ :: _) _ _); refine wpList_load_row rfl 36 (.tmp 7) rfl w5.heap.size ?q1 36 _ (0, 0) _ hI Tryd.underlying36 rfl sizeInst ?_; (case q1 => rfl))
    refine (refflow_any o m 10 _ _ _ x t (by omega) _).mono ?_
    rintro e w7 ⟨v1, rfl, hown, hnn, hb7⟩
    have hown := own_mono (b' := w.heap.size) hown hB.size
    have hB := hB.trans (hb7.mono hB.size)
    clear hb7 c1 c2 hI
    go_wp2_with fail
    go_ret
    exact ⟨_, rfl, own_acc hown (by simp [shapeT, bodyT, accV]), hnn, hB⟩
  · have hB := hb.alloc hb.size (.cells #[.int .i64 (o : Int), .int .i64 (m : Int), .int .i64 (11 : Int), .int .i64 (l : Int), .int .i64 0, .int .i64 (cl : Int)] 36)
    have hI := heap_alloc_new w5 (.cells #[.int .i64 (o : Int), .int .i64 (m : Int), .int .i64 (11 : Int), .int .i64 (l : Int), .int .i64 0, .int .i64 (cl : Int)] 36)
    have c1 := (cell_of_row _ _ 1 _ _ _ hI).trans (show _ = some (Value.int .i64 (m : Int)) from rfl)
    have c2 := (cell_of_row _ _ 2 _ _ _ hI).trans (show _ = some (Value.int .i64 (11 : Int)) from rfl)
    clear hb
    go_wp2_with ((with_reducible show wpList _ _ _ (⟨_, .load 36 (.tmp 7), _, _, _, none⟩ :: _) _ _); refine wpList_load_row rfl 36 (.tmp 7) rfl w5.heap.size ?q1 36 _ (0, 0) _ hI Tryd.underlying36 rfl sizeInst ?_; (case q1 => rfl))
    refine (refflow_any o m 11 _ _ _ x t (by omega) _).mono ?_
    rintro e w7 ⟨v1, rfl, hown, hnn, hb7⟩
    have hown := own_mono (b' := w.heap.size) hown hB.size
    have hB := hB.trans (hb7.mono hB.size)
    clear hb7 c1 c2 hI
    go_wp2_with fail
    go_ret
    exact ⟨_, rfl, own_acc hown (by simp [shapeT, bodyT, accV]), hnn, hB⟩
  · have hB := hb.alloc hb.size (.cells #[.int .i64 (o : Int), .int .i64 (m : Int), .int .i64 (12 : Int), .int .i64 (l : Int), .int .i64 0, .int .i64 (cl : Int)] 36)
    have hI := heap_alloc_new w5 (.cells #[.int .i64 (o : Int), .int .i64 (m : Int), .int .i64 (12 : Int), .int .i64 (l : Int), .int .i64 0, .int .i64 (cl : Int)] 36)
    have c1 := (cell_of_row _ _ 1 _ _ _ hI).trans (show _ = some (Value.int .i64 (m : Int)) from rfl)
    have c2 := (cell_of_row _ _ 2 _ _ _ hI).trans (show _ = some (Value.int .i64 (12 : Int)) from rfl)
    clear hb
    go_wp2_with ((with_reducible show wpList _ _ _ (⟨_, .load 36 (.tmp 7), _, _, _, none⟩ :: _) _ _); refine wpList_load_row rfl 36 (.tmp 7) rfl w5.heap.size ?q1 36 _ (0, 0) _ hI Tryd.underlying36 rfl sizeInst ?_; (case q1 => rfl))
    refine (refflow_any o m 12 _ _ _ x t (by omega) _).mono ?_
    rintro e w7 ⟨v1, rfl, hown, hnn, hb7⟩
    have hown := own_mono (b' := w.heap.size) hown hB.size
    have hB := hB.trans (hb7.mono hB.size)
    clear hb7 c1 c2 hI
    go_wp2_with fail
    go_ret
    exact ⟨_, rfl, own_acc hown (by simp [shapeT, bodyT, accV]), hnn, hB⟩
end Go.Proofs.YtknfphgncoojeaaDoor

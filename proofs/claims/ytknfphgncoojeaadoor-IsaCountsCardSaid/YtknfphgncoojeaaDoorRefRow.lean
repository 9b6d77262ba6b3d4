/- tandemref4.row: the contract. -/
import Derived.Test.YtknfphgncoojeaaDoorRefRowF
import Derived.StillTailTactics
namespace Go.Proofs.YtknfphgncoojeaaDoor
open Go.RowKit
theorem letter_cell (k : Nat) (h : k < 13) : lettersA[k]? = some (.string (lettersL.getD k ⟨#[]⟩)) := by
  have : k = 0 ∨ k = 1 ∨ k = 2 ∨ k = 3 ∨ k = 4 ∨ k = 5 ∨ k = 6 ∨ k = 7 ∨ k = 8 ∨ k = 9 ∨ k = 10 ∨ k = 11 ∨ k = 12 := by omega
  rcases this with rfl | rfl | rfl | rfl | rfl | rfl | rfl | rfl | rfl | rfl | rfl | rfl | rfl <;> rfl
theorem sizeInst : (Tryd.prog.info? 36).map (·.size) = some 6 := by kernel_rfl
def instV (c : Nat) : Array Value := #[.int .i64 (opT c : Int), .int .i64 (modeT c : Int), .int .i64 (kindT c : Int), .int .i64 (lenR (modeT c) : Int), .int .i64 0, .int .i64 (classT c : Int)]
set_option maxRecDepth 100000 in
set_option maxHeartbeats 8000000 in
theorem refrow_any (c : Nat) (h : c < 256) (w : World) (tt : TypeId) (fr : Nat × Nat) (hL : w.heap[4]? = some (.cells lettersA tt fr)) :
    Calls Tryd.prog 36 #[.int .u8 (c : Int)] w fun e w' => e = .returned (.agg (instV c)) ∧ Below w.heap.size w w' := by
  obtain ⟨s2, s3, s4, x, F⟩ := rowFacts c h
  have hc := cell_any c h
  rw [cell_is c h] at hc
  obtain ⟨s, hs⟩ : ∃ s, cellA c = s := ⟨_, rfl⟩
  rw [hs] at hc F
  clear hs
  unfold instV
  obtain ⟨m, hm⟩ : ∃ m, modeT c = m := ⟨_, rfl⟩
  obtain ⟨kd, hkd⟩ : ∃ kd, kindT c = kd := ⟨_, rfl⟩
  obtain ⟨cl, hcl⟩ : ∃ cl, classT c = cl := ⟨_, rfl⟩
  obtain ⟨o, ho⟩ : ∃ o, opT c = o := ⟨_, rfl⟩
  have hkind := refkind_any s3 m (fillB c)
  rw [← hm, F.kind, hkd] at hkind
  have hcls := refclass_any c s3 (fillB c)
  rw [F.cls, hcl] at hcls
  have hnam := named_any s3
  rw [F.op, ho] at hnam
  have hlen := length_any (modeT c) F.m13
  have hmode := F.mode
  have hsz := F.size2
  have hix := F.index
  have hhd := F.head
  have htl := F.tail
  have hcut := F.cut
  have hunc := F.uncut
  have hx := F.hx
  have hsz0 := F.size
  have hm13 := F.m13
  rw [hm] at hlen hmode hkind hm13
  rw [hm, hkd, hcl, ho]
  obtain ⟨ln, hln⟩ : ∃ ln, lenR m = ln := ⟨_, rfl⟩
  rw [hln] at hlen ⊢
  clear F hkd hcl ho hm hln
  obtain ⟨f, hf⟩ : ∃ f, fillB c = f := ⟨_, rfl⟩
  rw [hf] at hx hcut hunc hkind hcls
  clear hf
  have HK := Lib.hid hkind; have HC := Lib.hid hcls; have HN := Lib.hid hnam; have HL := Lib.hid hlen; have HM := Lib.hid hmode; have HT := Lib.hid htl; have HS := Lib.hid hsz
  clear hkind hcls hnam hlen hmode htl hsz
  go_enter Tryd.func36, Tryd.ntmps36
  go_wp2_with fail
  refine (hc _).mono ?_
  rintro e w1 ⟨rfl, rfl⟩
  clear hc
  have hz := heap_alloc_new w (.cells #[.int .i64 0, .int .i64 0, .int .i64 0, .int .i64 0, .int .i64 0, .int .i64 0] 36)
  have hR := row_alloc hz (.cells #[.int .i64 0, .int .i64 0, .int .i64 0, .int .i64 0, .int .i64 0, .int .i64 0] 36)
  have hI := heap_alloc_new (w.alloc (.cells #[.int .i64 0, .int .i64 0, .int .i64 0, .int .i64 0, .int .i64 0, .int .i64 0] 36)) (.cells #[.int .i64 0, .int .i64 0, .int .i64 0, .int .i64 0, .int .i64 0, .int .i64 0] 36)
  have hB := ((Below.refl w.heap.size w).alloc (Nat.le_refl _) (.cells #[.int .i64 0, .int .i64 0, .int .i64 0, .int .i64 0, .int .i64 0, .int .i64 0] 36)).alloc (by simp) (.cells #[.int .i64 0, .int .i64 0, .int .i64 0, .int .i64 0, .int .i64 0, .int .i64 0] 36)
  have hL0 := row_alloc (row_alloc hL (.cells #[.int .i64 0, .int .i64 0, .int .i64 0, .int .i64 0, .int .i64 0, .int .i64 0] 36)) (.cells #[.int .i64 0, .int .i64 0, .int .i64 0, .int .i64 0, .int .i64 0, .int .i64 0] 36)
  have hsize : (w.alloc (.cells #[.int .i64 0, .int .i64 0, .int .i64 0, .int .i64 0, .int .i64 0, .int .i64 0] 36)).heap.size = w.heap.size + 1 := by simp
  rw [hsize] at hI
  have hlL := lt_of_row hL
  clear hz hsize hL
  have HRB := Lib.hid (And.intro hR (And.intro hB hL0)); clear hR hB hL0
  have HI := Lib.hid hI; clear hI
  cases f
  all_goals first
    | (obtain ⟨h2, hct⟩ := hcut rfl
       clear hcut hunc
       go_wp2_with fail)
    | (obtain rfl := hunc rfl
       clear hcut hunc
       go_wp2_with fail)
  all_goals
    refine (HN.out _).mono ?_
    rintro e w2 ⟨rfl, rfl⟩
    obtain ⟨hR, hB, hL0⟩ := HRB.out
    have hI := HI.out
    clear HRB HI HN
    generalize (w.alloc (.cells #[.int .i64 0, .int .i64 0, .int .i64 0, .int .i64 0, .int .i64 0, .int .i64 0] 36)).alloc (.cells #[.int .i64 0, .int .i64 0, .int .i64 0, .int .i64 0, .int .i64 0, .int .i64 0] 36) = w2 at *
    have c0 := cell_of_row w2 _ 0 _ _ _ hI
    have f0 := frozen_of_row hI 0
    simp only [List.getElem?_toArray, List.getElem?_cons_zero] at c0
    by_cases h4 : 4 < s2.size
  all_goals first
    | (have ht := HT.out (by assumption)
       have hm := HM.out
       rw [if_pos (by assumption)] at hm
       have HM2 := Lib.hid hm
       clear hm HM HT
       go_wp2_with fail)
    | (have hm := HM.out
       rw [if_neg (by assumption)] at hm
       have HM2 := Lib.hid hm
       clear hm HM HT
       go_wp2_with fail)
  all_goals try
    have hI1 := row_setCell (i := 0) hI (.int .i64 (o : Int))
    have hR1 := row_setCell_other (i := 0) hR (by omega : w.heap.size ≠ w.heap.size + 1) (.int .i64 (o : Int))
    have hL1 := row_setCell_other (i := 0) hL0 (by omega : 4 ≠ w.heap.size + 1) (.int .i64 (o : Int))
    have hB1 := hB.setCell (p := ⟨w.heap.size + 1, 0, none⟩) (by simp) (.int .i64 (o : Int))
    simp only [List.setIfInBounds_toArray, List.set_cons_zero] at hI1
    clear hI hR hL0 hB c0 f0
  · skip
    go_loopw [6] (fun i wr => ∃ k : Nat, k ≤ 13 ∧ i = .int .i64 k ∧ wr.heap[w.heap.size + 1]? = some (.cells #[.int .i64 (o : Int), .int .i64 (modeAcc s4.data.toList k : Int), .int .i64 0, .int .i64 0, .int .i64 0, .int .i64 0] 36 (0, 0)) ∧ wr.heap[w.heap.size]? = some (.cells #[.int .i64 0, .int .i64 0, .int .i64 0, .int .i64 0, .int .i64 0, .int .i64 0] 36 (0, 0)) ∧ wr.heap[4]? = some (.cells lettersA tt fr) ∧ Below w.heap.size w wr) (fun i _ => 13 - (intOf i).toNat)
    case atStart => exact ⟨0, by omega, rfl, hI1, hR1, hL1, hB1⟩
    case round =>
      obtain ⟨k, hk, rfl, hI, hR, hLw, hB⟩ := hrel
      clear hI1 hR1 hL1 hB1
      by_cases hlt : k < 13
      · have cl := (cell_of_row wr _ k _ _ _ hLw).trans (letter_cell k hlt)
        obtain ⟨lt, hlt2⟩ : ∃ lt, lettersL.getD k ⟨#[]⟩ = lt := ⟨_, rfl⟩
        rw [hlt2] at cl
        have hnext : modeAcc s4.data.toList (k + 1) = if (lt.toList == s4.toList) = true then k else modeAcc s4.data.toList k := by rw [← eqS_b, ← hlt2]; rfl
        have HNX := Lib.hid hnext; clear hnext
        by_cases he : (lt.toList == s4.toList) = true
        · go_wp2_with fail
          go_quiet (fail)
          have hn2 : modeAcc s4.data.toList (k + 1) = k := by rw [HNX.out, if_pos he]
          clear HNX he
          have hIq : (wr.drewN nq).heap[w.heap.size + 1]? = _ := hI
          have hRq : (wr.drewN nq).heap[w.heap.size]? = _ := hR
          have hLq : (wr.drewN nq).heap[4]? = _ := hLw
          have hBq : Below w.heap.size w (wr.drewN nq) := ⟨hB.os, hB.tape, hB.output, hB.size, hB.block⟩
          clear hI hR hLw hB cl
          generalize wr.drewN nq = wq at *
          have hI3 := row_setCell (i := 1) hIq (.int .i64 (k : Int))
          have hR3 := row_setCell_other (i := 1) hRq (by omega : w.heap.size ≠ w.heap.size + 1) (.int .i64 (k : Int))
          have hL3 := row_setCell_other (i := 1) hLq (by omega : 4 ≠ w.heap.size + 1) (.int .i64 (k : Int))
          have hB3 := hBq.setCell (p := ⟨w.heap.size + 1, 1, none⟩) (by simp) (.int .i64 (k : Int))
          simp only [List.setIfInBounds_toArray, List.set_cons_zero, List.set_cons_succ] at hI3
          have c1 := cell_of_row wq _ 1 _ _ _ hIq
          have f1 := frozen_of_row hIq 1
          simp only [List.getElem?_toArray, List.getElem?_cons_zero, List.getElem?_cons_succ] at c1
          go_wp2_with fail
          go_roundw
          case rel => exact ⟨k + 1, by omega, by go_num, by rw [hn2]; exact hI3, hR3, hL3, hB3⟩
          case measure => simp [intOf]; omega
        · have he' : (lt.toList == s4.toList) = false := by simpa using he
          have hn2 : modeAcc s4.data.toList (k + 1) = modeAcc s4.data.toList k := by rw [HNX.out, if_neg he]
          clear HNX he
          go_wp2_with fail
          go_quiet (fail)
          go_wp2_with fail
          go_roundw
          case rel => exact ⟨k + 1, by omega, by go_num, by rw [hn2]; exact hI, hR, hLw, ⟨hB.os, hB.tape, hB.output, hB.size, hB.block⟩⟩
          case measure => simp [intOf]; omega
      · obtain rfl : k = 13 := by omega
        have hI2 := hI
        rw [HM2.out] at hI2
        have hR1 := hR; have hL1 := hLw; have hB1 := hB
        clear hI HM2 h4 hR hLw hB
        go_wp2_with fail
        generalize wr = wt at *
        have c1 := cell_of_row wt _ 1 _ _ _ hI2
        simp only [List.getElem?_toArray, List.getElem?_cons_zero, List.getElem?_cons_succ] at c1
        go_still_tail 5, (by kernel_rfl)
        change wpList _ _ _ _ _ wt.drew
        clear c1
        go_wp2_with fail
        refine (HK.out _).mono ?_
        rintro e w5 ⟨rfl, rfl⟩
        have hI3 : wt.drew.heap[w.heap.size + 1]? = _ := hI2
        have hR3 : wt.drew.heap[w.heap.size]? = _ := hR1
        have hB3 : Below w.heap.size w wt.drew := hB1.drew
        clear HK hI2 hR1 hB1 hL1
        generalize wt.drew = wd at *
        have c2 := cell_of_row wd _ 2 _ _ _ hI3
        have f2 := frozen_of_row hI3 2
        have c1 := cell_of_row (wd.setCell ⟨w.heap.size + 1, 2, none⟩ (.int .i64 (kd : Int))) _ 1 _ _ _ (row_setCell (i := 2) hI3 _)
        simp only [List.getElem?_toArray, List.getElem?_cons_zero, List.getElem?_cons_succ, List.setIfInBounds_toArray, List.set_cons_zero, List.set_cons_succ] at c2 c1
        go_wp2_with fail
        refine (HL.out _).mono ?_
        rintro e w6 ⟨rfl, rfl⟩
        have hI4 := row_setCell (i := 2) hI3 (.int .i64 (kd : Int))
        have hR4 := row_setCell_other (i := 2) hR3 (by omega : w.heap.size ≠ w.heap.size + 1) (.int .i64 (kd : Int))
        have hB4 := hB3.setCell (p := ⟨w.heap.size + 1, 2, none⟩) (by simp) (.int .i64 (kd : Int))
        simp only [List.setIfInBounds_toArray, List.set_cons_zero, List.set_cons_succ] at hI4
        clear HL hI3 hR3 hB3 c1 c2 f2
        generalize wd.setCell ⟨w.heap.size + 1, 2, none⟩ (.int .i64 (kd : Int)) = we at *
        have c3 := cell_of_row we _ 3 _ _ _ hI4
        have f3 := frozen_of_row hI4 3
        simp only [List.getElem?_toArray, List.getElem?_cons_zero, List.getElem?_cons_succ] at c3
        go_wp2_with fail
        refine (HC.out _).mono ?_
        rintro e w7 ⟨rfl, rfl⟩
        have hI5 := row_setCell (i := 3) hI4 (.int .i64 (ln : Int))
        have hR5 := row_setCell_other (i := 3) hR4 (by omega : w.heap.size ≠ w.heap.size + 1) (.int .i64 (ln : Int))
        have hB5 := hB4.setCell (p := ⟨w.heap.size + 1, 3, none⟩) (by simp) (.int .i64 (ln : Int))
        simp only [List.setIfInBounds_toArray, List.set_cons_zero, List.set_cons_succ] at hI5
        clear HC hI4 hR4 hB4 c3 f3
        generalize we.setCell ⟨w.heap.size + 1, 3, none⟩ (.int .i64 (ln : Int)) = wf at *
        have c5 := cell_of_row wf _ 5 _ _ _ hI5
        have f5 := frozen_of_row hI5 5
        simp only [List.getElem?_toArray, List.getElem?_cons_zero, List.getElem?_cons_succ] at c5
        have hI6 := row_setCell (i := 5) hI5 (.int .i64 (cl : Int))
        have hR6 := row_setCell_other (i := 5) hR5 (by omega : w.heap.size ≠ w.heap.size + 1) (.int .i64 (cl : Int))
        have hB6 := hB5.setCell (p := ⟨w.heap.size + 1, 5, none⟩) (by simp) (.int .i64 (cl : Int))
        simp only [List.setIfInBounds_toArray, List.set_cons_zero, List.set_cons_succ] at hI6
        clear hI5 hR5 hB5
        go_wp2_with (first | ((with_reducible show wpList _ _ _ (⟨_, .load 36 (.tmp 5), _, _, _, none⟩ :: _) _ _); refine wpList_load_row rfl 36 (.tmp 5) rfl (w.heap.size + 1) ?q1 36 _ (0, 0) _ hI6 Tryd.underlying36 rfl sizeInst ?_; (case q1 => rfl)) | ((with_reducible show wpList _ _ _ (⟨none, .store 36 (.tmp 2) (.tmp 54), _, _, _, none⟩ :: _) _ _); refine wpList_store_row rfl 36 (.tmp 2) (.tmp 54) rfl w.heap.size #[.int .i64 (o : Int), .int .i64 (m : Int), .int .i64 (kd : Int), .int .i64 (ln : Int), .int .i64 0, .int .i64 (cl : Int)] rfl rfl 36 _ hR6 sizeInst rfl (by kernel_rfl) ?_; obtain ⟨w9, e9, hR9, hB9⟩ := box_stored hB6 (Nat.le_refl _) hR6 #[.int .i64 (o : Int), .int .i64 (m : Int), .int .i64 (kd : Int), .int .i64 (ln : Int), .int .i64 0, .int .i64 (cl : Int)]; rw [e9]; clear e9 hR6 hB6))
        exact bodyPost_ret (results_cell_row rfl _ _ w.heap.size 36 _ (0, 0) _ rfl hR9 Tryd.underlying36 rfl sizeInst) rfl ⟨rfl, hB9⟩
  · skip
    have hI2 : (w2.setCell ⟨w.heap.size + 1, 0, none⟩ (.int .i64 (o : Int))).heap[w.heap.size + 1]? = some (.cells #[.int .i64 (o : Int), .int .i64 (m : Int), .int .i64 0, .int .i64 0, .int .i64 0, .int .i64 0] 36 (0, 0)) := by rw [← HM2.out]; exact hI1
    clear hI1 HM2 h4
    generalize w2.setCell ⟨w.heap.size + 1, 0, none⟩ (.int .i64 (o : Int)) = wt at *
    have c1 := cell_of_row wt _ 1 _ _ _ hI2
    simp only [List.getElem?_toArray, List.getElem?_cons_zero, List.getElem?_cons_succ] at c1
    go_still_tail 5, (by kernel_rfl)
    change wpList _ _ _ _ _ wt.drew
    clear c1
    go_wp2_with fail
    refine (HK.out _).mono ?_
    rintro e w5 ⟨rfl, rfl⟩
    have hI3 : wt.drew.heap[w.heap.size + 1]? = _ := hI2
    have hR3 : wt.drew.heap[w.heap.size]? = _ := hR1
    have hB3 : Below w.heap.size w wt.drew := hB1.drew
    clear HK hI2 hR1 hB1 hL1
    generalize wt.drew = wd at *
    have c2 := cell_of_row wd _ 2 _ _ _ hI3
    have f2 := frozen_of_row hI3 2
    have c1 := cell_of_row (wd.setCell ⟨w.heap.size + 1, 2, none⟩ (.int .i64 (kd : Int))) _ 1 _ _ _ (row_setCell (i := 2) hI3 _)
    simp only [List.getElem?_toArray, List.getElem?_cons_zero, List.getElem?_cons_succ, List.setIfInBounds_toArray, List.set_cons_zero, List.set_cons_succ] at c2 c1
    go_wp2_with fail
    refine (HL.out _).mono ?_
    rintro e w6 ⟨rfl, rfl⟩
    have hI4 := row_setCell (i := 2) hI3 (.int .i64 (kd : Int))
    have hR4 := row_setCell_other (i := 2) hR3 (by omega : w.heap.size ≠ w.heap.size + 1) (.int .i64 (kd : Int))
    have hB4 := hB3.setCell (p := ⟨w.heap.size + 1, 2, none⟩) (by simp) (.int .i64 (kd : Int))
    simp only [List.setIfInBounds_toArray, List.set_cons_zero, List.set_cons_succ] at hI4
    clear HL hI3 hR3 hB3 c1 c2 f2
    generalize wd.setCell ⟨w.heap.size + 1, 2, none⟩ (.int .i64 (kd : Int)) = we at *
    have c3 := cell_of_row we _ 3 _ _ _ hI4
    have f3 := frozen_of_row hI4 3
    simp only [List.getElem?_toArray, List.getElem?_cons_zero, List.getElem?_cons_succ] at c3
    go_wp2_with fail
    refine (HC.out _).mono ?_
    rintro e w7 ⟨rfl, rfl⟩
    have hI5 := row_setCell (i := 3) hI4 (.int .i64 (ln : Int))
    have hR5 := row_setCell_other (i := 3) hR4 (by omega : w.heap.size ≠ w.heap.size + 1) (.int .i64 (ln : Int))
    have hB5 := hB4.setCell (p := ⟨w.heap.size + 1, 3, none⟩) (by simp) (.int .i64 (ln : Int))
    simp only [List.setIfInBounds_toArray, List.set_cons_zero, List.set_cons_succ] at hI5
    clear HC hI4 hR4 hB4 c3 f3
    generalize we.setCell ⟨w.heap.size + 1, 3, none⟩ (.int .i64 (ln : Int)) = wf at *
    have c5 := cell_of_row wf _ 5 _ _ _ hI5
    have f5 := frozen_of_row hI5 5
    simp only [List.getElem?_toArray, List.getElem?_cons_zero, List.getElem?_cons_succ] at c5
    have hI6 := row_setCell (i := 5) hI5 (.int .i64 (cl : Int))
    have hR6 := row_setCell_other (i := 5) hR5 (by omega : w.heap.size ≠ w.heap.size + 1) (.int .i64 (cl : Int))
    have hB6 := hB5.setCell (p := ⟨w.heap.size + 1, 5, none⟩) (by simp) (.int .i64 (cl : Int))
    simp only [List.setIfInBounds_toArray, List.set_cons_zero, List.set_cons_succ] at hI6
    clear hI5 hR5 hB5
    go_wp2_with (first | ((with_reducible show wpList _ _ _ (⟨_, .load 36 (.tmp 5), _, _, _, none⟩ :: _) _ _); refine wpList_load_row rfl 36 (.tmp 5) rfl (w.heap.size + 1) ?q1 36 _ (0, 0) _ hI6 Tryd.underlying36 rfl sizeInst ?_; (case q1 => rfl)) | ((with_reducible show wpList _ _ _ (⟨none, .store 36 (.tmp 2) (.tmp 54), _, _, _, none⟩ :: _) _ _); refine wpList_store_row rfl 36 (.tmp 2) (.tmp 54) rfl w.heap.size #[.int .i64 (o : Int), .int .i64 (m : Int), .int .i64 (kd : Int), .int .i64 (ln : Int), .int .i64 0, .int .i64 (cl : Int)] rfl rfl 36 _ hR6 sizeInst rfl (by kernel_rfl) ?_; obtain ⟨w9, e9, hR9, hB9⟩ := box_stored hB6 (Nat.le_refl _) hR6 #[.int .i64 (o : Int), .int .i64 (m : Int), .int .i64 (kd : Int), .int .i64 (ln : Int), .int .i64 0, .int .i64 (cl : Int)]; rw [e9]; clear e9 hR6 hB6))
    exact bodyPost_ret (results_cell_row rfl _ _ w.heap.size 36 _ (0, 0) _ rfl hR9 Tryd.underlying36 rfl sizeInst) rfl ⟨rfl, hB9⟩
  · skip
    go_loopw [6] (fun i wr => ∃ k : Nat, k ≤ 13 ∧ i = .int .i64 k ∧ wr.heap[w.heap.size + 1]? = some (.cells #[.int .i64 (o : Int), .int .i64 (modeAcc s4.data.toList k : Int), .int .i64 0, .int .i64 0, .int .i64 0, .int .i64 0] 36 (0, 0)) ∧ wr.heap[w.heap.size]? = some (.cells #[.int .i64 0, .int .i64 0, .int .i64 0, .int .i64 0, .int .i64 0, .int .i64 0] 36 (0, 0)) ∧ wr.heap[4]? = some (.cells lettersA tt fr) ∧ Below w.heap.size w wr) (fun i _ => 13 - (intOf i).toNat)
    case atStart => exact ⟨0, by omega, rfl, hI1, hR1, hL1, hB1⟩
    case round =>
      obtain ⟨k, hk, rfl, hI, hR, hLw, hB⟩ := hrel
      clear hI1 hR1 hL1 hB1
      by_cases hlt : k < 13
      · have cl := (cell_of_row wr _ k _ _ _ hLw).trans (letter_cell k hlt)
        obtain ⟨lt, hlt2⟩ : ∃ lt, lettersL.getD k ⟨#[]⟩ = lt := ⟨_, rfl⟩
        rw [hlt2] at cl
        have hnext : modeAcc s4.data.toList (k + 1) = if (lt.toList == s4.toList) = true then k else modeAcc s4.data.toList k := by rw [← eqS_b, ← hlt2]; rfl
        have HNX := Lib.hid hnext; clear hnext
        by_cases he : (lt.toList == s4.toList) = true
        · go_wp2_with fail
          go_quiet (fail)
          have hn2 : modeAcc s4.data.toList (k + 1) = k := by rw [HNX.out, if_pos he]
          clear HNX he
          have hIq : (wr.drewN nq).heap[w.heap.size + 1]? = _ := hI
          have hRq : (wr.drewN nq).heap[w.heap.size]? = _ := hR
          have hLq : (wr.drewN nq).heap[4]? = _ := hLw
          have hBq : Below w.heap.size w (wr.drewN nq) := ⟨hB.os, hB.tape, hB.output, hB.size, hB.block⟩
          clear hI hR hLw hB cl
          generalize wr.drewN nq = wq at *
          have hI3 := row_setCell (i := 1) hIq (.int .i64 (k : Int))
          have hR3 := row_setCell_other (i := 1) hRq (by omega : w.heap.size ≠ w.heap.size + 1) (.int .i64 (k : Int))
          have hL3 := row_setCell_other (i := 1) hLq (by omega : 4 ≠ w.heap.size + 1) (.int .i64 (k : Int))
          have hB3 := hBq.setCell (p := ⟨w.heap.size + 1, 1, none⟩) (by simp) (.int .i64 (k : Int))
          simp only [List.setIfInBounds_toArray, List.set_cons_zero, List.set_cons_succ] at hI3
          have c1 := cell_of_row wq _ 1 _ _ _ hIq
          have f1 := frozen_of_row hIq 1
          simp only [List.getElem?_toArray, List.getElem?_cons_zero, List.getElem?_cons_succ] at c1
          go_wp2_with fail
          go_roundw
          case rel => exact ⟨k + 1, by omega, by go_num, by rw [hn2]; exact hI3, hR3, hL3, hB3⟩
          case measure => simp [intOf]; omega
        · have he' : (lt.toList == s4.toList) = false := by simpa using he
          have hn2 : modeAcc s4.data.toList (k + 1) = modeAcc s4.data.toList k := by rw [HNX.out, if_neg he]
          clear HNX he
          go_wp2_with fail
          go_quiet (fail)
          go_wp2_with fail
          go_roundw
          case rel => exact ⟨k + 1, by omega, by go_num, by rw [hn2]; exact hI, hR, hLw, ⟨hB.os, hB.tape, hB.output, hB.size, hB.block⟩⟩
          case measure => simp [intOf]; omega
      · obtain rfl : k = 13 := by omega
        have hI2 := hI
        rw [HM2.out] at hI2
        have hR1 := hR; have hL1 := hLw; have hB1 := hB
        clear hI HM2 h4 hR hLw hB
        go_wp2_with fail
        generalize wr = wt at *
        have c1 := cell_of_row wt _ 1 _ _ _ hI2
        simp only [List.getElem?_toArray, List.getElem?_cons_zero, List.getElem?_cons_succ] at c1
        go_still_tail 5, (by kernel_rfl)
        change wpList _ _ _ _ _ wt.drew
        clear c1
        go_wp2_with fail
        refine (HK.out _).mono ?_
        rintro e w5 ⟨rfl, rfl⟩
        have hI3 : wt.drew.heap[w.heap.size + 1]? = _ := hI2
        have hR3 : wt.drew.heap[w.heap.size]? = _ := hR1
        have hB3 : Below w.heap.size w wt.drew := hB1.drew
        clear HK hI2 hR1 hB1 hL1
        generalize wt.drew = wd at *
        have c2 := cell_of_row wd _ 2 _ _ _ hI3
        have f2 := frozen_of_row hI3 2
        have c1 := cell_of_row (wd.setCell ⟨w.heap.size + 1, 2, none⟩ (.int .i64 (kd : Int))) _ 1 _ _ _ (row_setCell (i := 2) hI3 _)
        simp only [List.getElem?_toArray, List.getElem?_cons_zero, List.getElem?_cons_succ, List.setIfInBounds_toArray, List.set_cons_zero, List.set_cons_succ] at c2 c1
        go_wp2_with fail
        refine (HL.out _).mono ?_
        rintro e w6 ⟨rfl, rfl⟩
        have hI4 := row_setCell (i := 2) hI3 (.int .i64 (kd : Int))
        have hR4 := row_setCell_other (i := 2) hR3 (by omega : w.heap.size ≠ w.heap.size + 1) (.int .i64 (kd : Int))
        have hB4 := hB3.setCell (p := ⟨w.heap.size + 1, 2, none⟩) (by simp) (.int .i64 (kd : Int))
        simp only [List.setIfInBounds_toArray, List.set_cons_zero, List.set_cons_succ] at hI4
        clear HL hI3 hR3 hB3 c1 c2 f2
        generalize wd.setCell ⟨w.heap.size + 1, 2, none⟩ (.int .i64 (kd : Int)) = we at *
        have c3 := cell_of_row we _ 3 _ _ _ hI4
        have f3 := frozen_of_row hI4 3
        simp only [List.getElem?_toArray, List.getElem?_cons_zero, List.getElem?_cons_succ] at c3
        go_wp2_with fail
        refine (HC.out _).mono ?_
        rintro e w7 ⟨rfl, rfl⟩
        have hI5 := row_setCell (i := 3) hI4 (.int .i64 (ln : Int))
        have hR5 := row_setCell_other (i := 3) hR4 (by omega : w.heap.size ≠ w.heap.size + 1) (.int .i64 (ln : Int))
        have hB5 := hB4.setCell (p := ⟨w.heap.size + 1, 3, none⟩) (by simp) (.int .i64 (ln : Int))
        simp only [List.setIfInBounds_toArray, List.set_cons_zero, List.set_cons_succ] at hI5
        clear HC hI4 hR4 hB4 c3 f3
        generalize we.setCell ⟨w.heap.size + 1, 3, none⟩ (.int .i64 (ln : Int)) = wf at *
        have c5 := cell_of_row wf _ 5 _ _ _ hI5
        have f5 := frozen_of_row hI5 5
        simp only [List.getElem?_toArray, List.getElem?_cons_zero, List.getElem?_cons_succ] at c5
        have hI6 := row_setCell (i := 5) hI5 (.int .i64 (cl : Int))
        have hR6 := row_setCell_other (i := 5) hR5 (by omega : w.heap.size ≠ w.heap.size + 1) (.int .i64 (cl : Int))
        have hB6 := hB5.setCell (p := ⟨w.heap.size + 1, 5, none⟩) (by simp) (.int .i64 (cl : Int))
        simp only [List.setIfInBounds_toArray, List.set_cons_zero, List.set_cons_succ] at hI6
        clear hI5 hR5 hB5
        go_wp2_with (first | ((with_reducible show wpList _ _ _ (⟨_, .load 36 (.tmp 5), _, _, _, none⟩ :: _) _ _); refine wpList_load_row rfl 36 (.tmp 5) rfl (w.heap.size + 1) ?q1 36 _ (0, 0) _ hI6 Tryd.underlying36 rfl sizeInst ?_; (case q1 => rfl)) | ((with_reducible show wpList _ _ _ (⟨none, .store 36 (.tmp 2) (.tmp 54), _, _, _, none⟩ :: _) _ _); refine wpList_store_row rfl 36 (.tmp 2) (.tmp 54) rfl w.heap.size #[.int .i64 (o : Int), .int .i64 (m : Int), .int .i64 (kd : Int), .int .i64 (ln : Int), .int .i64 0, .int .i64 (cl : Int)] rfl rfl 36 _ hR6 sizeInst rfl (by kernel_rfl) ?_; obtain ⟨w9, e9, hR9, hB9⟩ := box_stored hB6 (Nat.le_refl _) hR6 #[.int .i64 (o : Int), .int .i64 (m : Int), .int .i64 (kd : Int), .int .i64 (ln : Int), .int .i64 0, .int .i64 (cl : Int)]; rw [e9]; clear e9 hR6 hB6))
        exact bodyPost_ret (results_cell_row rfl _ _ w.heap.size 36 _ (0, 0) _ rfl hR9 Tryd.underlying36 rfl sizeInst) rfl ⟨rfl, hB9⟩
  · skip
    have hI2 : (w2.setCell ⟨w.heap.size + 1, 0, none⟩ (.int .i64 (o : Int))).heap[w.heap.size + 1]? = some (.cells #[.int .i64 (o : Int), .int .i64 (m : Int), .int .i64 0, .int .i64 0, .int .i64 0, .int .i64 0] 36 (0, 0)) := by rw [← HM2.out]; exact hI1
    clear hI1 HM2 h4
    generalize w2.setCell ⟨w.heap.size + 1, 0, none⟩ (.int .i64 (o : Int)) = wt at *
    have c1 := cell_of_row wt _ 1 _ _ _ hI2
    simp only [List.getElem?_toArray, List.getElem?_cons_zero, List.getElem?_cons_succ] at c1
    go_still_tail 5, (by kernel_rfl)
    change wpList _ _ _ _ _ wt.drew
    clear c1
    go_wp2_with fail
    refine (HK.out _).mono ?_
    rintro e w5 ⟨rfl, rfl⟩
    have hI3 : wt.drew.heap[w.heap.size + 1]? = _ := hI2
    have hR3 : wt.drew.heap[w.heap.size]? = _ := hR1
    have hB3 : Below w.heap.size w wt.drew := hB1.drew
    clear HK hI2 hR1 hB1 hL1
    generalize wt.drew = wd at *
    have c2 := cell_of_row wd _ 2 _ _ _ hI3
    have f2 := frozen_of_row hI3 2
    have c1 := cell_of_row (wd.setCell ⟨w.heap.size + 1, 2, none⟩ (.int .i64 (kd : Int))) _ 1 _ _ _ (row_setCell (i := 2) hI3 _)
    simp only [List.getElem?_toArray, List.getElem?_cons_zero, List.getElem?_cons_succ, List.setIfInBounds_toArray, List.set_cons_zero, List.set_cons_succ] at c2 c1
    go_wp2_with fail
    refine (HL.out _).mono ?_
    rintro e w6 ⟨rfl, rfl⟩
    have hI4 := row_setCell (i := 2) hI3 (.int .i64 (kd : Int))
    have hR4 := row_setCell_other (i := 2) hR3 (by omega : w.heap.size ≠ w.heap.size + 1) (.int .i64 (kd : Int))
    have hB4 := hB3.setCell (p := ⟨w.heap.size + 1, 2, none⟩) (by simp) (.int .i64 (kd : Int))
    simp only [List.setIfInBounds_toArray, List.set_cons_zero, List.set_cons_succ] at hI4
    clear HL hI3 hR3 hB3 c1 c2 f2
    generalize wd.setCell ⟨w.heap.size + 1, 2, none⟩ (.int .i64 (kd : Int)) = we at *
    have c3 := cell_of_row we _ 3 _ _ _ hI4
    have f3 := frozen_of_row hI4 3
    simp only [List.getElem?_toArray, List.getElem?_cons_zero, List.getElem?_cons_succ] at c3
    go_wp2_with fail
    refine (HC.out _).mono ?_
    rintro e w7 ⟨rfl, rfl⟩
    have hI5 := row_setCell (i := 3) hI4 (.int .i64 (ln : Int))
    have hR5 := row_setCell_other (i := 3) hR4 (by omega : w.heap.size ≠ w.heap.size + 1) (.int .i64 (ln : Int))
    have hB5 := hB4.setCell (p := ⟨w.heap.size + 1, 3, none⟩) (by simp) (.int .i64 (ln : Int))
    simp only [List.setIfInBounds_toArray, List.set_cons_zero, List.set_cons_succ] at hI5
    clear HC hI4 hR4 hB4 c3 f3
    generalize we.setCell ⟨w.heap.size + 1, 3, none⟩ (.int .i64 (ln : Int)) = wf at *
    have c5 := cell_of_row wf _ 5 _ _ _ hI5
    have f5 := frozen_of_row hI5 5
    simp only [List.getElem?_toArray, List.getElem?_cons_zero, List.getElem?_cons_succ] at c5
    have hI6 := row_setCell (i := 5) hI5 (.int .i64 (cl : Int))
    have hR6 := row_setCell_other (i := 5) hR5 (by omega : w.heap.size ≠ w.heap.size + 1) (.int .i64 (cl : Int))
    have hB6 := hB5.setCell (p := ⟨w.heap.size + 1, 5, none⟩) (by simp) (.int .i64 (cl : Int))
    simp only [List.setIfInBounds_toArray, List.set_cons_zero, List.set_cons_succ] at hI6
    clear hI5 hR5 hB5
    go_wp2_with (first | ((with_reducible show wpList _ _ _ (⟨_, .load 36 (.tmp 5), _, _, _, none⟩ :: _) _ _); refine wpList_load_row rfl 36 (.tmp 5) rfl (w.heap.size + 1) ?q1 36 _ (0, 0) _ hI6 Tryd.underlying36 rfl sizeInst ?_; (case q1 => rfl)) | ((with_reducible show wpList _ _ _ (⟨none, .store 36 (.tmp 2) (.tmp 54), _, _, _, none⟩ :: _) _ _); refine wpList_store_row rfl 36 (.tmp 2) (.tmp 54) rfl w.heap.size #[.int .i64 (o : Int), .int .i64 (m : Int), .int .i64 (kd : Int), .int .i64 (ln : Int), .int .i64 0, .int .i64 (cl : Int)] rfl rfl 36 _ hR6 sizeInst rfl (by kernel_rfl) ?_; obtain ⟨w9, e9, hR9, hB9⟩ := box_stored hB6 (Nat.le_refl _) hR6 #[.int .i64 (o : Int), .int .i64 (m : Int), .int .i64 (kd : Int), .int .i64 (ln : Int), .int .i64 0, .int .i64 (cl : Int)]; rw [e9]; clear e9 hR6 hB6))
    exact bodyPost_ret (results_cell_row rfl _ _ w.heap.size 36 _ (0, 0) _ rfl hR9 Tryd.underlying36 rfl sizeInst) rfl ⟨rfl, hB9⟩
end Go.Proofs.YtknfphgncoojeaaDoor

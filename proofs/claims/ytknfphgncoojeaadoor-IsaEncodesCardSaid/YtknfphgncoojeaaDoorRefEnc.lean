/- tandemref4.Encode: the contract, and that it is isa's. -/
import Derived.Test.YtknfphgncoojeaaDoorRefRow
import Derived.Test.YtknfphgncoojeaaDoorIsaEnc
namespace Go.Proofs.YtknfphgncoojeaaDoor
open Go.RowKit
def hitC (o m : Int) (cl c : Nat) : Bool := ((opT c : Int) == o && (modeT c : Int) == m) && classT c == cl
def clsOk (c : Nat) : Bool := (fillB c == (classT c == 3)) && ((classT c == 2) == (opT c == 69)) && decide (classT c ≤ 3)
theorem clsOk_all : (List.range 256).all clsOk = true := by decide +kernel
theorem cls_at (c : Nat) (h : c < 256) : fillB c = (classT c == 3) ∧ (classT c == 2) = (opT c == 69) ∧ classT c ≤ 3 := by
  have := clsOk_all
  rw [List.all_eq_true] at this
  have := this c (by simpa using h)
  unfold clsOk at this
  simp only [Bool.and_eq_true, decide_eq_true_eq, beq_iff_eq] at this
  exact ⟨this.1.1, this.1.2, this.2⟩
theorem enc_hit {o m : Int} (h0 : 0 ≤ o) (h1 : o < 70) {k i : Nat} (hk : k < 3) (hi : i < 256) (hh : hitC o m k i = true) (hp : ∀ k', k' < k → ∀ j, j < 256 → hitC o m k' j = false) (hb : ∀ j, j < i → hitC o m k j = false) : encT o m = (i, 0) := by
  obtain ⟨f1, f2, f3⟩ := cls_at i hi
  have hh' := hh
  unfold hitC at hh
  simp only [Bool.and_eq_true, beq_iff_eq] at hh
  obtain ⟨⟨a1, a2⟩, a3⟩ := hh
  have hit : hitB o m i = true := by
    unfold hitB
    rw [f1, a3]
    simp only [Bool.and_eq_true, beq_iff_eq]
    refine ⟨⟨a1, a2⟩, ?_⟩
    have : (k == 3) = false := by rw [beq_eq_false_iff_ne]; omega
    rw [this]; rfl
  unfold encT
  rw [if_pos ⟨h0, h1⟩]
  rcases Nat.eq_zero_or_pos k with rfl | hpos
  · rw [find_first hi (p := docB o m) (by unfold docB; rw [hit, a3]; rfl) ?_]
    intro j hj
    have := hb j hj
    rw [Bool.eq_false_iff] at this ⊢
    intro hd
    apply this
    unfold docB hitB at hd
    unfold hitC
    simp only [Bool.and_eq_true, beq_iff_eq] at hd ⊢
    exact ⟨hd.1.1, hd.2⟩
  · rw [find_none (p := docB o m) ?_]
    · rw [find_first hi hit ?_]
      intro j hj
      rw [Bool.eq_false_iff]
      intro hd
      obtain ⟨g1, g2, g3⟩ := cls_at j (by omega)
      unfold hitB at hd
      rw [g1] at hd
      simp only [Bool.and_eq_true, beq_iff_eq, Bool.not_eq_true', beq_eq_false_iff_ne, ne_eq] at hd
      have hop : opT j = opT i := by have := hd.1.1; omega
      have hz := hp 0 hpos j (by omega)
      have hq := hb j hj
      unfold hitC at hz hq
      rw [hd.1.1, hd.1.2] at hz hq
      simp only [BEq.rfl, Bool.true_and, beq_eq_false_iff_ne, ne_eq] at hz hq
      rw [hop, ← f2] at g2
      have h3 := hd.2
      rw [a3] at g2
      by_cases e2 : k = 2
      · rw [e2] at g2 hq
        simp only [BEq.rfl, beq_iff_eq] at g2
        exact hq g2
      · have : (k == 2) = false := by rw [beq_eq_false_iff_ne]; exact e2
        rw [this, beq_eq_false_iff_ne] at g2
        omega
    · intro j hj
      have := hp 0 hpos j hj
      rw [Bool.eq_false_iff] at this ⊢
      intro hd
      apply this
      unfold docB hitB at hd
      unfold hitC
      simp only [Bool.and_eq_true, beq_iff_eq] at hd ⊢
      exact ⟨hd.1.1, hd.2⟩
theorem enc_miss {o m : Int} (h0 : 0 ≤ o) (h1 : o < 70) (hp : ∀ k', k' < 3 → ∀ j, j < 256 → hitC o m k' j = false) : encT o m = (0, 41) := by
  have hno : ∀ j, j < 256 → hitB o m j = false := by
    intro j hj
    rw [Bool.eq_false_iff]
    intro hd
    obtain ⟨g1, g2, g3⟩ := cls_at j hj
    unfold hitB at hd
    rw [g1] at hd
    simp only [Bool.and_eq_true, beq_iff_eq, Bool.not_eq_true', beq_eq_false_iff_ne, ne_eq] at hd
    have hz := hp (classT j) (by omega) j hj
    unfold hitC at hz
    rw [hd.1.1, hd.1.2] at hz
    simp at hz
  unfold encT
  rw [if_pos ⟨h0, h1⟩, find_none (p := docB o m) (fun j hj => by unfold docB; rw [hno j hj]; rfl), find_none hno]

theorem inv_step {o m : Int} {k i : Nat} (h : ∀ j, j < i → hitC o m k j = false) (hi : hitC o m k i = false) : ∀ j, j < i + 1 → hitC o m k j = false := by
  intro j hj
  rcases Nat.lt_or_ge j i with h' | h'
  · exact h j h'
  · obtain rfl : j = i := by omega
    exact hi
set_option maxRecDepth 100000 in
set_option maxHeartbeats 4000000 in
theorem refenc_no (o m : Int) (h : o < 0 ∨ 70 ≤ o) (w : World) :
    Calls Tryd.prog 14 #[.int .i64 o, .int .i64 m] w fun e w' => e = .returned (.tuple #[.int .u8 0, .int .i64 40]) ∧ Below w.heap.size w w' := by
  go_enter Tryd.func14, Tryd.ntmps14
  go_wp2_with fail
  refine (refName_no o h _).mono ?_
  rintro e w1 ⟨rfl, rfl⟩
  go_wp2_with fail
  go_ret2
  exact ⟨rfl, Below.refl _ _⟩
set_option maxRecDepth 100000 in
set_option maxHeartbeats 8000000 in
theorem refenc_yes (o m : Int) (h0 : 0 ≤ o) (h1 : o < 70) (w : World) (tt : TypeId) (fr : Nat × Nat) (hL : w.heap[4]? = some (.cells lettersA tt fr)) :
    Calls Tryd.prog 14 #[.int .i64 o, .int .i64 m] w fun e w' => e = .returned (.tuple #[.int .u8 ((encT o m).1 : Int), .int .i64 ((encT o m).2 : Int)]) ∧ Below w.heap.size w w' := by
  have hne := nameOf_ne o h0 h1
  obtain ⟨rc, re, hre⟩ : ∃ rc re, encT o m = (rc, re) := ⟨_, _, rfl⟩
  rw [hre]
  have HRE := Lib.hid hre; clear hre
  go_enter Tryd.func14, Tryd.ntmps14
  go_wp2_with fail
  refine (refName_yes o h0 h1 _).mono ?_
  rintro e w1 ⟨rfl, rfl⟩
  go_wp2_with fail
  clear hne
  go_loopw [7, 8, 9] (fun c _ _ wr => ∃ k : Nat, k ≤ 3 ∧ c = .int .i64 k ∧ Hid (∀ k', k' < k → ∀ j, j < 256 → hitC o m k' j = false) ∧ wr.heap[4]? = some (.cells lettersA tt fr) ∧ Below w.heap.size w wr) (fun c _ _ _ => 3 - (intOf c).toNat)
  case atStart => exact ⟨0, by omega, rfl, Lib.hid (fun _ h => by omega), hL, Below.refl _ _⟩
  case round =>
    obtain ⟨k, hk, rfl, HP, hLw, hB⟩ := hrel
    by_cases hlt : k < 3
    · go_wp2_with fail
      generalize Value.bool (decide ((k : Int) < 3)) = vb
      go_loopw [8] (fun c wv => ∃ i : Nat, i ≤ 256 ∧ c = .int .i64 i ∧ Hid (∀ j, j < i → hitC o m k j = false) ∧ wv.heap[4]? = some (.cells lettersA tt fr) ∧ Below w.heap.size w wv) (fun c _ => 256 - (intOf c).toNat)
      case atStart => exact ⟨0, by omega, rfl, Lib.hid (fun _ h => by omega), hLw, hB⟩
      case round =>
        clear hLw hB
        obtain ⟨i, hi, rfl, HI, hLw, hB⟩ := hrel
        by_cases hlt2 : i < 256
        · have hw : IntKind.u8.wrap (i : Int) = (i : Int) := by rw [IntKind.wrap_u8]; omega
          go_wp2_with fail
          refine (refrow_any i hlt2 _ tt fr hLw).mono ?_
          rintro e w5 ⟨rfl, hb⟩
          have hL5 := (hb.block _ (lt_of_row hLw)).trans hLw
          have hB5 := hB.trans (hb.mono hB.size)
          clear hLw hB hb
          have hz := heap_alloc_new w5 (.cells #[.int .i64 0, .int .i64 0, .int .i64 0, .int .i64 0, .int .i64 0, .int .i64 0] 36)
          have hLa := row_alloc hL5 (.cells (instV i) 36)
          have hBa := hB5.alloc hB5.size (.cells (instV i) 36)
          have hZ := heap_alloc_new w5 (.cells (instV i) 36)
          clear hL5 hB5
          obtain ⟨w6, hw6⟩ : ∃ w6, w5.alloc (.cells (instV i) 36) = w6 := ⟨_, rfl⟩
          rw [hw6] at hLa hBa hZ
          have c0 := (cell_of_row _ _ 0 _ _ _ hZ).trans (show (instV i)[0]? = some (.int .i64 (opT i : Int)) from rfl)
          have c1 := (cell_of_row _ _ 1 _ _ _ hZ).trans (show (instV i)[1]? = some (.int .i64 (modeT i : Int)) from rfl)
          have c5 := (cell_of_row _ _ 5 _ _ _ hZ).trans (show (instV i)[5]? = some (.int .i64 (classT i : Int)) from rfl)
          clear hZ
          by_cases hh : hitC o m k i = true
          · have e0 : ((opT i : Int) == o) = true := by unfold hitC at hh; simp only [Bool.and_eq_true] at hh; exact hh.1.1
            have e1 : ((modeT i : Int) == m) = true := by unfold hitC at hh; simp only [Bool.and_eq_true] at hh; exact hh.1.2
            have e2 : ((classT i : Int) == (k : Int)) = true := by unfold hitC at hh; simp only [Bool.and_eq_true, beq_iff_eq] at hh; rw [beq_iff_eq, hh.2]
            have hend := enc_hit h0 h1 hlt hlt2 hh HP.out HI.out
            rw [HRE.out, Prod.mk.injEq] at hend
            have HEND := Lib.hid hend; clear hend hh
            go_wp2_with ((with_reducible show wpList _ _ _ (⟨none, .store 36 (.tmp 9) (.tmp 24), _, _, _, none⟩ :: _) _ _); refine wpList_store_row rfl 36 (.tmp 9) (.tmp 24) rfl w5.heap.size (instV i) rfl rfl 36 _ hz sizeInst rfl (by kernel_rfl) ?_; rw [World.setRow_alloc_new, hw6]; clear hz hw6)
            go_ret2
            exact ⟨by rw [HEND.out.1, HEND.out.2]; rfl, hBa⟩
          · have hm : hitC o m k i = false := by simpa using hh
            have HM := Lib.hid hm; clear hm
            by_cases e0 : ((opT i : Int) == o) = true
            · by_cases e1 : ((modeT i : Int) == m) = true
              · have e2 : ((classT i : Int) == (k : Int)) = false := by
                  rw [Bool.eq_false_iff]
                  intro hc
                  apply hh
                  unfold hitC
                  simp only [Bool.and_eq_true, beq_iff_eq] at hc e0 e1 ⊢
                  exact ⟨⟨e0, e1⟩, by omega⟩
                clear hh
                go_wp2_with ((with_reducible show wpList _ _ _ (⟨none, .store 36 (.tmp 9) (.tmp 24), _, _, _, none⟩ :: _) _ _); refine wpList_store_row rfl 36 (.tmp 9) (.tmp 24) rfl w5.heap.size (instV i) rfl rfl 36 _ hz sizeInst rfl (by kernel_rfl) ?_; rw [World.setRow_alloc_new, hw6]; clear hz hw6)
                go_roundw
                case rel => exact ⟨i + 1, by omega, by go_num, Lib.hid (inv_step HI.out HM.out), hLa, hBa⟩
                case measure => simp [intOf]; omega
              · have e1' : ((modeT i : Int) == m) = false := by simpa using e1
                clear hh e1
                go_wp2_with ((with_reducible show wpList _ _ _ (⟨none, .store 36 (.tmp 9) (.tmp 24), _, _, _, none⟩ :: _) _ _); refine wpList_store_row rfl 36 (.tmp 9) (.tmp 24) rfl w5.heap.size (instV i) rfl rfl 36 _ hz sizeInst rfl (by kernel_rfl) ?_; rw [World.setRow_alloc_new, hw6]; clear hz hw6)
                go_roundw
                case rel => exact ⟨i + 1, by omega, by go_num, Lib.hid (inv_step HI.out HM.out), hLa, hBa⟩
                case measure => simp [intOf]; omega
            · have e0' : ((opT i : Int) == o) = false := by simpa using e0
              clear hh e0
              go_wp2_with ((with_reducible show wpList _ _ _ (⟨none, .store 36 (.tmp 9) (.tmp 24), _, _, _, none⟩ :: _) _ _); refine wpList_store_row rfl 36 (.tmp 9) (.tmp 24) rfl w5.heap.size (instV i) rfl rfl 36 _ hz sizeInst rfl (by kernel_rfl) ?_; rw [World.setRow_alloc_new, hw6]; clear hz hw6)
              go_roundw
              case rel => exact ⟨i + 1, by omega, by go_num, Lib.hid (inv_step HI.out HM.out), hLa, hBa⟩
              case measure => simp [intOf]; omega
        · obtain rfl : i = 256 := by omega
          go_wp2_with fail
          go_roundw
          case rel =>
            refine ⟨k + 1, by omega, by go_num, Lib.hid (fun k' hk' j hj => ?_), hLw, hB⟩
            rcases Nat.lt_or_ge k' k with h' | h'
            · exact HP.out k' h' j hj
            · obtain rfl : k' = k := by omega
              exact HI.out j hj
          case measure => simp [intOf]; omega
    · obtain rfl : k = 3 := by omega
      go_wp2_with fail
      go_ret2
      have := enc_miss h0 h1 HP.out
      rw [HRE.out, Prod.mk.injEq] at this
      exact ⟨by rw [this.1, this.2]; rfl, hB⟩
end Go.Proofs.YtknfphgncoojeaaDoor

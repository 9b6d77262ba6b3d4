/- IsaCounts: the law's walk. -/
import Derived.Test.YtknfphgncoojeaaDoorIsaCntLaw
namespace Go.Proofs.YtknfphgncoojeaaDoor
open Go.RowKit
theorem eqi_arr4 (w : World) : (Op.equalIn 10000 43 (.agg #[.int .i64 151, .int .i64 86, .int .i64 12, .int .i64 7]) (.agg #[.int .i64 151, .int .i64 86, .int .i64 12, .int .i64 7])).run Tryd.prog w = .ok true w := by kernel_rfl
structure CntH (w : World) (k : Nat) (tF tN : TypeId) (fF fN : Nat × Nat) (wr : World) : Prop where
  cls : wr.heap[w.heap.size]? = some (.cells (arrT classT 4 k) 43 (0, 0))
  knd : wr.heap[w.heap.size + 1]? = some (.cells (arrT kindT 13 k) 44 (0, 0))
  mde : wr.heap[w.heap.size + 1 + 1]? = some (.cells (arrT modeT 13 k) 44 (0, 0))
  fill : wr.heap[3]? = some (.cells fillA tF fF)
  len : wr.heap[0]? = some (.cells lenA tN fN)
  below : Below w.heap.size w wr
theorem CntH.called {w : World} {k : Nat} {tF tN : TypeId} {fF fN : Nat × Nat} {wr w' : World} (h : CntH w k tF tN fF fN wr) (hb : Below wr.heap.size wr w') : CntH w k tF tN fF fN w' :=
  ⟨(hb.block _ (lt_of_row h.cls)).trans h.cls, (hb.block _ (lt_of_row h.knd)).trans h.knd, (hb.block _ (lt_of_row h.mde)).trans h.mde, (hb.block _ (lt_of_row h.fill)).trans h.fill, (hb.block _ (lt_of_row h.len)).trans h.len, h.below.trans (hb.mono h.below.size)⟩
theorem CntH.new {w : World} {k : Nat} {tF tN : TypeId} {fF fN : Nat × Nat} {wr : World} (h : CntH w k tF tN fF fN wr) (o : Obj) : CntH w k tF tN fF fN (wr.alloc o) :=
  ⟨row_alloc h.cls o, row_alloc h.knd o, row_alloc h.mde o, row_alloc h.fill o, row_alloc h.len o, h.below.alloc h.below.size o⟩
theorem CntH.step {w : World} {k : Nat} {tF tN : TypeId} {fF fN : Nat × Nat} {wr : World} (h : CntH w k tF tN fF fN wr) (hF : 3 < w.heap.size) (h4 : classT k < 4) (hk : kindT k < 13) (hm : modeT k < 13) :
    CntH w (k + 1) tF tN fF fN (((wr.setCell ⟨w.heap.size, classT k, none⟩ (.int .i64 ((cntT classT (classT k) k : Int) + 1))).setCell ⟨w.heap.size + 1, kindT k, none⟩ (.int .i64 ((cntT kindT (kindT k) k : Int) + 1))).setCell ⟨w.heap.size + 1 + 1, modeT k, none⟩ (.int .i64 ((cntT modeT (modeT k) k : Int) + 1))) := by
  refine ⟨?_, ?_, ?_, ?_, ?_, ?_⟩
  · rw [← arrT_step classT 4 k h4]
    exact row_setCell_other (row_setCell_other (row_setCell h.cls _) (by omega) _) (by omega) _
  · rw [← arrT_step kindT 13 k hk]
    exact row_setCell_other (row_setCell (row_setCell_other h.knd (by omega) _) _) (by omega) _
  · rw [← arrT_step modeT 13 k hm]
    exact row_setCell (row_setCell_other (row_setCell_other h.mde (by omega) _) (by omega) _) _
  · exact row_setCell_other (row_setCell_other (row_setCell_other h.fill (by omega) _) (by omega) _) (by omega) _
  · exact row_setCell_other (row_setCell_other (row_setCell_other h.len (by omega) _) (by omega) _) (by omega) _
  · exact ((h.below.setCell (p := ⟨w.heap.size, classT k, none⟩) (by simp) _).setCell (p := ⟨w.heap.size + 1, kindT k, none⟩) (by simp) _).setCell (p := ⟨w.heap.size + 1 + 1, modeT k, none⟩) (by simp; omega) _
set_option maxRecDepth 100000 in
set_option maxHeartbeats 16000000 in
theorem isaCounts_walk (w : World) (tF tN : TypeId) (fF fN : Nat × Nat) (hF : w.heap[3]? = some (.cells fillA tF fF)) (hN : w.heap[0]? = some (.cells lenA tN fN)) :
    Calls Tryd.prog 7 #[] w fun e w' => e = .returned (.bool true) ∧ Below w.heap.size w w' := by
  go_enter Tryd.func7, Tryd.ntmps7
  have hlF := lt_of_row hF
  have hlN := lt_of_row hN
  go_wp2_with fail
  have hH : CntH w 0 tF tN fF fN (((w.alloc (.cells #[.int .i64 0, .int .i64 0, .int .i64 0, .int .i64 0] 43)).alloc (.cells #[.int .i64 0, .int .i64 0, .int .i64 0, .int .i64 0, .int .i64 0, .int .i64 0, .int .i64 0, .int .i64 0, .int .i64 0, .int .i64 0, .int .i64 0, .int .i64 0, .int .i64 0] 44)).alloc (.cells #[.int .i64 0, .int .i64 0, .int .i64 0, .int .i64 0, .int .i64 0, .int .i64 0, .int .i64 0, .int .i64 0, .int .i64 0, .int .i64 0, .int .i64 0, .int .i64 0, .int .i64 0] 44)) := by
    refine ⟨?_, ?_, ?_, row_alloc (row_alloc (row_alloc hF _) _) _, row_alloc (row_alloc (row_alloc hN _) _) _, ?_⟩
    · exact row_alloc (row_alloc (heap_alloc_new w _) _) _
    · have := row_alloc (heap_alloc_new (w.alloc (.cells #[.int .i64 0, .int .i64 0, .int .i64 0, .int .i64 0] 43)) (.cells #[.int .i64 0, .int .i64 0, .int .i64 0, .int .i64 0, .int .i64 0, .int .i64 0, .int .i64 0, .int .i64 0, .int .i64 0, .int .i64 0, .int .i64 0, .int .i64 0, .int .i64 0] 44)) (.cells #[.int .i64 0, .int .i64 0, .int .i64 0, .int .i64 0, .int .i64 0, .int .i64 0, .int .i64 0, .int .i64 0, .int .i64 0, .int .i64 0, .int .i64 0, .int .i64 0, .int .i64 0] 44)
      rw [show (w.alloc (.cells #[.int .i64 0, .int .i64 0, .int .i64 0, .int .i64 0] 43)).heap.size = w.heap.size + 1 from by simp] at this
      exact this
    · have := heap_alloc_new ((w.alloc (.cells #[.int .i64 0, .int .i64 0, .int .i64 0, .int .i64 0] 43)).alloc (.cells #[.int .i64 0, .int .i64 0, .int .i64 0, .int .i64 0, .int .i64 0, .int .i64 0, .int .i64 0, .int .i64 0, .int .i64 0, .int .i64 0, .int .i64 0, .int .i64 0, .int .i64 0] 44)) (.cells #[.int .i64 0, .int .i64 0, .int .i64 0, .int .i64 0, .int .i64 0, .int .i64 0, .int .i64 0, .int .i64 0, .int .i64 0, .int .i64 0, .int .i64 0, .int .i64 0, .int .i64 0] 44)
      rw [show ((w.alloc (.cells #[.int .i64 0, .int .i64 0, .int .i64 0, .int .i64 0] 43)).alloc (.cells #[.int .i64 0, .int .i64 0, .int .i64 0, .int .i64 0, .int .i64 0, .int .i64 0, .int .i64 0, .int .i64 0, .int .i64 0, .int .i64 0, .int .i64 0, .int .i64 0, .int .i64 0] 44)).heap.size = w.heap.size + 1 + 1 from by simp] at this
      exact this
    · exact (((Below.refl w.heap.size w).alloc (Nat.le_refl _) _).alloc (by simp) _).alloc (by simp; omega) _
  go_loopw [4, 5, 6, 7] (fun b y o i wr => ∃ k : Nat, k ≤ 256 ∧ i = .int .i64 k ∧ b = .int .i64 (sumT lnT k : Int) ∧ y = .int .i64 (sumT cyT k : Int) ∧ o = .int .i64 (sumT ownT k : Int) ∧ CntH w k tF tN fF fN wr) (fun _ _ _ i _ => 256 - (intOf i).toNat)
  case atStart => exact ⟨0, by omega, rfl, rfl, rfl, rfl, hH⟩
  case round =>
    obtain ⟨k, hk, rfl, rfl, rfl, rfl, hR⟩ := hrel
    clear hH hF hN
    by_cases hlt : k < 256
    · have hw : IntKind.u8.wrap (k : Int) = (k : Int) := by rw [IntKind.wrap_u8]; omega
      go_wp2_with fail
      refine (decode_any k hlt wr tF tN fF fN hR.fill hR.len).mono ?_
      rintro e w5 ⟨rfl, hb⟩
      have hR5 := hR.called hb
      clear hR hb
      obtain ⟨hcl4, hcy10, hln10⟩ := cls_lt k hlt
      obtain ⟨hk13, hm13, ho70⟩ := kinds_at k hlt
      have hsl := sumT_le lnT 10 (fun c => by unfold lnT lenR; split <;> (try split) <;> omega) k
      have hso := sumT_le ownT 1 (fun c => by unfold ownT; split <;> omega) k
      have hb1 := sumT_le (fun c => if classT c = classT k then 1 else 0) 1 (fun c => by split <;> omega) k
      have hb2 := sumT_le (fun c => if kindT c = kindT k then 1 else 0) 1 (fun c => by split <;> omega) k
      have hb3 := sumT_le (fun c => if modeT c = modeT k then 1 else 0) 1 (fun c => by split <;> omega) k
      have hcyb := sumT_le (fun c => if c < 256 then cyT c else 0) 10 (fun c => by
        split
        · have := (cls_lt c (by assumption)).2.1; omega
        · omega) k
      have hcye : sumT (fun c => if c < 256 then cyT c else 0) k = sumT cyT k := by
        clear hcyb hb1 hb2 hb3 hso hsl hcl4 hcy10 hln10 hk13 hm13 ho70 hR5
        have : ∀ j, j ≤ 256 → sumT (fun c => if c < 256 then cyT c else 0) j = sumT cyT j := by
          intro j
          induction j with
          | zero => intro _; rfl
          | succ j ih => intro hj; simp only [sumT]; rw [ih (by omega), if_pos (by omega)]
        exact this k hk
      rw [hcye] at hcyb
      have hinst : instD k = #[.int .i64 (opT k : Int), .int .i64 (modeT k : Int), .int .i64 (kindT k : Int), .int .i64 (lnT k : Int), .int .i64 (cyT k : Int), .int .i64 (classT k : Int)] := rfl
      rw [hinst]
      have hR6 := hR5.new (.cells #[.int .i64 (opT k : Int), .int .i64 (modeT k : Int), .int .i64 (kindT k : Int), .int .i64 (lnT k : Int), .int .i64 (cyT k : Int), .int .i64 (classT k : Int)] 36)
      have hI6 := heap_alloc_new w5 (.cells #[.int .i64 (opT k : Int), .int .i64 (modeT k : Int), .int .i64 (kindT k : Int), .int .i64 (lnT k : Int), .int .i64 (cyT k : Int), .int .i64 (classT k : Int)] 36)
      have hg5 : w.heap.size + 1 + 1 < w5.heap.size := lt_of_row hR5.mde
      clear hR5 hinst hcye
      obtain ⟨w6, hw6⟩ : ∃ w6, w5.alloc (.cells #[.int .i64 (opT k : Int), .int .i64 (modeT k : Int), .int .i64 (kindT k : Int), .int .i64 (lnT k : Int), .int .i64 (cyT k : Int), .int .i64 (classT k : Int)] 36) = w6 := ⟨_, rfl⟩
      rw [hw6] at hR6 hI6
      have hS := hR6.step hlF hcl4 hk13 hm13
      obtain ⟨w7, hw7⟩ : ∃ w7, w6.setCell ⟨w.heap.size, classT k, none⟩ (.int .i64 ((cntT classT (classT k) k : Int) + 1)) = w7 := ⟨_, rfl⟩
      have hI7 := row_setCell_other (i := classT k) hI6 (by omega : w5.heap.size ≠ w.heap.size) (.int .i64 ((cntT classT (classT k) k : Int) + 1))
      rw [hw7] at hI7
      have hK7 := row_setCell_other (i := classT k) hR6.knd (by omega : w.heap.size + 1 ≠ w.heap.size) (.int .i64 ((cntT classT (classT k) k : Int) + 1))
      rw [hw7] at hK7
      have hM7 := row_setCell_other (i := classT k) hR6.mde (by omega : w.heap.size + 1 + 1 ≠ w.heap.size) (.int .i64 ((cntT classT (classT k) k : Int) + 1))
      rw [hw7] at hM7
      rw [hw7] at hS
      obtain ⟨w8, hw8⟩ : ∃ w8, w7.setCell ⟨w.heap.size + 1, kindT k, none⟩ (.int .i64 ((cntT kindT (kindT k) k : Int) + 1)) = w8 := ⟨_, rfl⟩
      have hI8 := row_setCell_other (i := kindT k) hI7 (by omega : w5.heap.size ≠ w.heap.size + 1) (.int .i64 ((cntT kindT (kindT k) k : Int) + 1))
      rw [hw8] at hI8
      have hM8 := row_setCell_other (i := kindT k) hM7 (by omega : w.heap.size + 1 + 1 ≠ w.heap.size + 1) (.int .i64 ((cntT kindT (kindT k) k : Int) + 1))
      rw [hw8] at hM8
      rw [hw8] at hS
      obtain ⟨w9, hw9⟩ : ∃ w9, w8.setCell ⟨w.heap.size + 1 + 1, modeT k, none⟩ (.int .i64 ((cntT modeT (modeT k) k : Int) + 1)) = w9 := ⟨_, rfl⟩
      have hI9 := row_setCell_other (i := modeT k) hI8 (by omega : w5.heap.size ≠ w.heap.size + 1 + 1) (.int .i64 ((cntT modeT (modeT k) k : Int) + 1))
      rw [hw9] at hI9
      rw [hw9] at hS
      have x6c := (cell_of_row w6 _ (classT k) _ _ _ hR6.cls).trans (arrT_at classT 4 k (classT k) hcl4)
      have z6 := frozen_of_row hR6.cls (classT k)
      have x7k := (cell_of_row w7 _ (kindT k) _ _ _ hK7).trans (arrT_at kindT 13 k (kindT k) hk13)
      have z7 := frozen_of_row hK7 (kindT k)
      have x8m := (cell_of_row w8 _ (modeT k) _ _ _ hM8).trans (arrT_at modeT 13 k (modeT k) hm13)
      have z8 := frozen_of_row hM8 (modeT k)
      have y5 := (cell_of_row w6 _ 5 _ _ _ hI6).trans (show _ = some (Value.int .i64 (classT k : Int)) from rfl)
      have y2 := (cell_of_row w6 _ 2 _ _ _ hI6).trans (show _ = some (Value.int .i64 (kindT k : Int)) from rfl)
      have y1 := (cell_of_row w6 _ 1 _ _ _ hI6).trans (show _ = some (Value.int .i64 (modeT k : Int)) from rfl)
      have y72 := (cell_of_row w7 _ 2 _ _ _ hI7).trans (show _ = some (Value.int .i64 (kindT k : Int)) from rfl)
      have y81 := (cell_of_row w8 _ 1 _ _ _ hI8).trans (show _ = some (Value.int .i64 (modeT k : Int)) from rfl)
      have y93 := (cell_of_row w9 _ 3 _ _ _ hI9).trans (show _ = some (Value.int .i64 (lnT k : Int)) from rfl)
      have y94 := (cell_of_row w9 _ 4 _ _ _ hI9).trans (show _ = some (Value.int .i64 (cyT k : Int)) from rfl)
      have y90 := (cell_of_row w9 _ 0 _ _ _ hI9).trans (show _ = some (Value.int .i64 (opT k : Int)) from rfl)
      have y91 := (cell_of_row w9 _ 1 _ _ _ hI9).trans (show _ = some (Value.int .i64 (modeT k : Int)) from rfl)
      clear hI6 hI7 hI8 hI9 hK7 hM7 hM8 hR6
      have HS := Lib.hid hS; clear hS
      obtain ⟨n1, hn1⟩ : ∃ n1, cntT classT (classT k) k = n1 := ⟨_, rfl⟩
      obtain ⟨n2, hn2⟩ : ∃ n2, cntT kindT (kindT k) k = n2 := ⟨_, rfl⟩
      obtain ⟨n3, hn3⟩ : ∃ n3, cntT modeT (modeT k) k = n3 := ⟨_, rfl⟩
      have hb1' : n1 ≤ 1 * k := by rw [← hn1]; exact hb1
      have hb2' : n2 ≤ 1 * k := by rw [← hn2]; exact hb2
      have hb3' : n3 ≤ 1 * k := by rw [← hn3]; exact hb3
      rw [hn1] at hw7 x6c
      rw [hn2] at hw8 x7k
      rw [hn3] at hw9 x8m
      clear hb1 hb2 hb3 hn1 hn2 hn3
      have d1 : decide ((classT k : Int) < 0) = false := by rw [decide_eq_false_iff_not]; omega
      have d2 : decide (3 < (classT k : Int)) = false := by rw [decide_eq_false_iff_not]; omega
      have d3 : decide ((kindT k : Int) < 0) = false := by rw [decide_eq_false_iff_not]; omega
      have d4 : decide (12 < (kindT k : Int)) = false := by rw [decide_eq_false_iff_not]; omega
      have d5 : decide ((modeT k : Int) < 0) = false := by rw [decide_eq_false_iff_not]; omega
      have d6 : decide (12 < (modeT k : Int)) = false := by rw [decide_eq_false_iff_not]; omega
      have s1 : sumT lnT (k + 1) = sumT lnT k + lnT k := rfl
      have s2 : sumT cyT (k + 1) = sumT cyT k + cyT k := rfl
      have s3 : sumT ownT (k + 1) = sumT ownT k + ownT k := rfl
      have HSU := Lib.hid (And.intro s1 (And.intro s2 s3)); clear s1 s2 s3
      generalize sumT lnT k = sl at *
      generalize sumT cyT k = sc at *
      generalize sumT ownT k = so at *
      go_wp2_with fail
      refine (encode_yes (opT k : Int) (modeT k : Int) (by omega) (by omega) w9 tF fF HS.out.fill).mono ?_
      rintro e w10 ⟨rfl, hb⟩
      have hR10 := HS.out.called hb
      clear hb HS hw6 hw7 hw8 hw9 x6c x7k x8m z6 z7 z8 y5 y2 y1 y72 y81 y93 y94 y90 y91 d1 d2 d3 d4 d5 d6
      obtain ⟨rc, re, hre⟩ : ∃ rc re, encT (opT k : Int) (modeT k : Int) = (rc, re) := ⟨_, _, rfl⟩
      have ho : ownT k = if re = 0 ∧ rc = k then 1 else 0 := by
        unfold ownT
        rw [hre]
        simp only [Prod.mk.injEq, and_comm]
      rw [hre]
      clear hre
      have HO := Lib.hid ho; clear ho
      by_cases he : re = 0
      · have b2 : ((re : Int) == 0) = true := by rw [beq_iff_eq]; omega
        by_cases hc : rc = k
        · have b1 : ((rc : Int) == (k : Int)) = true := by rw [beq_iff_eq]; omega
          have ho1 : Hid (ownT k = 1) := Lib.hid (by rw [HO.out, if_pos ⟨he, hc⟩])
          clear HO hc he
          have HO := ho1; clear ho1
          go_wp2_with fail
          go_roundw
          case rel => exact ⟨k + 1, by omega, by go_num, by rw [HSU.out.1]; go_num, by rw [HSU.out.2.1]; go_num, by rw [HSU.out.2.2, HO.out]; go_num, hR10⟩
          case measure => simp [intOf]; omega
        · have b1 : ((rc : Int) == (k : Int)) = false := by rw [beq_eq_false_iff_ne]; omega
          have ho1 : Hid (ownT k = 0) := Lib.hid (by rw [HO.out, if_neg (fun h => hc h.2)])
          clear HO hc he
          have HO := ho1; clear ho1
          go_wp2_with fail
          go_roundw
          case rel => exact ⟨k + 1, by omega, by go_num, by rw [HSU.out.1]; go_num, by rw [HSU.out.2.1]; go_num, by rw [HSU.out.2.2, HO.out]; go_num, hR10⟩
          case measure => simp [intOf]; omega
      · have b2 : ((re : Int) == 0) = false := by rw [beq_eq_false_iff_ne]; omega
        have ho1 : Hid (ownT k = 0) := Lib.hid (by rw [HO.out, if_neg (fun h => he h.1)])
        clear HO he
        have HO := ho1; clear ho1
        go_wp2_with fail
        go_roundw
        case rel => exact ⟨k + 1, by omega, by go_num, by rw [HSU.out.1]; go_num, by rw [HSU.out.2.1]; go_num, by rw [HSU.out.2.2, HO.out]; go_num, hR10⟩
        case measure => simp [intOf]; omega
    · obtain rfl : k = 256 := by omega
      have e4 : arrT classT 4 256 = #[.int .i64 151, .int .i64 86, .int .i64 12, .int .i64 7] := by
        obtain ⟨a0, a1, a2, a3⟩ := tot_class
        simp [arrT, List.range_succ, a0, a1, a2, a3]
      have hC := hR.cls
      rw [e4] at hC
      obtain ⟨m12, m1, m11⟩ := tot_mode
      obtain ⟨k4, k5, k12, k2, k3, k1, k0⟩ := tot_kind
      have ym12 := (cell_of_row wr _ 12 _ _ _ hR.mde).trans ((arrT_at modeT 13 256 12 (by omega)).trans (by rw [m12]))
      have ym1 := (cell_of_row wr _ 1 _ _ _ hR.mde).trans ((arrT_at modeT 13 256 1 (by omega)).trans (by rw [m1]))
      have ym11 := (cell_of_row wr _ 11 _ _ _ hR.mde).trans ((arrT_at modeT 13 256 11 (by omega)).trans (by rw [m11]))
      have yk4 := (cell_of_row wr _ 4 _ _ _ hR.knd).trans ((arrT_at kindT 13 256 4 (by omega)).trans (by rw [k4]))
      have yk5 := (cell_of_row wr _ 5 _ _ _ hR.knd).trans ((arrT_at kindT 13 256 5 (by omega)).trans (by rw [k5]))
      have yk12 := (cell_of_row wr _ 12 _ _ _ hR.knd).trans ((arrT_at kindT 13 256 12 (by omega)).trans (by rw [k12]))
      have yk2 := (cell_of_row wr _ 2 _ _ _ hR.knd).trans ((arrT_at kindT 13 256 2 (by omega)).trans (by rw [k2]))
      have yk3 := (cell_of_row wr _ 3 _ _ _ hR.knd).trans ((arrT_at kindT 13 256 3 (by omega)).trans (by rw [k3]))
      have yk1 := (cell_of_row wr _ 1 _ _ _ hR.knd).trans ((arrT_at kindT 13 256 1 (by omega)).trans (by rw [k1]))
      have yk0 := (cell_of_row wr _ 0 _ _ _ hR.knd).trans ((arrT_at kindT 13 256 0 (by omega)).trans (by rw [k0]))
      have hB := hR.below
      clear hR e4 m12 m1 m11 k4 k5 k12 k2 k3 k1 k0
      rw [tot_len, tot_cy, tot_own]
      have hq := eqi_arr4 wr
      go_wp2_with ((with_reducible show wpList _ _ _ (⟨_, .load 43 (.tmp 1), _, _, _, none⟩ :: _) _ _); refine wpList_load_row rfl 43 (.tmp 1) rfl w.heap.size ?q1 43 _ (0, 0) _ hC Tryd.underlying43 rfl (by kernel_rfl) ?_; (case q1 => rfl))
      go_ret
      exact ⟨rfl, hB⟩
end Go.Proofs.YtknfphgncoojeaaDoor

/- isa.kind: the contract. -/
import Derived.Test.YtknfphgncoojeaaDoorIsaFill
import Derived.WalkLawsBesides
namespace Go.Proofs.YtknfphgncoojeaaDoor
open Go.RowKit
def kindOf (o m : Nat) (f : Bool) : Nat :=
  if o = 27 then 6 else if o = 28 then 7 else if o = 42 then 8 else if o = 41 then 8 else if o = 10 then 11 else if o = 35 then 9 else if o = 36 then 9 else if o = 37 then 10 else if o = 38 then 10 else if o = 69 then 12 else if m = 12 then 5 else if m = 0 then 0 else if m = 1 then 0 else if m = 2 then 0 else if f then 4 else if o = 47 then 2 else if o = 48 then 2 else if o = 49 then 2 else if o = 65 then 2 else if o = 2 then 3 else if o = 32 then 3 else if o = 39 then 3 else if o = 40 then 3 else if o = 20 then 3 else if o = 24 then 3 else if o = 67 then 3 else if o = 63 then 3 else if o = 68 then 3 else if o = 64 then 3 else if o = 59 then 3 else if o = 60 then 3 else 1
def kindT (c : Nat) : Nat := kindOf (opT c) (modeT c) (fillB c)
set_option maxHeartbeats 4000000 in
theorem kind_o27 (c : Nat) (h : c < 256) (ho : opT c = 27) (w : World) (tt : TypeId) (fr : Nat × Nat) (hF : w.heap[3]? = some (.cells fillA tt fr)) :
    Calls Tryd.prog 38 #[.int .u8 (c : Int)] w fun e w' => e = .returned (.int .i64 6) ∧ Below w.heap.size w w' := by
  have hr := rowOf_any c h w
  have hfl := fun w' h' => filler_any c w' tt fr h'
  rw [ho] at hr
  generalize hmm : modeT c = m at *
  have HR := Lib.hid hr; have HF := Lib.hid hfl
  clear hr hfl ho hmm
  go_enter Tryd.func38, Tryd.ntmps38
  go_wp2_with fail
  refine HR.out.mono ?_
  rintro e w1 ⟨rfl, hb⟩
  have hlt := lt_of_row hF
  have hF1 := row_alloc ((hb.block _ hlt).trans hF) (.cells #[.int .i64 27, .int .i64 (m : Int)] 61)
  have hB := hb.alloc hb.size (.cells #[.int .i64 27, .int .i64 (m : Int)] 61)
  clear hb hF hlt
  go_wp2_with fail
  go_ret
  exact ⟨rfl, hB⟩
set_option maxHeartbeats 4000000 in
theorem kind_o28 (c : Nat) (h : c < 256) (ho : opT c = 28) (w : World) (tt : TypeId) (fr : Nat × Nat) (hF : w.heap[3]? = some (.cells fillA tt fr)) :
    Calls Tryd.prog 38 #[.int .u8 (c : Int)] w fun e w' => e = .returned (.int .i64 7) ∧ Below w.heap.size w w' := by
  have hr := rowOf_any c h w
  have hfl := fun w' h' => filler_any c w' tt fr h'
  rw [ho] at hr
  generalize hmm : modeT c = m at *
  have HR := Lib.hid hr; have HF := Lib.hid hfl
  clear hr hfl ho hmm
  go_enter Tryd.func38, Tryd.ntmps38
  go_wp2_with fail
  refine HR.out.mono ?_
  rintro e w1 ⟨rfl, hb⟩
  have hlt := lt_of_row hF
  have hF1 := row_alloc ((hb.block _ hlt).trans hF) (.cells #[.int .i64 28, .int .i64 (m : Int)] 61)
  have hB := hb.alloc hb.size (.cells #[.int .i64 28, .int .i64 (m : Int)] 61)
  clear hb hF hlt
  go_wp2_with fail
  go_ret
  exact ⟨rfl, hB⟩
set_option maxHeartbeats 4000000 in
theorem kind_o42 (c : Nat) (h : c < 256) (ho : opT c = 42) (w : World) (tt : TypeId) (fr : Nat × Nat) (hF : w.heap[3]? = some (.cells fillA tt fr)) :
    Calls Tryd.prog 38 #[.int .u8 (c : Int)] w fun e w' => e = .returned (.int .i64 8) ∧ Below w.heap.size w w' := by
  have hr := rowOf_any c h w
  have hfl := fun w' h' => filler_any c w' tt fr h'
  rw [ho] at hr
  generalize hmm : modeT c = m at *
  have HR := Lib.hid hr; have HF := Lib.hid hfl
  clear hr hfl ho hmm
  go_enter Tryd.func38, Tryd.ntmps38
  go_wp2_with fail
  refine HR.out.mono ?_
  rintro e w1 ⟨rfl, hb⟩
  have hlt := lt_of_row hF
  have hF1 := row_alloc ((hb.block _ hlt).trans hF) (.cells #[.int .i64 42, .int .i64 (m : Int)] 61)
  have hB := hb.alloc hb.size (.cells #[.int .i64 42, .int .i64 (m : Int)] 61)
  clear hb hF hlt
  go_wp2_with fail
  go_ret
  exact ⟨rfl, hB⟩
set_option maxHeartbeats 4000000 in
theorem kind_o41 (c : Nat) (h : c < 256) (ho : opT c = 41) (w : World) (tt : TypeId) (fr : Nat × Nat) (hF : w.heap[3]? = some (.cells fillA tt fr)) :
    Calls Tryd.prog 38 #[.int .u8 (c : Int)] w fun e w' => e = .returned (.int .i64 8) ∧ Below w.heap.size w w' := by
  have hr := rowOf_any c h w
  have hfl := fun w' h' => filler_any c w' tt fr h'
  rw [ho] at hr
  generalize hmm : modeT c = m at *
  have HR := Lib.hid hr; have HF := Lib.hid hfl
  clear hr hfl ho hmm
  go_enter Tryd.func38, Tryd.ntmps38
  go_wp2_with fail
  refine HR.out.mono ?_
  rintro e w1 ⟨rfl, hb⟩
  have hlt := lt_of_row hF
  have hF1 := row_alloc ((hb.block _ hlt).trans hF) (.cells #[.int .i64 41, .int .i64 (m : Int)] 61)
  have hB := hb.alloc hb.size (.cells #[.int .i64 41, .int .i64 (m : Int)] 61)
  clear hb hF hlt
  go_wp2_with fail
  go_ret
  exact ⟨rfl, hB⟩
set_option maxHeartbeats 4000000 in
theorem kind_o10 (c : Nat) (h : c < 256) (ho : opT c = 10) (w : World) (tt : TypeId) (fr : Nat × Nat) (hF : w.heap[3]? = some (.cells fillA tt fr)) :
    Calls Tryd.prog 38 #[.int .u8 (c : Int)] w fun e w' => e = .returned (.int .i64 11) ∧ Below w.heap.size w w' := by
  have hr := rowOf_any c h w
  have hfl := fun w' h' => filler_any c w' tt fr h'
  rw [ho] at hr
  generalize hmm : modeT c = m at *
  have HR := Lib.hid hr; have HF := Lib.hid hfl
  clear hr hfl ho hmm
  go_enter Tryd.func38, Tryd.ntmps38
  go_wp2_with fail
  refine HR.out.mono ?_
  rintro e w1 ⟨rfl, hb⟩
  have hlt := lt_of_row hF
  have hF1 := row_alloc ((hb.block _ hlt).trans hF) (.cells #[.int .i64 10, .int .i64 (m : Int)] 61)
  have hB := hb.alloc hb.size (.cells #[.int .i64 10, .int .i64 (m : Int)] 61)
  clear hb hF hlt
  go_wp2_with fail
  go_ret
  exact ⟨rfl, hB⟩
set_option maxHeartbeats 4000000 in
theorem kind_o35 (c : Nat) (h : c < 256) (ho : opT c = 35) (w : World) (tt : TypeId) (fr : Nat × Nat) (hF : w.heap[3]? = some (.cells fillA tt fr)) :
    Calls Tryd.prog 38 #[.int .u8 (c : Int)] w fun e w' => e = .returned (.int .i64 9) ∧ Below w.heap.size w w' := by
  have hr := rowOf_any c h w
  have hfl := fun w' h' => filler_any c w' tt fr h'
  rw [ho] at hr
  generalize hmm : modeT c = m at *
  have HR := Lib.hid hr; have HF := Lib.hid hfl
  clear hr hfl ho hmm
  go_enter Tryd.func38, Tryd.ntmps38
  go_wp2_with fail
  refine HR.out.mono ?_
  rintro e w1 ⟨rfl, hb⟩
  have hlt := lt_of_row hF
  have hF1 := row_alloc ((hb.block _ hlt).trans hF) (.cells #[.int .i64 35, .int .i64 (m : Int)] 61)
  have hB := hb.alloc hb.size (.cells #[.int .i64 35, .int .i64 (m : Int)] 61)
  clear hb hF hlt
  go_wp2_with fail
  go_ret
  exact ⟨rfl, hB⟩
set_option maxHeartbeats 4000000 in
theorem kind_o36 (c : Nat) (h : c < 256) (ho : opT c = 36) (w : World) (tt : TypeId) (fr : Nat × Nat) (hF : w.heap[3]? = some (.cells fillA tt fr)) :
    Calls Tryd.prog 38 #[.int .u8 (c : Int)] w fun e w' => e = .returned (.int .i64 9) ∧ Below w.heap.size w w' := by
  have hr := rowOf_any c h w
  have hfl := fun w' h' => filler_any c w' tt fr h'
  rw [ho] at hr
  generalize hmm : modeT c = m at *
  have HR := Lib.hid hr; have HF := Lib.hid hfl
  clear hr hfl ho hmm
  go_enter Tryd.func38, Tryd.ntmps38
  go_wp2_with fail
  refine HR.out.mono ?_
  rintro e w1 ⟨rfl, hb⟩
  have hlt := lt_of_row hF
  have hF1 := row_alloc ((hb.block _ hlt).trans hF) (.cells #[.int .i64 36, .int .i64 (m : Int)] 61)
  have hB := hb.alloc hb.size (.cells #[.int .i64 36, .int .i64 (m : Int)] 61)
  clear hb hF hlt
  go_wp2_with fail
  go_ret
  exact ⟨rfl, hB⟩
set_option maxHeartbeats 4000000 in
theorem kind_o37 (c : Nat) (h : c < 256) (ho : opT c = 37) (w : World) (tt : TypeId) (fr : Nat × Nat) (hF : w.heap[3]? = some (.cells fillA tt fr)) :
    Calls Tryd.prog 38 #[.int .u8 (c : Int)] w fun e w' => e = .returned (.int .i64 10) ∧ Below w.heap.size w w' := by
  have hr := rowOf_any c h w
  have hfl := fun w' h' => filler_any c w' tt fr h'
  rw [ho] at hr
  generalize hmm : modeT c = m at *
  have HR := Lib.hid hr; have HF := Lib.hid hfl
  clear hr hfl ho hmm
  go_enter Tryd.func38, Tryd.ntmps38
  go_wp2_with fail
  refine HR.out.mono ?_
  rintro e w1 ⟨rfl, hb⟩
  have hlt := lt_of_row hF
  have hF1 := row_alloc ((hb.block _ hlt).trans hF) (.cells #[.int .i64 37, .int .i64 (m : Int)] 61)
  have hB := hb.alloc hb.size (.cells #[.int .i64 37, .int .i64 (m : Int)] 61)
  clear hb hF hlt
  go_wp2_with fail
  go_ret
  exact ⟨rfl, hB⟩
set_option maxHeartbeats 4000000 in
theorem kind_o38 (c : Nat) (h : c < 256) (ho : opT c = 38) (w : World) (tt : TypeId) (fr : Nat × Nat) (hF : w.heap[3]? = some (.cells fillA tt fr)) :
    Calls Tryd.prog 38 #[.int .u8 (c : Int)] w fun e w' => e = .returned (.int .i64 10) ∧ Below w.heap.size w w' := by
  have hr := rowOf_any c h w
  have hfl := fun w' h' => filler_any c w' tt fr h'
  rw [ho] at hr
  generalize hmm : modeT c = m at *
  have HR := Lib.hid hr; have HF := Lib.hid hfl
  clear hr hfl ho hmm
  go_enter Tryd.func38, Tryd.ntmps38
  go_wp2_with fail
  refine HR.out.mono ?_
  rintro e w1 ⟨rfl, hb⟩
  have hlt := lt_of_row hF
  have hF1 := row_alloc ((hb.block _ hlt).trans hF) (.cells #[.int .i64 38, .int .i64 (m : Int)] 61)
  have hB := hb.alloc hb.size (.cells #[.int .i64 38, .int .i64 (m : Int)] 61)
  clear hb hF hlt
  go_wp2_with fail
  go_ret
  exact ⟨rfl, hB⟩
set_option maxHeartbeats 4000000 in
theorem kind_o69 (c : Nat) (h : c < 256) (ho : opT c = 69) (w : World) (tt : TypeId) (fr : Nat × Nat) (hF : w.heap[3]? = some (.cells fillA tt fr)) :
    Calls Tryd.prog 38 #[.int .u8 (c : Int)] w fun e w' => e = .returned (.int .i64 12) ∧ Below w.heap.size w w' := by
  have hr := rowOf_any c h w
  have hfl := fun w' h' => filler_any c w' tt fr h'
  rw [ho] at hr
  generalize hmm : modeT c = m at *
  have HR := Lib.hid hr; have HF := Lib.hid hfl
  clear hr hfl ho hmm
  go_enter Tryd.func38, Tryd.ntmps38
  go_wp2_with fail
  refine HR.out.mono ?_
  rintro e w1 ⟨rfl, hb⟩
  have hlt := lt_of_row hF
  have hF1 := row_alloc ((hb.block _ hlt).trans hF) (.cells #[.int .i64 69, .int .i64 (m : Int)] 61)
  have hB := hb.alloc hb.size (.cells #[.int .i64 69, .int .i64 (m : Int)] 61)
  clear hb hF hlt
  go_wp2_with fail
  go_ret
  exact ⟨rfl, hB⟩
set_option maxHeartbeats 4000000 in
theorem kind_m12 (c : Nat) (h : c < 256) (hn : opT c ≠ 27 ∧ opT c ≠ 28 ∧ opT c ≠ 42 ∧ opT c ≠ 41 ∧ opT c ≠ 10 ∧ opT c ≠ 35 ∧ opT c ≠ 36 ∧ opT c ≠ 37 ∧ opT c ≠ 38 ∧ opT c ≠ 69) (hm : modeT c = 12) (w : World) (tt : TypeId) (fr : Nat × Nat) (hF : w.heap[3]? = some (.cells fillA tt fr)) :
    Calls Tryd.prog 38 #[.int .u8 (c : Int)] w fun e w' => e = .returned (.int .i64 5) ∧ Below w.heap.size w w' := by
  have hr := rowOf_any c h w
  have hfl := fun w' h' => filler_any c w' tt fr h'
  generalize hoo : opT c = o at *
  rw [hm] at hr
  have b27 : ((o : Int) == 27) = false := by rw [beq_eq_false_iff_ne]; omega
  have b28 : ((o : Int) == 28) = false := by rw [beq_eq_false_iff_ne]; omega
  have b42 : ((o : Int) == 42) = false := by rw [beq_eq_false_iff_ne]; omega
  have b41 : ((o : Int) == 41) = false := by rw [beq_eq_false_iff_ne]; omega
  have b10 : ((o : Int) == 10) = false := by rw [beq_eq_false_iff_ne]; omega
  have b35 : ((o : Int) == 35) = false := by rw [beq_eq_false_iff_ne]; omega
  have b36 : ((o : Int) == 36) = false := by rw [beq_eq_false_iff_ne]; omega
  have b37 : ((o : Int) == 37) = false := by rw [beq_eq_false_iff_ne]; omega
  have b38 : ((o : Int) == 38) = false := by rw [beq_eq_false_iff_ne]; omega
  have b69 : ((o : Int) == 69) = false := by rw [beq_eq_false_iff_ne]; omega
  have HR := Lib.hid hr; have HF := Lib.hid hfl
  clear hr hfl hoo hm hn
  go_enter Tryd.func38, Tryd.ntmps38
  go_wp2_with fail
  refine HR.out.mono ?_
  rintro e w1 ⟨rfl, hb⟩
  have hlt := lt_of_row hF
  have hF1 := row_alloc ((hb.block _ hlt).trans hF) (.cells #[.int .i64 (o : Int), .int .i64 12] 61)
  have hB := hb.alloc hb.size (.cells #[.int .i64 (o : Int), .int .i64 12] 61)
  clear hb hF hlt
  go_wp2_with fail
  go_ret
  exact ⟨rfl, hB⟩
set_option maxHeartbeats 4000000 in
theorem kind_m0 (c : Nat) (h : c < 256) (hn : opT c ≠ 27 ∧ opT c ≠ 28 ∧ opT c ≠ 42 ∧ opT c ≠ 41 ∧ opT c ≠ 10 ∧ opT c ≠ 35 ∧ opT c ≠ 36 ∧ opT c ≠ 37 ∧ opT c ≠ 38 ∧ opT c ≠ 69) (hm : modeT c = 0) (w : World) (tt : TypeId) (fr : Nat × Nat) (hF : w.heap[3]? = some (.cells fillA tt fr)) :
    Calls Tryd.prog 38 #[.int .u8 (c : Int)] w fun e w' => e = .returned (.int .i64 0) ∧ Below w.heap.size w w' := by
  have hr := rowOf_any c h w
  have hfl := fun w' h' => filler_any c w' tt fr h'
  generalize hoo : opT c = o at *
  rw [hm] at hr
  have b27 : ((o : Int) == 27) = false := by rw [beq_eq_false_iff_ne]; omega
  have b28 : ((o : Int) == 28) = false := by rw [beq_eq_false_iff_ne]; omega
  have b42 : ((o : Int) == 42) = false := by rw [beq_eq_false_iff_ne]; omega
  have b41 : ((o : Int) == 41) = false := by rw [beq_eq_false_iff_ne]; omega
  have b10 : ((o : Int) == 10) = false := by rw [beq_eq_false_iff_ne]; omega
  have b35 : ((o : Int) == 35) = false := by rw [beq_eq_false_iff_ne]; omega
  have b36 : ((o : Int) == 36) = false := by rw [beq_eq_false_iff_ne]; omega
  have b37 : ((o : Int) == 37) = false := by rw [beq_eq_false_iff_ne]; omega
  have b38 : ((o : Int) == 38) = false := by rw [beq_eq_false_iff_ne]; omega
  have b69 : ((o : Int) == 69) = false := by rw [beq_eq_false_iff_ne]; omega
  have HR := Lib.hid hr; have HF := Lib.hid hfl
  clear hr hfl hoo hm hn
  go_enter Tryd.func38, Tryd.ntmps38
  go_wp2_with fail
  refine HR.out.mono ?_
  rintro e w1 ⟨rfl, hb⟩
  have hlt := lt_of_row hF
  have hF1 := row_alloc ((hb.block _ hlt).trans hF) (.cells #[.int .i64 (o : Int), .int .i64 0] 61)
  have hB := hb.alloc hb.size (.cells #[.int .i64 (o : Int), .int .i64 0] 61)
  clear hb hF hlt
  go_wp2_with fail
  go_ret
  exact ⟨rfl, hB⟩
set_option maxHeartbeats 4000000 in
theorem kind_m1 (c : Nat) (h : c < 256) (hn : opT c ≠ 27 ∧ opT c ≠ 28 ∧ opT c ≠ 42 ∧ opT c ≠ 41 ∧ opT c ≠ 10 ∧ opT c ≠ 35 ∧ opT c ≠ 36 ∧ opT c ≠ 37 ∧ opT c ≠ 38 ∧ opT c ≠ 69) (hm : modeT c = 1) (w : World) (tt : TypeId) (fr : Nat × Nat) (hF : w.heap[3]? = some (.cells fillA tt fr)) :
    Calls Tryd.prog 38 #[.int .u8 (c : Int)] w fun e w' => e = .returned (.int .i64 0) ∧ Below w.heap.size w w' := by
  have hr := rowOf_any c h w
  have hfl := fun w' h' => filler_any c w' tt fr h'
  generalize hoo : opT c = o at *
  rw [hm] at hr
  have b27 : ((o : Int) == 27) = false := by rw [beq_eq_false_iff_ne]; omega
  have b28 : ((o : Int) == 28) = false := by rw [beq_eq_false_iff_ne]; omega
  have b42 : ((o : Int) == 42) = false := by rw [beq_eq_false_iff_ne]; omega
  have b41 : ((o : Int) == 41) = false := by rw [beq_eq_false_iff_ne]; omega
  have b10 : ((o : Int) == 10) = false := by rw [beq_eq_false_iff_ne]; omega
  have b35 : ((o : Int) == 35) = false := by rw [beq_eq_false_iff_ne]; omega
  have b36 : ((o : Int) == 36) = false := by rw [beq_eq_false_iff_ne]; omega
  have b37 : ((o : Int) == 37) = false := by rw [beq_eq_false_iff_ne]; omega
  have b38 : ((o : Int) == 38) = false := by rw [beq_eq_false_iff_ne]; omega
  have b69 : ((o : Int) == 69) = false := by rw [beq_eq_false_iff_ne]; omega
  have HR := Lib.hid hr; have HF := Lib.hid hfl
  clear hr hfl hoo hm hn
  go_enter Tryd.func38, Tryd.ntmps38
  go_wp2_with fail
  refine HR.out.mono ?_
  rintro e w1 ⟨rfl, hb⟩
  have hlt := lt_of_row hF
  have hF1 := row_alloc ((hb.block _ hlt).trans hF) (.cells #[.int .i64 (o : Int), .int .i64 1] 61)
  have hB := hb.alloc hb.size (.cells #[.int .i64 (o : Int), .int .i64 1] 61)
  clear hb hF hlt
  go_wp2_with fail
  go_ret
  exact ⟨rfl, hB⟩
set_option maxHeartbeats 4000000 in
theorem kind_m2 (c : Nat) (h : c < 256) (hn : opT c ≠ 27 ∧ opT c ≠ 28 ∧ opT c ≠ 42 ∧ opT c ≠ 41 ∧ opT c ≠ 10 ∧ opT c ≠ 35 ∧ opT c ≠ 36 ∧ opT c ≠ 37 ∧ opT c ≠ 38 ∧ opT c ≠ 69) (hm : modeT c = 2) (w : World) (tt : TypeId) (fr : Nat × Nat) (hF : w.heap[3]? = some (.cells fillA tt fr)) :
    Calls Tryd.prog 38 #[.int .u8 (c : Int)] w fun e w' => e = .returned (.int .i64 0) ∧ Below w.heap.size w w' := by
  have hr := rowOf_any c h w
  have hfl := fun w' h' => filler_any c w' tt fr h'
  generalize hoo : opT c = o at *
  rw [hm] at hr
  have b27 : ((o : Int) == 27) = false := by rw [beq_eq_false_iff_ne]; omega
  have b28 : ((o : Int) == 28) = false := by rw [beq_eq_false_iff_ne]; omega
  have b42 : ((o : Int) == 42) = false := by rw [beq_eq_false_iff_ne]; omega
  have b41 : ((o : Int) == 41) = false := by rw [beq_eq_false_iff_ne]; omega
  have b10 : ((o : Int) == 10) = false := by rw [beq_eq_false_iff_ne]; omega
  have b35 : ((o : Int) == 35) = false := by rw [beq_eq_false_iff_ne]; omega
  have b36 : ((o : Int) == 36) = false := by rw [beq_eq_false_iff_ne]; omega
  have b37 : ((o : Int) == 37) = false := by rw [beq_eq_false_iff_ne]; omega
  have b38 : ((o : Int) == 38) = false := by rw [beq_eq_false_iff_ne]; omega
  have b69 : ((o : Int) == 69) = false := by rw [beq_eq_false_iff_ne]; omega
  have HR := Lib.hid hr; have HF := Lib.hid hfl
  clear hr hfl hoo hm hn
  go_enter Tryd.func38, Tryd.ntmps38
  go_wp2_with fail
  refine HR.out.mono ?_
  rintro e w1 ⟨rfl, hb⟩
  have hlt := lt_of_row hF
  have hF1 := row_alloc ((hb.block _ hlt).trans hF) (.cells #[.int .i64 (o : Int), .int .i64 2] 61)
  have hB := hb.alloc hb.size (.cells #[.int .i64 (o : Int), .int .i64 2] 61)
  clear hb hF hlt
  go_wp2_with fail
  go_ret
  exact ⟨rfl, hB⟩
set_option maxHeartbeats 4000000 in
theorem kind_f (c : Nat) (h : c < 256) (hn : opT c ≠ 27 ∧ opT c ≠ 28 ∧ opT c ≠ 42 ∧ opT c ≠ 41 ∧ opT c ≠ 10 ∧ opT c ≠ 35 ∧ opT c ≠ 36 ∧ opT c ≠ 37 ∧ opT c ≠ 38 ∧ opT c ≠ 69) (hk : modeT c ≠ 12 ∧ modeT c ≠ 0 ∧ modeT c ≠ 1 ∧ modeT c ≠ 2) (hf : fillB c = true) (w : World) (tt : TypeId) (fr : Nat × Nat) (hF : w.heap[3]? = some (.cells fillA tt fr)) :
    Calls Tryd.prog 38 #[.int .u8 (c : Int)] w fun e w' => e = .returned (.int .i64 4) ∧ Below w.heap.size w w' := by
  have hr := rowOf_any c h w
  have hfl := fun w' h' => filler_any c w' tt fr h'
  generalize hoo : opT c = o at *
  generalize hmm : modeT c = m at *
  rw [hf] at hfl
  have b27 : ((o : Int) == 27) = false := by rw [beq_eq_false_iff_ne]; omega
  have b28 : ((o : Int) == 28) = false := by rw [beq_eq_false_iff_ne]; omega
  have b42 : ((o : Int) == 42) = false := by rw [beq_eq_false_iff_ne]; omega
  have b41 : ((o : Int) == 41) = false := by rw [beq_eq_false_iff_ne]; omega
  have b10 : ((o : Int) == 10) = false := by rw [beq_eq_false_iff_ne]; omega
  have b35 : ((o : Int) == 35) = false := by rw [beq_eq_false_iff_ne]; omega
  have b36 : ((o : Int) == 36) = false := by rw [beq_eq_false_iff_ne]; omega
  have b37 : ((o : Int) == 37) = false := by rw [beq_eq_false_iff_ne]; omega
  have b38 : ((o : Int) == 38) = false := by rw [beq_eq_false_iff_ne]; omega
  have b69 : ((o : Int) == 69) = false := by rw [beq_eq_false_iff_ne]; omega
  have d12 : ((m : Int) == 12) = false := by rw [beq_eq_false_iff_ne]; omega
  have d0 : ((m : Int) == 0) = false := by rw [beq_eq_false_iff_ne]; omega
  have d1 : ((m : Int) == 1) = false := by rw [beq_eq_false_iff_ne]; omega
  have d2 : ((m : Int) == 2) = false := by rw [beq_eq_false_iff_ne]; omega
  have HR := Lib.hid hr; have HF := Lib.hid hfl
  clear hr hfl hoo hmm hf hn hk
  go_enter Tryd.func38, Tryd.ntmps38
  go_wp2_with fail
  refine HR.out.mono ?_
  rintro e w1 ⟨rfl, hb⟩
  have hlt := lt_of_row hF
  have hF1 := row_alloc ((hb.block _ hlt).trans hF) (.cells #[.int .i64 (o : Int), .int .i64 (m : Int)] 61)
  have hB := hb.alloc hb.size (.cells #[.int .i64 (o : Int), .int .i64 (m : Int)] 61)
  clear hb hF hlt
  go_wp2_with fail
  refine (HF.out _ hF1).mono ?_
  rintro e w2 ⟨rfl, rfl⟩
  go_wp2_with fail
  go_ret
  exact ⟨rfl, hB⟩
set_option maxHeartbeats 4000000 in
theorem kind_w47 (c : Nat) (h : c < 256) (hk : modeT c ≠ 12 ∧ modeT c ≠ 0 ∧ modeT c ≠ 1 ∧ modeT c ≠ 2) (hf : fillB c = false) (ho : opT c = 47) (w : World) (tt : TypeId) (fr : Nat × Nat) (hF : w.heap[3]? = some (.cells fillA tt fr)) :
    Calls Tryd.prog 38 #[.int .u8 (c : Int)] w fun e w' => e = .returned (.int .i64 2) ∧ Below w.heap.size w w' := by
  have hr := rowOf_any c h w
  have hfl := fun w' h' => filler_any c w' tt fr h'
  rw [ho] at hr
  generalize hmm : modeT c = m at *
  rw [hf] at hfl
  have d12 : ((m : Int) == 12) = false := by rw [beq_eq_false_iff_ne]; omega
  have d0 : ((m : Int) == 0) = false := by rw [beq_eq_false_iff_ne]; omega
  have d1 : ((m : Int) == 1) = false := by rw [beq_eq_false_iff_ne]; omega
  have d2 : ((m : Int) == 2) = false := by rw [beq_eq_false_iff_ne]; omega
  have HR := Lib.hid hr; have HF := Lib.hid hfl
  clear hr hfl ho hmm hf hk
  go_enter Tryd.func38, Tryd.ntmps38
  go_wp2_with fail
  refine HR.out.mono ?_
  rintro e w1 ⟨rfl, hb⟩
  have hlt := lt_of_row hF
  have hF1 := row_alloc ((hb.block _ hlt).trans hF) (.cells #[.int .i64 47, .int .i64 (m : Int)] 61)
  have hB := hb.alloc hb.size (.cells #[.int .i64 47, .int .i64 (m : Int)] 61)
  clear hb hF hlt
  go_wp2_with fail
  refine (HF.out _ hF1).mono ?_
  rintro e w2 ⟨rfl, rfl⟩
  go_wp2_with fail
  go_ret
  exact ⟨rfl, hB⟩
set_option maxHeartbeats 4000000 in
theorem kind_w48 (c : Nat) (h : c < 256) (hk : modeT c ≠ 12 ∧ modeT c ≠ 0 ∧ modeT c ≠ 1 ∧ modeT c ≠ 2) (hf : fillB c = false) (ho : opT c = 48) (w : World) (tt : TypeId) (fr : Nat × Nat) (hF : w.heap[3]? = some (.cells fillA tt fr)) :
    Calls Tryd.prog 38 #[.int .u8 (c : Int)] w fun e w' => e = .returned (.int .i64 2) ∧ Below w.heap.size w w' := by
  have hr := rowOf_any c h w
  have hfl := fun w' h' => filler_any c w' tt fr h'
  rw [ho] at hr
  generalize hmm : modeT c = m at *
  rw [hf] at hfl
  have d12 : ((m : Int) == 12) = false := by rw [beq_eq_false_iff_ne]; omega
  have d0 : ((m : Int) == 0) = false := by rw [beq_eq_false_iff_ne]; omega
  have d1 : ((m : Int) == 1) = false := by rw [beq_eq_false_iff_ne]; omega
  have d2 : ((m : Int) == 2) = false := by rw [beq_eq_false_iff_ne]; omega
  have HR := Lib.hid hr; have HF := Lib.hid hfl
  clear hr hfl ho hmm hf hk
  go_enter Tryd.func38, Tryd.ntmps38
  go_wp2_with fail
  refine HR.out.mono ?_
  rintro e w1 ⟨rfl, hb⟩
  have hlt := lt_of_row hF
  have hF1 := row_alloc ((hb.block _ hlt).trans hF) (.cells #[.int .i64 48, .int .i64 (m : Int)] 61)
  have hB := hb.alloc hb.size (.cells #[.int .i64 48, .int .i64 (m : Int)] 61)
  clear hb hF hlt
  go_wp2_with fail
  refine (HF.out _ hF1).mono ?_
  rintro e w2 ⟨rfl, rfl⟩
  go_wp2_with fail
  go_ret
  exact ⟨rfl, hB⟩
set_option maxHeartbeats 4000000 in
theorem kind_w49 (c : Nat) (h : c < 256) (hk : modeT c ≠ 12 ∧ modeT c ≠ 0 ∧ modeT c ≠ 1 ∧ modeT c ≠ 2) (hf : fillB c = false) (ho : opT c = 49) (w : World) (tt : TypeId) (fr : Nat × Nat) (hF : w.heap[3]? = some (.cells fillA tt fr)) :
    Calls Tryd.prog 38 #[.int .u8 (c : Int)] w fun e w' => e = .returned (.int .i64 2) ∧ Below w.heap.size w w' := by
  have hr := rowOf_any c h w
  have hfl := fun w' h' => filler_any c w' tt fr h'
  rw [ho] at hr
  generalize hmm : modeT c = m at *
  rw [hf] at hfl
  have d12 : ((m : Int) == 12) = false := by rw [beq_eq_false_iff_ne]; omega
  have d0 : ((m : Int) == 0) = false := by rw [beq_eq_false_iff_ne]; omega
  have d1 : ((m : Int) == 1) = false := by rw [beq_eq_false_iff_ne]; omega
  have d2 : ((m : Int) == 2) = false := by rw [beq_eq_false_iff_ne]; omega
  have HR := Lib.hid hr; have HF := Lib.hid hfl
  clear hr hfl ho hmm hf hk
  go_enter Tryd.func38, Tryd.ntmps38
  go_wp2_with fail
  refine HR.out.mono ?_
  rintro e w1 ⟨rfl, hb⟩
  have hlt := lt_of_row hF
  have hF1 := row_alloc ((hb.block _ hlt).trans hF) (.cells #[.int .i64 49, .int .i64 (m : Int)] 61)
  have hB := hb.alloc hb.size (.cells #[.int .i64 49, .int .i64 (m : Int)] 61)
  clear hb hF hlt
  go_wp2_with fail
  refine (HF.out _ hF1).mono ?_
  rintro e w2 ⟨rfl, rfl⟩
  go_wp2_with fail
  go_ret
  exact ⟨rfl, hB⟩
set_option maxHeartbeats 4000000 in
theorem kind_w65 (c : Nat) (h : c < 256) (hk : modeT c ≠ 12 ∧ modeT c ≠ 0 ∧ modeT c ≠ 1 ∧ modeT c ≠ 2) (hf : fillB c = false) (ho : opT c = 65) (w : World) (tt : TypeId) (fr : Nat × Nat) (hF : w.heap[3]? = some (.cells fillA tt fr)) :
    Calls Tryd.prog 38 #[.int .u8 (c : Int)] w fun e w' => e = .returned (.int .i64 2) ∧ Below w.heap.size w w' := by
  have hr := rowOf_any c h w
  have hfl := fun w' h' => filler_any c w' tt fr h'
  rw [ho] at hr
  generalize hmm : modeT c = m at *
  rw [hf] at hfl
  have d12 : ((m : Int) == 12) = false := by rw [beq_eq_false_iff_ne]; omega
  have d0 : ((m : Int) == 0) = false := by rw [beq_eq_false_iff_ne]; omega
  have d1 : ((m : Int) == 1) = false := by rw [beq_eq_false_iff_ne]; omega
  have d2 : ((m : Int) == 2) = false := by rw [beq_eq_false_iff_ne]; omega
  have HR := Lib.hid hr; have HF := Lib.hid hfl
  clear hr hfl ho hmm hf hk
  go_enter Tryd.func38, Tryd.ntmps38
  go_wp2_with fail
  refine HR.out.mono ?_
  rintro e w1 ⟨rfl, hb⟩
  have hlt := lt_of_row hF
  have hF1 := row_alloc ((hb.block _ hlt).trans hF) (.cells #[.int .i64 65, .int .i64 (m : Int)] 61)
  have hB := hb.alloc hb.size (.cells #[.int .i64 65, .int .i64 (m : Int)] 61)
  clear hb hF hlt
  go_wp2_with fail
  refine (HF.out _ hF1).mono ?_
  rintro e w2 ⟨rfl, rfl⟩
  go_wp2_with fail
  go_ret
  exact ⟨rfl, hB⟩
set_option maxHeartbeats 4000000 in
theorem kind_r2 (c : Nat) (h : c < 256) (hk : modeT c ≠ 12 ∧ modeT c ≠ 0 ∧ modeT c ≠ 1 ∧ modeT c ≠ 2) (hf : fillB c = false) (ho : opT c = 2) (w : World) (tt : TypeId) (fr : Nat × Nat) (hF : w.heap[3]? = some (.cells fillA tt fr)) :
    Calls Tryd.prog 38 #[.int .u8 (c : Int)] w fun e w' => e = .returned (.int .i64 3) ∧ Below w.heap.size w w' := by
  have hr := rowOf_any c h w
  have hfl := fun w' h' => filler_any c w' tt fr h'
  rw [ho] at hr
  generalize hmm : modeT c = m at *
  rw [hf] at hfl
  have d12 : ((m : Int) == 12) = false := by rw [beq_eq_false_iff_ne]; omega
  have d0 : ((m : Int) == 0) = false := by rw [beq_eq_false_iff_ne]; omega
  have d1 : ((m : Int) == 1) = false := by rw [beq_eq_false_iff_ne]; omega
  have d2 : ((m : Int) == 2) = false := by rw [beq_eq_false_iff_ne]; omega
  have HR := Lib.hid hr; have HF := Lib.hid hfl
  clear hr hfl ho hmm hf hk
  go_enter Tryd.func38, Tryd.ntmps38
  go_wp2_with fail
  refine HR.out.mono ?_
  rintro e w1 ⟨rfl, hb⟩
  have hlt := lt_of_row hF
  have hF1 := row_alloc ((hb.block _ hlt).trans hF) (.cells #[.int .i64 2, .int .i64 (m : Int)] 61)
  have hB := hb.alloc hb.size (.cells #[.int .i64 2, .int .i64 (m : Int)] 61)
  clear hb hF hlt
  go_wp2_with fail
  refine (HF.out _ hF1).mono ?_
  rintro e w2 ⟨rfl, rfl⟩
  go_wp2_with fail
  go_ret
  exact ⟨rfl, hB⟩
set_option maxHeartbeats 4000000 in
theorem kind_r32 (c : Nat) (h : c < 256) (hk : modeT c ≠ 12 ∧ modeT c ≠ 0 ∧ modeT c ≠ 1 ∧ modeT c ≠ 2) (hf : fillB c = false) (ho : opT c = 32) (w : World) (tt : TypeId) (fr : Nat × Nat) (hF : w.heap[3]? = some (.cells fillA tt fr)) :
    Calls Tryd.prog 38 #[.int .u8 (c : Int)] w fun e w' => e = .returned (.int .i64 3) ∧ Below w.heap.size w w' := by
  have hr := rowOf_any c h w
  have hfl := fun w' h' => filler_any c w' tt fr h'
  rw [ho] at hr
  generalize hmm : modeT c = m at *
  rw [hf] at hfl
  have d12 : ((m : Int) == 12) = false := by rw [beq_eq_false_iff_ne]; omega
  have d0 : ((m : Int) == 0) = false := by rw [beq_eq_false_iff_ne]; omega
  have d1 : ((m : Int) == 1) = false := by rw [beq_eq_false_iff_ne]; omega
  have d2 : ((m : Int) == 2) = false := by rw [beq_eq_false_iff_ne]; omega
  have HR := Lib.hid hr; have HF := Lib.hid hfl
  clear hr hfl ho hmm hf hk
  go_enter Tryd.func38, Tryd.ntmps38
  go_wp2_with fail
  refine HR.out.mono ?_
  rintro e w1 ⟨rfl, hb⟩
  have hlt := lt_of_row hF
  have hF1 := row_alloc ((hb.block _ hlt).trans hF) (.cells #[.int .i64 32, .int .i64 (m : Int)] 61)
  have hB := hb.alloc hb.size (.cells #[.int .i64 32, .int .i64 (m : Int)] 61)
  clear hb hF hlt
  go_wp2_with fail
  refine (HF.out _ hF1).mono ?_
  rintro e w2 ⟨rfl, rfl⟩
  go_wp2_with fail
  go_ret
  exact ⟨rfl, hB⟩
set_option maxHeartbeats 4000000 in
theorem kind_r39 (c : Nat) (h : c < 256) (hk : modeT c ≠ 12 ∧ modeT c ≠ 0 ∧ modeT c ≠ 1 ∧ modeT c ≠ 2) (hf : fillB c = false) (ho : opT c = 39) (w : World) (tt : TypeId) (fr : Nat × Nat) (hF : w.heap[3]? = some (.cells fillA tt fr)) :
    Calls Tryd.prog 38 #[.int .u8 (c : Int)] w fun e w' => e = .returned (.int .i64 3) ∧ Below w.heap.size w w' := by
  have hr := rowOf_any c h w
  have hfl := fun w' h' => filler_any c w' tt fr h'
  rw [ho] at hr
  generalize hmm : modeT c = m at *
  rw [hf] at hfl
  have d12 : ((m : Int) == 12) = false := by rw [beq_eq_false_iff_ne]; omega
  have d0 : ((m : Int) == 0) = false := by rw [beq_eq_false_iff_ne]; omega
  have d1 : ((m : Int) == 1) = false := by rw [beq_eq_false_iff_ne]; omega
  have d2 : ((m : Int) == 2) = false := by rw [beq_eq_false_iff_ne]; omega
  have HR := Lib.hid hr; have HF := Lib.hid hfl
  clear hr hfl ho hmm hf hk
  go_enter Tryd.func38, Tryd.ntmps38
  go_wp2_with fail
  refine HR.out.mono ?_
  rintro e w1 ⟨rfl, hb⟩
  have hlt := lt_of_row hF
  have hF1 := row_alloc ((hb.block _ hlt).trans hF) (.cells #[.int .i64 39, .int .i64 (m : Int)] 61)
  have hB := hb.alloc hb.size (.cells #[.int .i64 39, .int .i64 (m : Int)] 61)
  clear hb hF hlt
  go_wp2_with fail
  refine (HF.out _ hF1).mono ?_
  rintro e w2 ⟨rfl, rfl⟩
  go_wp2_with fail
  go_ret
  exact ⟨rfl, hB⟩
set_option maxHeartbeats 4000000 in
theorem kind_r40 (c : Nat) (h : c < 256) (hk : modeT c ≠ 12 ∧ modeT c ≠ 0 ∧ modeT c ≠ 1 ∧ modeT c ≠ 2) (hf : fillB c = false) (ho : opT c = 40) (w : World) (tt : TypeId) (fr : Nat × Nat) (hF : w.heap[3]? = some (.cells fillA tt fr)) :
    Calls Tryd.prog 38 #[.int .u8 (c : Int)] w fun e w' => e = .returned (.int .i64 3) ∧ Below w.heap.size w w' := by
  have hr := rowOf_any c h w
  have hfl := fun w' h' => filler_any c w' tt fr h'
  rw [ho] at hr
  generalize hmm : modeT c = m at *
  rw [hf] at hfl
  have d12 : ((m : Int) == 12) = false := by rw [beq_eq_false_iff_ne]; omega
  have d0 : ((m : Int) == 0) = false := by rw [beq_eq_false_iff_ne]; omega
  have d1 : ((m : Int) == 1) = false := by rw [beq_eq_false_iff_ne]; omega
  have d2 : ((m : Int) == 2) = false := by rw [beq_eq_false_iff_ne]; omega
  have HR := Lib.hid hr; have HF := Lib.hid hfl
  clear hr hfl ho hmm hf hk
  go_enter Tryd.func38, Tryd.ntmps38
  go_wp2_with fail
  refine HR.out.mono ?_
  rintro e w1 ⟨rfl, hb⟩
  have hlt := lt_of_row hF
  have hF1 := row_alloc ((hb.block _ hlt).trans hF) (.cells #[.int .i64 40, .int .i64 (m : Int)] 61)
  have hB := hb.alloc hb.size (.cells #[.int .i64 40, .int .i64 (m : Int)] 61)
  clear hb hF hlt
  go_wp2_with fail
  refine (HF.out _ hF1).mono ?_
  rintro e w2 ⟨rfl, rfl⟩
  go_wp2_with fail
  go_ret
  exact ⟨rfl, hB⟩
set_option maxHeartbeats 4000000 in
theorem kind_r20 (c : Nat) (h : c < 256) (hk : modeT c ≠ 12 ∧ modeT c ≠ 0 ∧ modeT c ≠ 1 ∧ modeT c ≠ 2) (hf : fillB c = false) (ho : opT c = 20) (w : World) (tt : TypeId) (fr : Nat × Nat) (hF : w.heap[3]? = some (.cells fillA tt fr)) :
    Calls Tryd.prog 38 #[.int .u8 (c : Int)] w fun e w' => e = .returned (.int .i64 3) ∧ Below w.heap.size w w' := by
  have hr := rowOf_any c h w
  have hfl := fun w' h' => filler_any c w' tt fr h'
  rw [ho] at hr
  generalize hmm : modeT c = m at *
  rw [hf] at hfl
  have d12 : ((m : Int) == 12) = false := by rw [beq_eq_false_iff_ne]; omega
  have d0 : ((m : Int) == 0) = false := by rw [beq_eq_false_iff_ne]; omega
  have d1 : ((m : Int) == 1) = false := by rw [beq_eq_false_iff_ne]; omega
  have d2 : ((m : Int) == 2) = false := by rw [beq_eq_false_iff_ne]; omega
  have HR := Lib.hid hr; have HF := Lib.hid hfl
  clear hr hfl ho hmm hf hk
  go_enter Tryd.func38, Tryd.ntmps38
  go_wp2_with fail
  refine HR.out.mono ?_
  rintro e w1 ⟨rfl, hb⟩
  have hlt := lt_of_row hF
  have hF1 := row_alloc ((hb.block _ hlt).trans hF) (.cells #[.int .i64 20, .int .i64 (m : Int)] 61)
  have hB := hb.alloc hb.size (.cells #[.int .i64 20, .int .i64 (m : Int)] 61)
  clear hb hF hlt
  go_wp2_with fail
  refine (HF.out _ hF1).mono ?_
  rintro e w2 ⟨rfl, rfl⟩
  go_wp2_with fail
  go_ret
  exact ⟨rfl, hB⟩
set_option maxHeartbeats 4000000 in
theorem kind_r24 (c : Nat) (h : c < 256) (hk : modeT c ≠ 12 ∧ modeT c ≠ 0 ∧ modeT c ≠ 1 ∧ modeT c ≠ 2) (hf : fillB c = false) (ho : opT c = 24) (w : World) (tt : TypeId) (fr : Nat × Nat) (hF : w.heap[3]? = some (.cells fillA tt fr)) :
    Calls Tryd.prog 38 #[.int .u8 (c : Int)] w fun e w' => e = .returned (.int .i64 3) ∧ Below w.heap.size w w' := by
  have hr := rowOf_any c h w
  have hfl := fun w' h' => filler_any c w' tt fr h'
  rw [ho] at hr
  generalize hmm : modeT c = m at *
  rw [hf] at hfl
  have d12 : ((m : Int) == 12) = false := by rw [beq_eq_false_iff_ne]; omega
  have d0 : ((m : Int) == 0) = false := by rw [beq_eq_false_iff_ne]; omega
  have d1 : ((m : Int) == 1) = false := by rw [beq_eq_false_iff_ne]; omega
  have d2 : ((m : Int) == 2) = false := by rw [beq_eq_false_iff_ne]; omega
  have HR := Lib.hid hr; have HF := Lib.hid hfl
  clear hr hfl ho hmm hf hk
  go_enter Tryd.func38, Tryd.ntmps38
  go_wp2_with fail
  refine HR.out.mono ?_
  rintro e w1 ⟨rfl, hb⟩
  have hlt := lt_of_row hF
  have hF1 := row_alloc ((hb.block _ hlt).trans hF) (.cells #[.int .i64 24, .int .i64 (m : Int)] 61)
  have hB := hb.alloc hb.size (.cells #[.int .i64 24, .int .i64 (m : Int)] 61)
  clear hb hF hlt
  go_wp2_with fail
  refine (HF.out _ hF1).mono ?_
  rintro e w2 ⟨rfl, rfl⟩
  go_wp2_with fail
  go_ret
  exact ⟨rfl, hB⟩
set_option maxHeartbeats 4000000 in
theorem kind_r67 (c : Nat) (h : c < 256) (hk : modeT c ≠ 12 ∧ modeT c ≠ 0 ∧ modeT c ≠ 1 ∧ modeT c ≠ 2) (hf : fillB c = false) (ho : opT c = 67) (w : World) (tt : TypeId) (fr : Nat × Nat) (hF : w.heap[3]? = some (.cells fillA tt fr)) :
    Calls Tryd.prog 38 #[.int .u8 (c : Int)] w fun e w' => e = .returned (.int .i64 3) ∧ Below w.heap.size w w' := by
  have hr := rowOf_any c h w
  have hfl := fun w' h' => filler_any c w' tt fr h'
  rw [ho] at hr
  generalize hmm : modeT c = m at *
  rw [hf] at hfl
  have d12 : ((m : Int) == 12) = false := by rw [beq_eq_false_iff_ne]; omega
  have d0 : ((m : Int) == 0) = false := by rw [beq_eq_false_iff_ne]; omega
  have d1 : ((m : Int) == 1) = false := by rw [beq_eq_false_iff_ne]; omega
  have d2 : ((m : Int) == 2) = false := by rw [beq_eq_false_iff_ne]; omega
  have HR := Lib.hid hr; have HF := Lib.hid hfl
  clear hr hfl ho hmm hf hk
  go_enter Tryd.func38, Tryd.ntmps38
  go_wp2_with fail
  refine HR.out.mono ?_
  rintro e w1 ⟨rfl, hb⟩
  have hlt := lt_of_row hF
  have hF1 := row_alloc ((hb.block _ hlt).trans hF) (.cells #[.int .i64 67, .int .i64 (m : Int)] 61)
  have hB := hb.alloc hb.size (.cells #[.int .i64 67, .int .i64 (m : Int)] 61)
  clear hb hF hlt
  go_wp2_with fail
  refine (HF.out _ hF1).mono ?_
  rintro e w2 ⟨rfl, rfl⟩
  go_wp2_with fail
  go_ret
  exact ⟨rfl, hB⟩
set_option maxHeartbeats 4000000 in
theorem kind_r63 (c : Nat) (h : c < 256) (hk : modeT c ≠ 12 ∧ modeT c ≠ 0 ∧ modeT c ≠ 1 ∧ modeT c ≠ 2) (hf : fillB c = false) (ho : opT c = 63) (w : World) (tt : TypeId) (fr : Nat × Nat) (hF : w.heap[3]? = some (.cells fillA tt fr)) :
    Calls Tryd.prog 38 #[.int .u8 (c : Int)] w fun e w' => e = .returned (.int .i64 3) ∧ Below w.heap.size w w' := by
  have hr := rowOf_any c h w
  have hfl := fun w' h' => filler_any c w' tt fr h'
  rw [ho] at hr
  generalize hmm : modeT c = m at *
  rw [hf] at hfl
  have d12 : ((m : Int) == 12) = false := by rw [beq_eq_false_iff_ne]; omega
  have d0 : ((m : Int) == 0) = false := by rw [beq_eq_false_iff_ne]; omega
  have d1 : ((m : Int) == 1) = false := by rw [beq_eq_false_iff_ne]; omega
  have d2 : ((m : Int) == 2) = false := by rw [beq_eq_false_iff_ne]; omega
  have HR := Lib.hid hr; have HF := Lib.hid hfl
  clear hr hfl ho hmm hf hk
  go_enter Tryd.func38, Tryd.ntmps38
  go_wp2_with fail
  refine HR.out.mono ?_
  rintro e w1 ⟨rfl, hb⟩
  have hlt := lt_of_row hF
  have hF1 := row_alloc ((hb.block _ hlt).trans hF) (.cells #[.int .i64 63, .int .i64 (m : Int)] 61)
  have hB := hb.alloc hb.size (.cells #[.int .i64 63, .int .i64 (m : Int)] 61)
  clear hb hF hlt
  go_wp2_with fail
  refine (HF.out _ hF1).mono ?_
  rintro e w2 ⟨rfl, rfl⟩
  go_wp2_with fail
  go_ret
  exact ⟨rfl, hB⟩
set_option maxHeartbeats 4000000 in
theorem kind_r68 (c : Nat) (h : c < 256) (hk : modeT c ≠ 12 ∧ modeT c ≠ 0 ∧ modeT c ≠ 1 ∧ modeT c ≠ 2) (hf : fillB c = false) (ho : opT c = 68) (w : World) (tt : TypeId) (fr : Nat × Nat) (hF : w.heap[3]? = some (.cells fillA tt fr)) :
    Calls Tryd.prog 38 #[.int .u8 (c : Int)] w fun e w' => e = .returned (.int .i64 3) ∧ Below w.heap.size w w' := by
  have hr := rowOf_any c h w
  have hfl := fun w' h' => filler_any c w' tt fr h'
  rw [ho] at hr
  generalize hmm : modeT c = m at *
  rw [hf] at hfl
  have d12 : ((m : Int) == 12) = false := by rw [beq_eq_false_iff_ne]; omega
  have d0 : ((m : Int) == 0) = false := by rw [beq_eq_false_iff_ne]; omega
  have d1 : ((m : Int) == 1) = false := by rw [beq_eq_false_iff_ne]; omega
  have d2 : ((m : Int) == 2) = false := by rw [beq_eq_false_iff_ne]; omega
  have HR := Lib.hid hr; have HF := Lib.hid hfl
  clear hr hfl ho hmm hf hk
  go_enter Tryd.func38, Tryd.ntmps38
  go_wp2_with fail
  refine HR.out.mono ?_
  rintro e w1 ⟨rfl, hb⟩
  have hlt := lt_of_row hF
  have hF1 := row_alloc ((hb.block _ hlt).trans hF) (.cells #[.int .i64 68, .int .i64 (m : Int)] 61)
  have hB := hb.alloc hb.size (.cells #[.int .i64 68, .int .i64 (m : Int)] 61)
  clear hb hF hlt
  go_wp2_with fail
  refine (HF.out _ hF1).mono ?_
  rintro e w2 ⟨rfl, rfl⟩
  go_wp2_with fail
  go_ret
  exact ⟨rfl, hB⟩
set_option maxHeartbeats 4000000 in
theorem kind_r64 (c : Nat) (h : c < 256) (hk : modeT c ≠ 12 ∧ modeT c ≠ 0 ∧ modeT c ≠ 1 ∧ modeT c ≠ 2) (hf : fillB c = false) (ho : opT c = 64) (w : World) (tt : TypeId) (fr : Nat × Nat) (hF : w.heap[3]? = some (.cells fillA tt fr)) :
    Calls Tryd.prog 38 #[.int .u8 (c : Int)] w fun e w' => e = .returned (.int .i64 3) ∧ Below w.heap.size w w' := by
  have hr := rowOf_any c h w
  have hfl := fun w' h' => filler_any c w' tt fr h'
  rw [ho] at hr
  generalize hmm : modeT c = m at *
  rw [hf] at hfl
  have d12 : ((m : Int) == 12) = false := by rw [beq_eq_false_iff_ne]; omega
  have d0 : ((m : Int) == 0) = false := by rw [beq_eq_false_iff_ne]; omega
  have d1 : ((m : Int) == 1) = false := by rw [beq_eq_false_iff_ne]; omega
  have d2 : ((m : Int) == 2) = false := by rw [beq_eq_false_iff_ne]; omega
  have HR := Lib.hid hr; have HF := Lib.hid hfl
  clear hr hfl ho hmm hf hk
  go_enter Tryd.func38, Tryd.ntmps38
  go_wp2_with fail
  refine HR.out.mono ?_
  rintro e w1 ⟨rfl, hb⟩
  have hlt := lt_of_row hF
  have hF1 := row_alloc ((hb.block _ hlt).trans hF) (.cells #[.int .i64 64, .int .i64 (m : Int)] 61)
  have hB := hb.alloc hb.size (.cells #[.int .i64 64, .int .i64 (m : Int)] 61)
  clear hb hF hlt
  go_wp2_with fail
  refine (HF.out _ hF1).mono ?_
  rintro e w2 ⟨rfl, rfl⟩
  go_wp2_with fail
  go_ret
  exact ⟨rfl, hB⟩
set_option maxHeartbeats 4000000 in
theorem kind_r59 (c : Nat) (h : c < 256) (hk : modeT c ≠ 12 ∧ modeT c ≠ 0 ∧ modeT c ≠ 1 ∧ modeT c ≠ 2) (hf : fillB c = false) (ho : opT c = 59) (w : World) (tt : TypeId) (fr : Nat × Nat) (hF : w.heap[3]? = some (.cells fillA tt fr)) :
    Calls Tryd.prog 38 #[.int .u8 (c : Int)] w fun e w' => e = .returned (.int .i64 3) ∧ Below w.heap.size w w' := by
  have hr := rowOf_any c h w
  have hfl := fun w' h' => filler_any c w' tt fr h'
  rw [ho] at hr
  generalize hmm : modeT c = m at *
  rw [hf] at hfl
  have d12 : ((m : Int) == 12) = false := by rw [beq_eq_false_iff_ne]; omega
  have d0 : ((m : Int) == 0) = false := by rw [beq_eq_false_iff_ne]; omega
  have d1 : ((m : Int) == 1) = false := by rw [beq_eq_false_iff_ne]; omega
  have d2 : ((m : Int) == 2) = false := by rw [beq_eq_false_iff_ne]; omega
  have HR := Lib.hid hr; have HF := Lib.hid hfl
  clear hr hfl ho hmm hf hk
  go_enter Tryd.func38, Tryd.ntmps38
  go_wp2_with fail
  refine HR.out.mono ?_
  rintro e w1 ⟨rfl, hb⟩
  have hlt := lt_of_row hF
  have hF1 := row_alloc ((hb.block _ hlt).trans hF) (.cells #[.int .i64 59, .int .i64 (m : Int)] 61)
  have hB := hb.alloc hb.size (.cells #[.int .i64 59, .int .i64 (m : Int)] 61)
  clear hb hF hlt
  go_wp2_with fail
  refine (HF.out _ hF1).mono ?_
  rintro e w2 ⟨rfl, rfl⟩
  go_wp2_with fail
  go_ret
  exact ⟨rfl, hB⟩
set_option maxHeartbeats 4000000 in
theorem kind_r60 (c : Nat) (h : c < 256) (hk : modeT c ≠ 12 ∧ modeT c ≠ 0 ∧ modeT c ≠ 1 ∧ modeT c ≠ 2) (hf : fillB c = false) (ho : opT c = 60) (w : World) (tt : TypeId) (fr : Nat × Nat) (hF : w.heap[3]? = some (.cells fillA tt fr)) :
    Calls Tryd.prog 38 #[.int .u8 (c : Int)] w fun e w' => e = .returned (.int .i64 3) ∧ Below w.heap.size w w' := by
  have hr := rowOf_any c h w
  have hfl := fun w' h' => filler_any c w' tt fr h'
  rw [ho] at hr
  generalize hmm : modeT c = m at *
  rw [hf] at hfl
  have d12 : ((m : Int) == 12) = false := by rw [beq_eq_false_iff_ne]; omega
  have d0 : ((m : Int) == 0) = false := by rw [beq_eq_false_iff_ne]; omega
  have d1 : ((m : Int) == 1) = false := by rw [beq_eq_false_iff_ne]; omega
  have d2 : ((m : Int) == 2) = false := by rw [beq_eq_false_iff_ne]; omega
  have HR := Lib.hid hr; have HF := Lib.hid hfl
  clear hr hfl ho hmm hf hk
  go_enter Tryd.func38, Tryd.ntmps38
  go_wp2_with fail
  refine HR.out.mono ?_
  rintro e w1 ⟨rfl, hb⟩
  have hlt := lt_of_row hF
  have hF1 := row_alloc ((hb.block _ hlt).trans hF) (.cells #[.int .i64 60, .int .i64 (m : Int)] 61)
  have hB := hb.alloc hb.size (.cells #[.int .i64 60, .int .i64 (m : Int)] 61)
  clear hb hF hlt
  go_wp2_with fail
  refine (HF.out _ hF1).mono ?_
  rintro e w2 ⟨rfl, rfl⟩
  go_wp2_with fail
  go_ret
  exact ⟨rfl, hB⟩
set_option maxHeartbeats 4000000 in
theorem kind_x (c : Nat) (h : c < 256) (hn : opT c ≠ 27 ∧ opT c ≠ 28 ∧ opT c ≠ 42 ∧ opT c ≠ 41 ∧ opT c ≠ 10 ∧ opT c ≠ 35 ∧ opT c ≠ 36 ∧ opT c ≠ 37 ∧ opT c ≠ 38 ∧ opT c ≠ 69) (hk : modeT c ≠ 12 ∧ modeT c ≠ 0 ∧ modeT c ≠ 1 ∧ modeT c ≠ 2) (hq : opT c ≠ 47 ∧ opT c ≠ 48 ∧ opT c ≠ 49 ∧ opT c ≠ 65 ∧ opT c ≠ 2 ∧ opT c ≠ 32 ∧ opT c ≠ 39 ∧ opT c ≠ 40 ∧ opT c ≠ 20 ∧ opT c ≠ 24 ∧ opT c ≠ 67 ∧ opT c ≠ 63 ∧ opT c ≠ 68 ∧ opT c ≠ 64 ∧ opT c ≠ 59 ∧ opT c ≠ 60) (hf : fillB c = false) (w : World) (tt : TypeId) (fr : Nat × Nat) (hF : w.heap[3]? = some (.cells fillA tt fr)) :
    Calls Tryd.prog 38 #[.int .u8 (c : Int)] w fun e w' => e = .returned (.int .i64 1) ∧ Below w.heap.size w w' := by
  have hr := rowOf_any c h w
  have hfl := fun w' h' => filler_any c w' tt fr h'
  generalize hoo : opT c = o at *
  generalize hmm : modeT c = m at *
  rw [hf] at hfl
  have b27 : ((o : Int) == 27) = false := by rw [beq_eq_false_iff_ne]; omega
  have b28 : ((o : Int) == 28) = false := by rw [beq_eq_false_iff_ne]; omega
  have b42 : ((o : Int) == 42) = false := by rw [beq_eq_false_iff_ne]; omega
  have b41 : ((o : Int) == 41) = false := by rw [beq_eq_false_iff_ne]; omega
  have b10 : ((o : Int) == 10) = false := by rw [beq_eq_false_iff_ne]; omega
  have b35 : ((o : Int) == 35) = false := by rw [beq_eq_false_iff_ne]; omega
  have b36 : ((o : Int) == 36) = false := by rw [beq_eq_false_iff_ne]; omega
  have b37 : ((o : Int) == 37) = false := by rw [beq_eq_false_iff_ne]; omega
  have b38 : ((o : Int) == 38) = false := by rw [beq_eq_false_iff_ne]; omega
  have b69 : ((o : Int) == 69) = false := by rw [beq_eq_false_iff_ne]; omega
  have b47 : ((o : Int) == 47) = false := by rw [beq_eq_false_iff_ne]; omega
  have b48 : ((o : Int) == 48) = false := by rw [beq_eq_false_iff_ne]; omega
  have b49 : ((o : Int) == 49) = false := by rw [beq_eq_false_iff_ne]; omega
  have b65 : ((o : Int) == 65) = false := by rw [beq_eq_false_iff_ne]; omega
  have b2 : ((o : Int) == 2) = false := by rw [beq_eq_false_iff_ne]; omega
  have b32 : ((o : Int) == 32) = false := by rw [beq_eq_false_iff_ne]; omega
  have b39 : ((o : Int) == 39) = false := by rw [beq_eq_false_iff_ne]; omega
  have b40 : ((o : Int) == 40) = false := by rw [beq_eq_false_iff_ne]; omega
  have b20 : ((o : Int) == 20) = false := by rw [beq_eq_false_iff_ne]; omega
  have b24 : ((o : Int) == 24) = false := by rw [beq_eq_false_iff_ne]; omega
  have b67 : ((o : Int) == 67) = false := by rw [beq_eq_false_iff_ne]; omega
  have b63 : ((o : Int) == 63) = false := by rw [beq_eq_false_iff_ne]; omega
  have b68 : ((o : Int) == 68) = false := by rw [beq_eq_false_iff_ne]; omega
  have b64 : ((o : Int) == 64) = false := by rw [beq_eq_false_iff_ne]; omega
  have b59 : ((o : Int) == 59) = false := by rw [beq_eq_false_iff_ne]; omega
  have b60 : ((o : Int) == 60) = false := by rw [beq_eq_false_iff_ne]; omega
  have d12 : ((m : Int) == 12) = false := by rw [beq_eq_false_iff_ne]; omega
  have d0 : ((m : Int) == 0) = false := by rw [beq_eq_false_iff_ne]; omega
  have d1 : ((m : Int) == 1) = false := by rw [beq_eq_false_iff_ne]; omega
  have d2 : ((m : Int) == 2) = false := by rw [beq_eq_false_iff_ne]; omega
  clear hq
  have HR := Lib.hid hr; have HF := Lib.hid hfl
  clear hr hfl hoo hmm hf hn hk
  go_enter Tryd.func38, Tryd.ntmps38
  go_wp2_with fail
  refine HR.out.mono ?_
  rintro e w1 ⟨rfl, hb⟩
  have hlt := lt_of_row hF
  have hF1 := row_alloc ((hb.block _ hlt).trans hF) (.cells #[.int .i64 (o : Int), .int .i64 (m : Int)] 61)
  have hB := hb.alloc hb.size (.cells #[.int .i64 (o : Int), .int .i64 (m : Int)] 61)
  clear hb hF hlt
  go_wp2_with fail
  refine (HF.out _ hF1).mono ?_
  rintro e w2 ⟨rfl, rfl⟩
  go_wp2_with fail
  go_ret
  exact ⟨rfl, hB⟩
theorem kind_any (c : Nat) (h : c < 256) (w : World) (tt : TypeId) (fr : Nat × Nat) (hF : w.heap[3]? = some (.cells fillA tt fr)) :
    Calls Tryd.prog 38 #[.int .u8 (c : Int)] w fun e w' => e = .returned (.int .i64 (kindT c : Int)) ∧ Below w.heap.size w w' := by
  unfold kindT kindOf
  by_cases o27 : opT c = 27
  · rw [if_pos o27]; exact kind_o27 c h o27 w tt fr hF
  rw [if_neg o27]
  by_cases o28 : opT c = 28
  · rw [if_pos o28]; exact kind_o28 c h o28 w tt fr hF
  rw [if_neg o28]
  by_cases o42 : opT c = 42
  · rw [if_pos o42]; exact kind_o42 c h o42 w tt fr hF
  rw [if_neg o42]
  by_cases o41 : opT c = 41
  · rw [if_pos o41]; exact kind_o41 c h o41 w tt fr hF
  rw [if_neg o41]
  by_cases o10 : opT c = 10
  · rw [if_pos o10]; exact kind_o10 c h o10 w tt fr hF
  rw [if_neg o10]
  by_cases o35 : opT c = 35
  · rw [if_pos o35]; exact kind_o35 c h o35 w tt fr hF
  rw [if_neg o35]
  by_cases o36 : opT c = 36
  · rw [if_pos o36]; exact kind_o36 c h o36 w tt fr hF
  rw [if_neg o36]
  by_cases o37 : opT c = 37
  · rw [if_pos o37]; exact kind_o37 c h o37 w tt fr hF
  rw [if_neg o37]
  by_cases o38 : opT c = 38
  · rw [if_pos o38]; exact kind_o38 c h o38 w tt fr hF
  rw [if_neg o38]
  by_cases o69 : opT c = 69
  · rw [if_pos o69]; exact kind_o69 c h o69 w tt fr hF
  rw [if_neg o69]
  by_cases m12 : modeT c = 12
  · rw [if_pos m12]; exact kind_m12 c h ⟨o27, o28, o42, o41, o10, o35, o36, o37, o38, o69⟩ m12 w tt fr hF
  rw [if_neg m12]
  by_cases m0 : modeT c = 0
  · rw [if_pos m0]; exact kind_m0 c h ⟨o27, o28, o42, o41, o10, o35, o36, o37, o38, o69⟩ m0 w tt fr hF
  rw [if_neg m0]
  by_cases m1 : modeT c = 1
  · rw [if_pos m1]; exact kind_m1 c h ⟨o27, o28, o42, o41, o10, o35, o36, o37, o38, o69⟩ m1 w tt fr hF
  rw [if_neg m1]
  by_cases m2 : modeT c = 2
  · rw [if_pos m2]; exact kind_m2 c h ⟨o27, o28, o42, o41, o10, o35, o36, o37, o38, o69⟩ m2 w tt fr hF
  rw [if_neg m2]
  by_cases hf : fillB c = true
  · rw [if_pos hf]; exact kind_f c h ⟨o27, o28, o42, o41, o10, o35, o36, o37, o38, o69⟩ ⟨m12, m0, m1, m2⟩ hf w tt fr hF
  rw [if_neg hf]
  have hf' : fillB c = false := by simpa using hf
  by_cases o47 : opT c = 47
  · rw [if_pos o47]; exact kind_w47 c h ⟨m12, m0, m1, m2⟩ hf' o47 w tt fr hF
  rw [if_neg o47]
  by_cases o48 : opT c = 48
  · rw [if_pos o48]; exact kind_w48 c h ⟨m12, m0, m1, m2⟩ hf' o48 w tt fr hF
  rw [if_neg o48]
  by_cases o49 : opT c = 49
  · rw [if_pos o49]; exact kind_w49 c h ⟨m12, m0, m1, m2⟩ hf' o49 w tt fr hF
  rw [if_neg o49]
  by_cases o65 : opT c = 65
  · rw [if_pos o65]; exact kind_w65 c h ⟨m12, m0, m1, m2⟩ hf' o65 w tt fr hF
  rw [if_neg o65]
  by_cases o2 : opT c = 2
  · rw [if_pos o2]; exact kind_r2 c h ⟨m12, m0, m1, m2⟩ hf' o2 w tt fr hF
  rw [if_neg o2]
  by_cases o32 : opT c = 32
  · rw [if_pos o32]; exact kind_r32 c h ⟨m12, m0, m1, m2⟩ hf' o32 w tt fr hF
  rw [if_neg o32]
  by_cases o39 : opT c = 39
  · rw [if_pos o39]; exact kind_r39 c h ⟨m12, m0, m1, m2⟩ hf' o39 w tt fr hF
  rw [if_neg o39]
  by_cases o40 : opT c = 40
  · rw [if_pos o40]; exact kind_r40 c h ⟨m12, m0, m1, m2⟩ hf' o40 w tt fr hF
  rw [if_neg o40]
  by_cases o20 : opT c = 20
  · rw [if_pos o20]; exact kind_r20 c h ⟨m12, m0, m1, m2⟩ hf' o20 w tt fr hF
  rw [if_neg o20]
  by_cases o24 : opT c = 24
  · rw [if_pos o24]; exact kind_r24 c h ⟨m12, m0, m1, m2⟩ hf' o24 w tt fr hF
  rw [if_neg o24]
  by_cases o67 : opT c = 67
  · rw [if_pos o67]; exact kind_r67 c h ⟨m12, m0, m1, m2⟩ hf' o67 w tt fr hF
  rw [if_neg o67]
  by_cases o63 : opT c = 63
  · rw [if_pos o63]; exact kind_r63 c h ⟨m12, m0, m1, m2⟩ hf' o63 w tt fr hF
  rw [if_neg o63]
  by_cases o68 : opT c = 68
  · rw [if_pos o68]; exact kind_r68 c h ⟨m12, m0, m1, m2⟩ hf' o68 w tt fr hF
  rw [if_neg o68]
  by_cases o64 : opT c = 64
  · rw [if_pos o64]; exact kind_r64 c h ⟨m12, m0, m1, m2⟩ hf' o64 w tt fr hF
  rw [if_neg o64]
  by_cases o59 : opT c = 59
  · rw [if_pos o59]; exact kind_r59 c h ⟨m12, m0, m1, m2⟩ hf' o59 w tt fr hF
  rw [if_neg o59]
  by_cases o60 : opT c = 60
  · rw [if_pos o60]; exact kind_r60 c h ⟨m12, m0, m1, m2⟩ hf' o60 w tt fr hF
  rw [if_neg o60]
  exact kind_x c h ⟨o27, o28, o42, o41, o10, o35, o36, o37, o38, o69⟩ ⟨m12, m0, m1, m2⟩ ⟨o47, o48, o49, o65, o2, o32, o39, o40, o20, o24, o67, o63, o68, o64, o59, o60⟩ hf' w tt fr hF
end Go.Proofs.YtknfphgncoojeaaDoor

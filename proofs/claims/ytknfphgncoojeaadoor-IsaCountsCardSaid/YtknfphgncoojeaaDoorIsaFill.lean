/- isa.filler, isa.class, isa.kind: the contracts. -/
import Derived.Test.YtknfphgncoojeaaDoorIsaRow
import Derived.WalkLawsBesides
namespace Go.Proofs.YtknfphgncoojeaaDoor
open Go.RowKit

def fillL : List Nat := [139, 147, 155, 156, 158, 159, 171]
def fillA : Array Value := #[.int .u8 139, .int .u8 147, .int .u8 155, .int .u8 156, .int .u8 158, .int .u8 159, .int .u8 171]
def fillB (c : Nat) : Bool := fillL.contains c
theorem sizeFill : (Tryd.prog.info? 100).map (·.size) = some 7 := by kernel_rfl
theorem fill_index (k : Nat) (h : k < 7) (w : World) : (Instr.index 100 (.agg fillA) (.int .i64 (k : Int))).run Tryd.prog w = .ok (.int .u8 ((fillL.getD k 0 : Nat) : Int)) w := by
  have h1 : 0 ≤ (k : Int) ∧ (k : Int) < 7 := by omega
  have hp : fillA[k]? = some (.int .u8 ((fillL.getD k 0 : Nat) : Int)) := by
    have : k = 0 ∨ k = 1 ∨ k = 2 ∨ k = 3 ∨ k = 4 ∨ k = 5 ∨ k = 6 := by omega
    rcases this with rfl | rfl | rfl | rfl | rfl | rfl | rfl <;> rfl
  unfold Instr.index
  simp [asIntOf, run_underlying Tryd.underlying100, h1, part, hp]
  intro hc
  omega
set_option maxHeartbeats 2000000 in
theorem filler_any (c : Nat) (w : World) (tt : TypeId) (fr : Nat × Nat) (hF : w.heap[3]? = some (.cells fillA tt fr)) :
    Calls Tryd.prog 33 #[.int .u8 (c : Int)] w fun e w' => e = .returned (.bool (fillB c)) ∧ w = w' := by
  go_enter Tryd.func33, Tryd.ntmps33
  go_wp2_with ((with_reducible show wpList _ _ _ (⟨_, .load 100 (.global 3), _, _, _, none⟩ :: _) _ _); refine wpList_load_row rfl 100 (.global 3) rfl 3 ?q1 tt _ fr _ hF Tryd.underlying100 rfl sizeFill ?_; (case q1 => rfl))
  go_loop [4, 6] (fun _ i => ∃ k : Nat, k ≤ 7 ∧ i = .int .i64 k ∧ ∀ j, j < k → fillL.getD j 0 ≠ c) (fun _ i => 7 - (intOf i).toNat)
  case atStart => exact ⟨0, by omega, rfl, fun j hj => by omega⟩
  case round =>
    obtain ⟨k, hk, rfl, hno⟩ := hrel
    have HN := Lib.hid hno; clear hno
    by_cases hlt : k < 7
    · have hi := fill_index k hlt
      obtain ⟨x, hx⟩ : ∃ x, fillL.getD k 0 = x := ⟨_, rfl⟩
      rw [hx] at hi
      have HX := Lib.hid hx; clear hx
      by_cases he : x = c
      · subst he
        have hy : fillB x = true := by
          unfold fillB
          rw [List.contains_iff_mem, ← HX.out, List.getD_eq_getElem?_getD, List.getElem?_eq_getElem hlt]
          exact List.getElem_mem _
        have HY := Lib.hid hy; clear hy
        go_wp2_with fail
        go_ret
        exact ⟨by rw [HY.out]; rfl, rfl⟩
      · have hne : ((x : Int) == (c : Int)) = false := by simp; omega
        go_wp2_with fail
        go_round
        case rel =>
          refine ⟨k + 1, by omega, by go_num, fun j hj => ?_⟩
          rcases Nat.lt_or_ge j k with h | h
          · exact HN.out j h
          · have e : j = k := by omega
            rw [e, HX.out]
            exact he
        case measure => simp [intOf]; omega
    · obtain rfl : k = 7 := by omega
      have hy : fillB c = false := by
        unfold fillB
        rw [Bool.eq_false_iff, ne_eq, List.contains_iff_mem]
        intro hm
        obtain ⟨j, hj, e⟩ := List.mem_iff_getElem.1 hm
        exact HN.out j hj (by rw [List.getD_eq_getElem?_getD, List.getElem?_eq_getElem hj]; exact e)
      have HY := Lib.hid hy; clear hy
      go_wp2_with fail
      go_ret
      exact ⟨by rw [HY.out]; rfl, rfl⟩

/-- where an opcode stands, what it is: as the program has it -/
def classT (c : Nat) : Nat := if opT c = 69 then 2 else if fillB c then 3 else if 55 < opT c ∨ (opT c = 33 ∧ c ≠ 234) ∨ c = 235 then 1 else 0
set_option maxHeartbeats 4000000 in
theorem class_any (c : Nat) (h : c < 256) (w : World) (tt : TypeId) (fr : Nat × Nat) (hF : w.heap[3]? = some (.cells fillA tt fr)) :
    Calls Tryd.prog 34 #[.int .u8 (c : Int)] w fun e w' => e = .returned (.int .i64 (classT c : Int)) ∧ Below w.heap.size w w' := by
  obtain ⟨o, ho⟩ : ∃ o, opT c = o := ⟨_, rfl⟩
  obtain ⟨m, hm⟩ : ∃ m, modeT c = m := ⟨_, rfl⟩
  obtain ⟨f, hf⟩ : ∃ f, fillB c = f := ⟨_, rfl⟩
  have hr := rowOf_any c h w
  rw [ho, hm] at hr
  have hfl := fun w' h' => filler_any c w' tt fr h'
  rw [hf] at hfl
  obtain ⟨r, hr0⟩ : ∃ r, classT c = r := ⟨_, rfl⟩
  have hT : r = if o = 69 then 2 else if f then 3 else if 55 < o ∨ (o = 33 ∧ c ≠ 234) ∨ c = 235 then 1 else 0 := by rw [← hr0]; unfold classT; rw [ho, hf]
  rw [hr0]
  have HR := Lib.hid hr; have HF := Lib.hid hfl; have HT := Lib.hid hT
  clear hr hfl hT ho hm hf hr0
  go_enter Tryd.func34, Tryd.ntmps34
  go_wp2_with fail
  refine HR.out.mono ?_
  rintro e w1 ⟨rfl, hb⟩
  have hlt := lt_of_row hF
  have hF1 := row_alloc ((hb.block _ hlt).trans hF) (.cells #[.int .i64 (o : Int), .int .i64 (m : Int)] 61)
  have hB := hb.alloc hb.size (.cells #[.int .i64 (o : Int), .int .i64 (m : Int)] 61)
  clear hb hF hlt
  by_cases h1 : o = 69
  · have b1 : ((o : Int) == 69) = true := by rw [beq_iff_eq]; omega
    have H1 := Lib.hid h1; clear h1
    go_wp2_with fail
    go_ret
    exact ⟨by rw [HT.out, if_pos H1.out]; rfl, hB⟩
  · have b1 : ((o : Int) == 69) = false := by rw [beq_eq_false_iff_ne]; omega
    cases f with
    | true =>
      go_wp2_with fail
      refine (HF.out _ hF1).mono ?_
      rintro e w2 ⟨rfl, rfl⟩
      go_wp2_with fail
      go_ret
      exact ⟨by rw [HT.out, if_neg h1]; rfl, hB⟩
    | false =>
      have HT1 : Hid (r = if 55 < o ∨ (o = 33 ∧ c ≠ 234) ∨ c = 235 then 1 else 0) := Lib.hid (by rw [HT.out, if_neg h1]; rfl)
      go_wp2_with fail
      refine (HF.out _ hF1).mono ?_
      rintro e w2 ⟨rfl, rfl⟩
      clear HT
      have HT := HT1; clear HT1
      by_cases h2 : 55 < o
      · have b2 : decide ((55 : Int) < (o : Int)) = true := by simp; omega
        go_wp2_with fail
        go_ret
        exact ⟨by rw [HT.out, if_pos (.inl h2)]; rfl, hB⟩
      · have b2 : decide ((55 : Int) < (o : Int)) = false := by simp; omega
        by_cases h3 : o = 33
        · have b3 : ((o : Int) == 33) = true := by rw [beq_iff_eq]; omega
          have H3 := Lib.hid h3; clear h3
          by_cases h4 : c = 234
          · have b4 : ((c : Int) != 234) = false := by rw [bne_eq_false_iff_eq]; omega
            have b5 : ((c : Int) == 235) = false := by rw [beq_eq_false_iff_ne]; omega
            have H4 := Lib.hid h4; clear h4
            go_wp2_with fail
            go_ret
            exact ⟨by rw [HT.out, if_neg (by have := H4.out; omega)]; rfl, hB⟩
          · have b4 : ((c : Int) != 234) = true := by rw [bne_iff_ne]; omega
            go_wp2_with fail
            go_ret
            exact ⟨by rw [HT.out, if_pos (.inr (.inl ⟨H3.out, h4⟩))]; rfl, hB⟩
        · have b3 : ((o : Int) == 33) = false := by rw [beq_eq_false_iff_ne]; omega
          by_cases h4 : c = 235
          · have b4 : ((c : Int) == 235) = true := by rw [beq_iff_eq]; omega
            have H4 := Lib.hid h4; clear h4
            go_wp2_with fail
            go_ret
            exact ⟨by rw [HT.out, if_pos (.inr (.inr H4.out))]; rfl, hB⟩
          · have b4 : ((c : Int) == 235) = false := by rw [beq_eq_false_iff_ne]; omega
            go_wp2_with fail
            go_ret
            exact ⟨by rw [HT.out, if_neg (by omega)]; rfl, hB⟩
end Go.Proofs.YtknfphgncoojeaaDoor

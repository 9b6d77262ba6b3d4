/- alu.Needs, alu.Sets, tandemref3's, isa.Flags, tandemref4.Flags: the contracts; IsaDecodes: the law's walk. -/
import Derived.Test.YtknfphgncoojeaaDoorRefDec
import Derived.Test.YtknfphgncoojeaaDoorRef3N0
import Derived.Test.YtknfphgncoojeaaDoorRef3N1
import Derived.Test.YtknfphgncoojeaaDoorRef3S0
import Derived.Test.YtknfphgncoojeaaDoorRef3S1
import Derived.Test.YtknfphgncoojeaaDoorRef3S2
import Derived.Test.YtknfphgncoojeaaDoorIsaEnc
namespace Go.Proofs.YtknfphgncoojeaaDoor
open Go.RowKit
def flagP (p : Nat × Nat) : List Value := [.int .u8 (p.1 : Int), .int .u8 (p.2 : Int)]
def flagA : Array Value := (flagL.flatMap flagP).toArray
theorem flagA_at (c : Nat) (h : c < 70) : flagA[c * 2]? = some (.int .u8 (needsT c : Int)) ∧ flagA[c * 2 + 1]? = some (.int .u8 (setsT c : Int)) := by
  have hk : c < flagL.length := by show c < 70; exact h
  have hd := flat_at flagP (fun _ => rfl) flagL c hk
  have eo : needsT c = flagL[c].1 := by unfold needsT; rw [List.getD_eq_getElem?_getD, List.getElem?_eq_getElem hk]; rfl
  have em : setsT c = flagL[c].2 := by unfold setsT; rw [List.getD_eq_getElem?_getD, List.getElem?_eq_getElem hk]; rfl
  have e : 2 * c = c * 2 := by omega
  rw [e] at hd
  unfold flagA
  rw [List.getElem?_toArray, List.getElem?_toArray, eo, em]
  have h0 : ((flagL.flatMap flagP).drop (c * 2)).take 2 = [Value.int .u8 (flagL[c].1 : Int), Value.int .u8 (flagL[c].2 : Int)] := hd
  have a0 := congrArg (·[0]?) h0
  have a1 := congrArg (·[1]?) h0
  simp only [List.getElem?_take, List.getElem?_drop] at a0 a1
  exact ⟨by simpa using a0, by simpa using a1⟩
set_option maxRecDepth 100000 in
theorem needs_any (o : Nat) (h : o < 70) (w : World) (tt : TypeId) (fr : Nat × Nat) (hG : w.heap[5]? = some (.cells flagA tt fr)) :
    Calls Tryd.prog 44 #[.int .i64 (o : Int)] w fun e w' => e = .returned (.int .u8 (needsT o : Int)) ∧ w = w' := by
  have c0 := (cell_of_row w _ (o * 2) _ _ _ hG).trans (flagA_at o h).1
  have h0 : decide ((o : Int) < 0) = false := by rw [decide_eq_false_iff_not]; omega
  have h1 : decide (70 ≤ (o : Int)) = false := by rw [decide_eq_false_iff_not]; omega
  go_enter Tryd.func44, Tryd.ntmps44
  go_wp2_with fail
  go_ret
  exact ⟨rfl, rfl⟩
set_option maxRecDepth 100000 in
theorem sets_any (o : Nat) (h : o < 70) (w : World) (tt : TypeId) (fr : Nat × Nat) (hG : w.heap[5]? = some (.cells flagA tt fr)) :
    Calls Tryd.prog 45 #[.int .i64 (o : Int)] w fun e w' => e = .returned (.int .u8 (setsT o : Int)) ∧ w = w' := by
  have c0 := (cell_of_row w _ (o * 2 + 1) _ _ _ hG).trans (flagA_at o h).2
  have h0 : decide ((o : Int) < 0) = false := by rw [decide_eq_false_iff_not]; omega
  have h1 : decide (70 ≤ (o : Int)) = false := by rw [decide_eq_false_iff_not]; omega
  go_enter Tryd.func45, Tryd.ntmps45
  go_wp2_with fail
  go_ret
  exact ⟨rfl, rfl⟩
theorem r3needs_any (o : Nat) (h : o < 70) (w : World) : Calls Tryd.prog 46 #[.int .i64 (o : Int)] w fun e w' => e = .returned (.int .u8 (needsT o : Int)) ∧ w = w' := by
  rcases Nat.lt_or_ge o 35 with h' | h'
  · exact r3needs_0 o ⟨by omega, h'⟩ w
  · exact r3needs_1 o ⟨h', h⟩ w
theorem r3sets_any (o : Nat) (h : o < 70) (w : World) : Calls Tryd.prog 47 #[.int .i64 (o : Int)] w fun e w' => e = .returned (.int .u8 (setsT o : Int)) ∧ w = w' := by
  rcases Nat.lt_or_ge o 24 with h' | h'
  · exact r3sets_0 o ⟨by omega, h'⟩ w
  · rcases Nat.lt_or_ge o 47 with h2 | h2
    · exact r3sets_1 o ⟨h', h2⟩ w
    · exact r3sets_2 o ⟨h2, h⟩ w
theorem field_row (a b : Int) (w : World) : (Instr.field 61 (.agg #[.int .i64 a, .int .i64 b]) 0).run Tryd.prog w = .ok (.int .i64 a) w := by kernel_rfl
set_option maxRecDepth 100000 in
theorem flags_any (c : Nat) (hc : c < 256) (w : World) (tt : TypeId) (fr : Nat × Nat) (hG : w.heap[5]? = some (.cells flagA tt fr)) :
    Calls Tryd.prog 23 #[.int .u8 (c : Int)] w fun e w' => e = .returned (.tuple #[.int .u8 (needsT (opT c) : Int), .int .u8 (setsT (opT c) : Int)]) ∧ Below w.heap.size w w' := by
  obtain ⟨_, _, ho⟩ := kinds_at c hc
  go_enter Tryd.func23, Tryd.ntmps23
  go_wp2_with fail
  refine (rowOf_any c hc w).mono ?_
  rintro e w1 ⟨rfl, hb⟩
  have hG1 := (hb.block _ (lt_of_row hG)).trans hG
  have hf := field_row (opT c : Int) (modeT c : Int) w1
  go_wp2_with fail
  refine (needs_any _ ho w1 tt fr hG1).mono ?_
  rintro e w2 ⟨rfl, rfl⟩
  go_wp2_with fail
  refine (sets_any _ ho w1 tt fr hG1).mono ?_
  rintro e w2 ⟨rfl, rfl⟩
  go_wp2_with fail
  go_ret2
  exact ⟨rfl, hb⟩
set_option maxRecDepth 100000 in
theorem refflags_any (c : Nat) (hc : c < 256) (w : World) (tt : TypeId) (fr : Nat × Nat) (hL : w.heap[4]? = some (.cells lettersA tt fr)) :
    Calls Tryd.prog 24 #[.int .u8 (c : Int)] w fun e w' => e = .returned (.tuple #[.int .u8 (needsT (opT c) : Int), .int .u8 (setsT (opT c) : Int)]) ∧ Below w.heap.size w w' := by
  obtain ⟨_, _, ho⟩ := kinds_at c hc
  have hrow := refrow_any c hc w tt fr hL
  unfold instV at hrow
  obtain ⟨k, hk⟩ : ∃ k, kindT c = k := ⟨_, rfl⟩
  obtain ⟨m, hm⟩ : ∃ m, modeT c = m := ⟨_, rfl⟩
  obtain ⟨o, ho2⟩ : ∃ o, opT c = o := ⟨_, rfl⟩
  obtain ⟨cl, hcl⟩ : ∃ cl, classT c = cl := ⟨_, rfl⟩
  obtain ⟨l, hl⟩ : ∃ l, lenR (modeT c) = l := ⟨_, rfl⟩
  rw [hl, hk, hm, ho2, hcl] at hrow
  rw [ho2] at ho ⊢
  clear hl hk hm ho2 hcl hL
  go_enter Tryd.func24, Tryd.ntmps24
  go_wp2_with fail
  refine hrow.mono ?_
  rintro e w5 ⟨rfl, hb⟩
  have hB := hb.alloc hb.size (.cells #[.int .i64 (o : Int), .int .i64 (m : Int), .int .i64 (k : Int), .int .i64 (l : Int), .int .i64 0, .int .i64 (cl : Int)] 36)
  clear hb hrow
  go_wp2_with fail
  refine (r3needs_any o ho _).mono ?_
  rintro e w2 ⟨rfl, rfl⟩
  go_wp2_with fail
  refine (r3sets_any o ho _).mono ?_
  rintro e w2 ⟨rfl, rfl⟩
  go_wp2_with fail
  go_ret2
  exact ⟨rfl, hB⟩
theorem eqi_of (d : Nat) (T : TypeId) (hT : Tryd.prog.underlying T = some (.int .i64)) (a : Int) (w : World) : (Op.equalIn (d + 1) T (.int .i64 a) (.int .i64 a)).run Tryd.prog w = .ok true w := by
  simp [Op.equalIn, run_underlying hT]
theorem eql_inst (a b c d e f : Int) (w : World) : (binOp .eql 36 (.agg #[.int .i64 a, .int .i64 b, .int .i64 c, .int .i64 d, .int .i64 e, .int .i64 f]) (.agg #[.int .i64 a, .int .i64 b, .int .i64 c, .int .i64 d, .int .i64 e, .int .i64 f])).run Tryd.prog w = .ok (.bool true) w := by
  have hu : Tryd.prog.underlying 36 = some (.struct (Tryd.prog.fieldsOf 36)) := by kernel_rfl
  have hp : Tryd.prog.stoodInHeld 36 = false := by kernel_rfl
  have e1 := fun a => eqi_of 9998 25 Tryd.underlying25 a w
  have e2 := fun a => eqi_of 9998 26 Tryd.underlying26 a w
  have e3 := fun a => eqi_of 9998 34 Tryd.underlying34 a w
  have e4 := fun a => eqi_of 9998 3 Tryd.underlying3 a w
  have p0 : (part 25 #[.int .i64 a, .int .i64 b, .int .i64 c, .int .i64 d, .int .i64 e, .int .i64 f] 0).run Tryd.prog w = .ok (.int .i64 a) w := by kernel_rfl
  have p1 : (part 26 #[.int .i64 a, .int .i64 b, .int .i64 c, .int .i64 d, .int .i64 e, .int .i64 f] 1).run Tryd.prog w = .ok (.int .i64 b) w := by kernel_rfl
  have p2 : (part 34 #[.int .i64 a, .int .i64 b, .int .i64 c, .int .i64 d, .int .i64 e, .int .i64 f] 2).run Tryd.prog w = .ok (.int .i64 c) w := by kernel_rfl
  have p3 : (part 3 #[.int .i64 a, .int .i64 b, .int .i64 c, .int .i64 d, .int .i64 e, .int .i64 f] 3).run Tryd.prog w = .ok (.int .i64 d) w := by kernel_rfl
  have p4 : (part 3 #[.int .i64 a, .int .i64 b, .int .i64 c, .int .i64 d, .int .i64 e, .int .i64 f] 4).run Tryd.prog w = .ok (.int .i64 e) w := by kernel_rfl
  have p5 : (part 3 #[.int .i64 a, .int .i64 b, .int .i64 c, .int .i64 d, .int .i64 e, .int .i64 f] 5).run Tryd.prog w = .ok (.int .i64 f) w := by kernel_rfl
  simp only [Nat.reduceAdd] at e1 e2 e3 e4
  have hs : (Op.equalIn 10000 36 (.agg #[.int .i64 a, .int .i64 b, .int .i64 c, .int .i64 d, .int .i64 e, .int .i64 f]) (.agg #[.int .i64 a, .int .i64 b, .int .i64 c, .int .i64 d, .int .i64 e, .int .i64 f])).run Tryd.prog w = .ok true w := by
    refine (run_equalIn_struct (P := Tryd.prog) w 9999 36 #[.int .i64 a, .int .i64 b, .int .i64 c, .int .i64 d, .int .i64 e, .int .i64 f] #[.int .i64 a, .int .i64 b, .int .i64 c, .int .i64 d, .int .i64 e, .int .i64 f] hu hp).trans ?_
    simp [Program.fieldsOf, Tryd.underlying36, Op.eqFields, p0, p1, p2, p3, p4, p5, e1, e2, e3, e4]
  simp only [binOp]
  simp [Op.equal, Op.maxDepth, hs]
end Go.Proofs.YtknfphgncoojeaaDoor

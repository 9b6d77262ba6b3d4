/- isa.Encode: the contract. -/
import Derived.Test.YtknfphgncoojeaaDoorIsaOps
import Derived.Test.YtknfphgncoojeaaDoorIsaKind
import Derived.Test.YtknfphgncoojeaaDoorNames
import Derived.WalkLawsBesides
import Derived.BigQuiet
import Derived.Deep.QuietTactic
namespace Go.Proofs.YtknfphgncoojeaaDoor
open Go.RowKit

theorem tabA_at (c : Nat) (h : c < 256) : tabA[c * 2]? = some (.int .i64 (opT c : Int)) ∧ tabA[c * 2 + 1]? = some (.int .i64 (modeT c : Int)) := by
  have hk : c < tabL.length := by rw [tabL_length]; exact h
  have hd := flat_at pairV (fun _ => rfl) tabL c hk
  have eo : opT c = tabL[c].1 := by unfold opT; rw [List.getD_eq_getElem?_getD, List.getElem?_eq_getElem hk]; rfl
  have em : modeT c = tabL[c].2 := by unfold modeT; rw [List.getD_eq_getElem?_getD, List.getElem?_eq_getElem hk]; rfl
  have e : 2 * c = c * 2 := by omega
  rw [e] at hd
  unfold tabA
  rw [List.getElem?_toArray, List.getElem?_toArray, eo, em]
  have h0 : ((tabL.flatMap pairV).drop (c * 2)).take 2 = [Value.int .i64 (tabL[c].1 : Int), Value.int .i64 (tabL[c].2 : Int)] := hd
  have a0 := congrArg (·[0]?) h0
  have a1 := congrArg (·[1]?) h0
  simp only [List.getElem?_take, List.getElem?_drop] at a0 a1
  exact ⟨by simpa using a0, by simpa using a1⟩
theorem eqi_op (d : Nat) (a c : Int) (w : World) : (Op.equalIn (d + 1) 25 (.int .i64 a) (.int .i64 c)).run Tryd.prog w = .ok (a == c) w := by
  simp [Op.equalIn, run_underlying Tryd.underlying25]
theorem eqi_mode (d : Nat) (a c : Int) (w : World) : (Op.equalIn (d + 1) 26 (.int .i64 a) (.int .i64 c)).run Tryd.prog w = .ok (a == c) w := by
  simp [Op.equalIn, run_underlying Tryd.underlying26]
theorem parts_row (a b : Int) (w : World) : (part 25 #[.int .i64 a, .int .i64 b] 0).run Tryd.prog w = .ok (.int .i64 a) w ∧ (part 26 #[.int .i64 a, .int .i64 b] 1).run Tryd.prog w = .ok (.int .i64 b) w := ⟨by kernel_rfl, by kernel_rfl⟩
theorem neq_row (a b a' b' : Int) (w : World) :
    (binOp .neq 61 (.agg #[.int .i64 a, .int .i64 b]) (.agg #[.int .i64 a', .int .i64 b'])).run Tryd.prog w = .ok (.bool (!((a == a') && (b == b')))) w := by
  have hu : Tryd.prog.underlying 61 = some (.struct (Tryd.prog.fieldsOf 61)) := by kernel_rfl
  have hp : Tryd.prog.stoodInHeld 61 = false := by kernel_rfl
  have hs : (Op.equalIn 10000 61 (.agg #[.int .i64 a, .int .i64 b]) (.agg #[.int .i64 a', .int .i64 b'])).run Tryd.prog w = .ok ((a == a') && (b == b')) w := by
    refine (run_equalIn_struct (P := Tryd.prog) w 9999 61 #[.int .i64 a, .int .i64 b] #[.int .i64 a', .int .i64 b'] hu hp).trans ?_
    have e1 := eqi_op 9998 a a' w
    have e2 := eqi_mode 9998 b b' w
    simp only [Nat.reduceAdd] at e1 e2
    simp [Program.fieldsOf, Tryd.underlying61, Op.eqFields, (parts_row _ _ _).1, (parts_row _ _ _).2, e1, e2]
    by_cases h1 : a = a' <;> by_cases h2 : b = b' <;> simp [h1, h2]
  simp only [binOp]
  simp [Op.equal, Op.maxDepth, hs]

/-- an opcode that stands for an operation and a mode -/
def hitB (o m : Int) (c : Nat) : Bool := ((opT c : Int) == o && (modeT c : Int) == m) && !fillB c
def docB (o m : Int) (c : Nat) : Bool := hitB o m c && classT c == 0
def encT (o m : Int) : Nat × Nat :=
  if 0 ≤ o ∧ o < 70 then
    match (List.range 256).find? (docB o m) with
    | some c => (c, 0)
    | none => match (List.range 256).find? (hitB o m) with
      | some c => (c, 0)
      | none => (0, 41)
  else (0, 40)
theorem find_first {p : Nat → Bool} {c n : Nat} (hc : c < n) (hp : p c = true) (hno : ∀ j, j < c → p j = false) : (List.range n).find? p = some c := by
  rw [List.find?_range_eq_some]
  exact ⟨hp, by simpa using hc, fun j hj => by simp [hno j hj]⟩
theorem find_none {p : Nat → Bool} {n : Nat} (hno : ∀ j, j < n → p j = false) : (List.range n).find? p = none := by
  rw [List.find?_eq_none]
  intro x hx
  simp [hno x (by simpa using hx)]
theorem nameOf_ne (o : Int) (h0 : 0 ≤ o) (h1 : o < 70) : (nameOf o).toList.isEmpty = false := by
  have hs : (nameOf o).size = 3 := by
    unfold nameOf
    rw [ByteArray.size_extract, namesB_size]
    omega
  rw [ByteArray.toList_eq, Bool.eq_false_iff, ne_eq, List.isEmpty_iff]
  intro h
  have : (nameOf o).data.toList.length = 3 := by simpa using hs
  rw [h] at this
  simp at this

set_option maxRecDepth 100000 in
set_option maxHeartbeats 4000000 in
theorem encode_no (o m : Int) (h : o < 0 ∨ 70 ≤ o) (w : World) :
    Calls Tryd.prog 13 #[.int .i64 o, .int .i64 m] w fun e w' => e = .returned (.tuple #[.int .u8 0, .int .i64 40]) ∧ Below w.heap.size w w' := by
  go_enter Tryd.func13, Tryd.ntmps13
  go_wp2_with fail
  refine (isaName_no o h _).mono ?_
  rintro e w1 ⟨rfl, rfl⟩
  go_wp2_with fail
  go_ret2
  exact ⟨rfl, Below.refl _ _⟩

def fdV : Option Nat → Int
  | none => -1
  | some j => j
def EncInv (o m : Int) (k : Nat) (fd : Option Nat) : Prop :=
  (∀ j, j < k → docB o m j = false) ∧ match fd with
    | none => ∀ j, j < k → hitB o m j = false
    | some c => c < k ∧ hitB o m c = true ∧ ∀ j, j < c → hitB o m j = false
theorem inv_miss {o m : Int} {k : Nat} {fd : Option Nat} (h : EncInv o m k fd) (hn : hitB o m k = false) : EncInv o m (k + 1) fd := by
  refine ⟨fun j hj => ?_, ?_⟩
  · rcases Nat.lt_or_ge j k with h' | h'
    · exact h.1 j h'
    · have : j = k := by omega
      subst this
      simp [docB, hn]
  · cases fd with
    | none =>
      intro j hj
      rcases Nat.lt_or_ge j k with h' | h'
      · exact h.2 j h'
      · have : j = k := by omega
        subst this
        exact hn
    | some c => exact ⟨by have := h.2.1; omega, h.2.2⟩
theorem inv_new {o m : Int} {k : Nat} (h : EncInv o m k none) (hn : hitB o m k = true) (hd : docB o m k = false) : EncInv o m (k + 1) (some k) := by
  refine ⟨fun j hj => ?_, by omega, hn, h.2⟩
  rcases Nat.lt_or_ge j k with h' | h'
  · exact h.1 j h'
  · have : j = k := by omega
    subst this
    exact hd
theorem inv_old {o m : Int} {k c : Nat} (h : EncInv o m k (some c)) (hd : docB o m k = false) : EncInv o m (k + 1) (some c) := by
  refine ⟨fun j hj => ?_, by have := h.2.1; omega, h.2.2⟩
  rcases Nat.lt_or_ge j k with h' | h'
  · exact h.1 j h'
  · have : j = k := by omega
    subst this
    exact hd
theorem inv_doc {o m : Int} {k : Nat} {fd : Option Nat} (h0 : 0 ≤ o) (h1 : o < 70) (h : EncInv o m k fd) (hk : k < 256) (hd : docB o m k = true) : encT o m = (k, 0) := by
  unfold encT
  rw [if_pos ⟨h0, h1⟩, find_first hk hd h.1]
theorem inv_end {o m : Int} {fd : Option Nat} (h0 : 0 ≤ o) (h1 : o < 70) (h : EncInv o m 256 fd) : encT o m = match fd with | none => (0, 41) | some c => (c, 0) := by
  unfold encT
  rw [if_pos ⟨h0, h1⟩, find_none h.1]
  cases fd with
  | none => rw [find_none h.2]
  | some c => rw [find_first h.2.1 h.2.2.1 h.2.2.2]
theorem filler_quiet (c : Nat) (w : World) (n : Nat) (tt : TypeId) (fr : Nat × Nat) (hF : w.heap[3]? = some (.cells fillA tt fr)) :
    Calls Tryd.prog 33 #[.int .u8 (c : Int)] (w.drewN n) fun e w'' => e = .returned (.bool (fillB c)) ∧ ∃ m, w'' = w.drewN m :=
  (filler_any c (w.drewN n) tt fr hF).mono fun _ _ ⟨he, hw⟩ => ⟨he, ⟨_, hw.symm⟩⟩

set_option maxRecDepth 100000 in
set_option maxHeartbeats 8000000 in
theorem encode_yes (o m : Int) (h0 : 0 ≤ o) (h1 : o < 70) (w : World) (tt : TypeId) (fr : Nat × Nat) (hF : w.heap[3]? = some (.cells fillA tt fr)) :
    Calls Tryd.prog 13 #[.int .i64 o, .int .i64 m] w fun e w' => e = .returned (.tuple #[.int .u8 ((encT o m).1 : Int), .int .i64 ((encT o m).2 : Int)]) ∧ Below w.heap.size w w' := by
  have hal := allocOps
  have hne := nameOf_ne o h0 h1
  have hlF := lt_of_row hF
  obtain ⟨rc, re, hre⟩ : ∃ rc re, encT o m = (rc, re) := ⟨_, _, rfl⟩
  rw [hre]
  have HRE := Lib.hid hre; clear hre
  go_enter Tryd.func13, Tryd.ntmps13
  go_wp2_with fail
  refine (isaName_yes o h0 h1 _).mono ?_
  rintro e w1 ⟨rfl, rfl⟩
  go_wp2_with fail
  refine (opcodes_any _).mono ?_
  rintro e w1 ⟨rfl, hb⟩
  have hW0 := heap_alloc_new w (.cells #[.int .i64 o, .int .i64 m] 61)
  have hB0 := (Below.refl w.heap.size w).alloc (Nat.le_refl _) (.cells #[.int .i64 o, .int .i64 m] 61)
  have hF0 := row_alloc hF (.cells #[.int .i64 o, .int .i64 m] 61)
  obtain ⟨hW1, hB1⟩ := box_called hB0 hW0 hb
  have hF1 := (hb.block _ (lt_of_row hF0)).trans hF0
  clear hW0 hB0 hF0 hb
  have hz := heap_alloc_new w1 (.cells (partA 0) 62)
  go_wp2_with ((with_reducible show wpList _ _ _ (⟨none, .store 62 (.tmp 8) (.tmp 17), _, _, _, none⟩ :: _) _ _); refine wpList_store_row rfl 62 (.tmp 8) (.tmp 17) rfl w1.heap.size tabA rfl rfl 62 _ hz sizeTab (by kernel_rfl) (by kernel_rfl) ?_; rw [World.setRow_alloc_new])
  clear hz hal hne
  have hWa := row_alloc hW1 (.cells tabA 62)
  have hFa := row_alloc hF1 (.cells tabA 62)
  have hTa := heap_alloc_new w1 (.cells tabA 62)
  have hBa := hB1.alloc hB1.size (.cells tabA 62)
  clear hW1 hF1 hB1
  go_loopw [6, 9, 10, 18] (fun f _ _ n wr => ∃ (k : Nat) (fd : Option Nat), k ≤ 256 ∧ n = .int .i64 k ∧ f = .int .i64 (fdV fd) ∧ EncInv o m k fd ∧ wr.heap[w.heap.size]? = some (.cells #[.int .i64 o, .int .i64 m] 61 (0, 0)) ∧ wr.heap[w1.heap.size]? = some (.cells tabA 62 (0, 0)) ∧ wr.heap[3]? = some (.cells fillA tt fr) ∧ Below w.heap.size w wr)
    (fun _ _ _ n _ => 256 - (intOf n).toNat)
  case atStart => exact ⟨0, none, by omega, rfl, rfl, ⟨fun j hj => by omega, fun j hj => by omega⟩, hWa, hTa, hFa, hBa⟩
  case round =>
    obtain ⟨k, fd, hk, rfl, rfl, hI, hW, hT, hFr, hB⟩ := hrel
    have HI := Lib.hid hI; clear hI
    clear hWa hTa hFa hBa
    by_cases hlt : k < 256
    · have hw : IntKind.u8.wrap (k : Int) = (k : Int) := by rw [IntKind.wrap_u8]; omega
      have c0 := (cell_of_row wr _ (k * 2) _ _ _ hT).trans (tabA_at k hlt).1
      have c1 := (cell_of_row wr _ (k * 2 + 1) _ _ _ hT).trans (tabA_at k hlt).2
      have d0 := cell_of_row wr _ 0 _ _ _ hW
      have d1 := cell_of_row wr _ 1 _ _ _ hW
      simp only [List.getElem?_toArray, List.getElem?_cons_zero, List.getElem?_cons_succ] at d0 d1
      by_cases he : ((opT k : Int) == o && (modeT k : Int) == m) = true
      · have hq : ∀ wx, (binOp .neq 61 (.agg #[.int .i64 (opT k : Int), .int .i64 (modeT k : Int)]) (.agg #[.int .i64 o, .int .i64 m])).run Tryd.prog wx = .ok (.bool false) wx := fun wx => (neq_row _ _ _ _ wx).trans (by rw [he]; rfl)
        have HE := Lib.hid he; clear he
        have hfq := filler_quiet k wr
        by_cases hf : fillB k = true
        · rw [hf] at hfq
          have HF := Lib.hid hf; clear hf
          have HFQ := Lib.hid hfq; clear hfq
          go_wp2_with fail
          go_quiet ((go_at_call 33; exact HFQ.out _ tt fr hFr))
          go_wp2_with fail
          go_roundw
          case rel => exact ⟨k + 1, fd, by omega, by go_num, rfl, inv_miss HI.out (by unfold hitB; rw [HF.out]; simp), hW, hT, hFr, ⟨hB.os, hB.tape, hB.output, hB.size, hB.block⟩⟩
          case measure => simp [intOf]; omega
        · have hf' : fillB k = false := by simpa using hf
          rw [hf'] at hfq
          have hh : hitB o m k = true := by unfold hitB; rw [HE.out, hf']; rfl
          have HH := Lib.hid hh; clear hh hf hf'
          have HFQ := Lib.hid hfq; clear hfq
          go_wp2_with fail
          go_quiet ((go_at_call 33; exact HFQ.out _ tt fr hFr))
          go_wp2_with fail
          clear c0 c1 d0 d1 hq
          refine (class_any k hlt (wr.drewN _) tt fr (by exact hFr)).mono ?_
          rintro e w5 ⟨rfl, hb5⟩
          have hW5 := (hb5.block _ (lt_of_row hW)).trans hW
          have hT5 := (hb5.block _ (lt_of_row hT)).trans hT
          have hF5 := (hb5.block _ (lt_of_row hFr)).trans hFr
          have hB5 : Below w.heap.size w w5 := (⟨hB.os, hB.tape, hB.output, hB.size, hB.block⟩ : Below w.heap.size w (wr.drewN _)).trans (hb5.mono hB.size)
          clear hb5 hW hT hFr hB
          by_cases hd : classT k = 0
          · have hb : ((classT k : Int) == 0) = true := by rw [beq_iff_eq]; omega
            have HD : Hid (docB o m k = true) := Lib.hid (by unfold docB; rw [HH.out, hd]; rfl)
            clear hd
            go_wp2_with fail
            go_ret2
            have hend := inv_doc h0 h1 HI.out hlt HD.out
            rw [HRE.out, Prod.mk.injEq] at hend
            exact ⟨by rw [hend.1, hend.2]; rfl, hB5⟩
          · have hb : ((classT k : Int) == 0) = false := by rw [beq_eq_false_iff_ne]; omega
            have HD : Hid (docB o m k = false) := Lib.hid (by unfold docB; rw [HH.out]; simp [hd])
            clear hd
            cases fd with
            | none =>
              have hneg : decide (fdV none < 0) = true := rfl
              go_wp2_with fail
              go_roundw
              case rel => exact ⟨k + 1, some k, by omega, by go_num, rfl, inv_new HI.out HH.out HD.out, hW5, hT5, hF5, hB5⟩
              case measure => simp [intOf]; omega
            | some j =>
              have hpos : decide (fdV (some j) < 0) = false := by show decide ((j : Int) < 0) = false; rw [decide_eq_false_iff_not]; omega
              go_wp2_with fail
              go_roundw
              case rel => exact ⟨k + 1, some j, by omega, by go_num, rfl, inv_old HI.out HD.out, hW5, hT5, hF5, hB5⟩
              case measure => simp [intOf]; omega
      · have he' : ((opT k : Int) == o && (modeT k : Int) == m) = false := by simpa using he
        have hq : ∀ wx, (binOp .neq 61 (.agg #[.int .i64 (opT k : Int), .int .i64 (modeT k : Int)]) (.agg #[.int .i64 o, .int .i64 m])).run Tryd.prog wx = .ok (.bool true) wx := fun wx => (neq_row _ _ _ _ wx).trans (by rw [he']; rfl)
        have hhit : hitB o m k = false := by unfold hitB; rw [he']; rfl
        have HH := Lib.hid hhit; clear hhit he he'
        go_wp2_with fail
        go_quiet (fail)
        go_wp2_with fail
        go_roundw
        case rel => exact ⟨k + 1, fd, by omega, by go_num, rfl, inv_miss HI.out HH.out, hW, hT, hFr, ⟨hB.os, hB.tape, hB.output, hB.size, hB.block⟩⟩
        case measure => simp [intOf]; omega
    · obtain rfl : k = 256 := by omega
      have hend := inv_end h0 h1 HI.out
      rw [HRE.out] at hend
      cases fd with
      | none =>
        have hneg : decide (fdV none < 0) = true := rfl
        have HN := Lib.hid hend; clear hend
        go_wp2_with fail
        go_ret2
        have hend := HN.out
        rw [Prod.mk.injEq] at hend
        exact ⟨by rw [hend.1, hend.2]; rfl, hB⟩
      | some j =>
        have hpos : decide (fdV (some j) < 0) = false := by show decide ((j : Int) < 0) = false; rw [decide_eq_false_iff_not]; omega
        have hj : j < 256 := HI.out.2.1
        have hw : IntKind.u8.wrap (fdV (some j)) = (j : Int) := by show IntKind.u8.wrap (j : Int) = _; rw [IntKind.wrap_u8]; omega
        have HN := Lib.hid hend; clear hend
        go_wp2_with fail
        go_ret2
        have hend := HN.out
        rw [Prod.mk.injEq] at hend
        exact ⟨by rw [hend.1, hend.2]; rfl, hB⟩
end Go.Proofs.YtknfphgncoojeaaDoor

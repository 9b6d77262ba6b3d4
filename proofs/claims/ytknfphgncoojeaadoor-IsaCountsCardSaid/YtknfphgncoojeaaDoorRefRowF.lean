/- tandemref4.row: the contract. -/
import Derived.Test.YtknfphgncoojeaaDoorRefFact
import Derived.Test.YtknfphgncoojeaaDoorBox
import Derived.BigQuiet
import Derived.Deep.QuietTactic
namespace Go.Proofs.YtknfphgncoojeaaDoor
open Go.RowKit

/-- what the walk of row needs about an opcode -/
structure RowFacts (c : Nat) (s s2 s3 s4 : ByteArray) (x m : Nat) : Prop where
  hx : ((x : Int) == 40) = fillB c
  size : s.size < 100
  size1 : 1 ≤ s.size
  index : ∀ wx : World, (Instr.index 9 (.string s) (.int .i64 0)).run Tryd.prog wx = .ok (.int .u8 (x : Int)) wx
  cut : fillB c = true → 2 ≤ s.size ∧ ∀ wx : World, (Instr.slice 9 (.string s) (some (.int .i64 1)) (some (.int .i64 ((s.size : Int) - 1))) none).run Tryd.prog wx = .ok (.string s2) wx
  uncut : fillB c = false → s2 = s
  size2 : 3 ≤ s2.size ∧ s2.size < 100
  head : ∀ wx : World, (Instr.slice 9 (.string s2) none (some (.int .i64 3)) none).run Tryd.prog wx = .ok (.string s3) wx
  tail : 4 < s2.size → ∀ wx : World, (Instr.slice 9 (.string s2) (some (.int .i64 4)) none none).run Tryd.prog wx = .ok (.string s4) wx
  op : namedV s3 = (opT c : Int)
  mode : (if 4 < s2.size then modeAcc s4.data.toList 13 else 0) = m
  m13 : m < 13
  isT : m = modeT c
  kind : kindR s3 m (fillB c) = kindT c
  cls : classR c s3 (fillB c) = classT c
theorem bA_size (l : List UInt8) : (bA l).size = l.length := by show l.toArray.size = _; simp
theorem bA_extract (l : List UInt8) (a b : Nat) : (bA l).extract a b = bA ((l.drop a).take (b - a)) := ByteArray.extract_mk l a b
theorem rowFacts (c : Nat) (h : c < 256) : ∃ s2 s3 s4 x, RowFacts c (cellA c) s2 s3 s4 x (modeT c) := by
  have hk := okC_at c h
  have hs : cellA c = bA (cellL.getD c []) := rfl
  rw [hs]
  obtain ⟨l, hl⟩ : ∃ l, cellL.getD c [] = l := ⟨_, rfl⟩
  rw [hl] at hk ⊢
  clear hl hs
  unfold okC at hk
  obtain ⟨q, hq⟩ : ∃ q, cutL l (fillB c) = q := ⟨_, rfl⟩
  rw [hq] at hk
  simp only [Bool.and_eq_true, decide_eq_true_eq, beq_iff_eq] at hk
  obtain ⟨⟨⟨⟨⟨⟨⟨⟨⟨k0, k0'⟩, k1⟩, k2⟩, k3⟩, k4⟩, k5⟩, k6⟩, k7⟩, k8⟩ := hk
  have hql : q.length ≤ l.length := by
    rw [← hq]
    unfold cutL
    split
    · rw [List.length_take, List.length_drop]; omega
    · exact Nat.le_refl _
  have e3 : (bA q).extract 0 3 = bA (q.take 3) := by rw [bA_extract, List.drop_zero]
  have e4 : (bA q).extract 4 q.length = bA (q.drop 4) := by
    rw [bA_extract, List.take_of_length_le (by rw [List.length_drop]; exact Nat.le_refl _)]
  have hop : namedV (bA (q.take 3)) = (opT c : Int) := namedV_of _ _ k6 (by rw [beq_iff_eq]; exact k3)
  refine ⟨bA q, bA (q.take 3), bA (q.drop 4), (l.getD 0 0).toNat, ?_⟩
  refine { hx := ?_, size := by rw [bA_size]; exact k0', size1 := by rw [bA_size]; exact k0, index := ?_, cut := ?_, uncut := ?_, size2 := by rw [bA_size]; exact ⟨k2, by omega⟩, head := ?_, tail := ?_, op := hop, mode := ?_, m13 := k5, isT := rfl, kind := k7, cls := ?_ }
  · rw [← k1]
    exact cast_beq _ 40
  · intro wx
    have := index_at (bA l) 0 (by rw [bA_size]; omega) wx
    rw [getB (bA l) 0 (by rw [bA_size]; omega)] at this
    have e : (l.getD 0 0) = (bA l).data.toList[0]'(by show 0 < (bA l).data.toList.length; simp [bA]; omega) := by
      rw [List.getD_eq_getElem?_getD, List.getElem?_eq_getElem (by omega)]; rfl
    rw [e]
    exact this
  · intro hf
    have hlen : 2 ≤ l.length := by
      rw [← hq, hf] at k2
      simp [cutL] at k2
      omega
    refine ⟨by rw [bA_size]; exact hlen, fun wx => ?_⟩
    rw [run_slice_string wx 9 (bA l) .i64 .i64 1 _ Tryd.underlying9 (by omega) (by rw [bA_size]; omega) (by omega)]
    have e : (((bA l).size : Int) - 1).toNat = l.length - 1 := by rw [bA_size]; omega
    rw [e, bA_extract, ← hq, hf]
    rfl
  · intro hf
    rw [← hq, hf]
    rfl
  · intro wx
    rw [run_slice_string_to_if wx 9 (bA q) .i64 3 Tryd.underlying9, if_pos ⟨by omega, by rw [bA_size]; omega⟩]
    rw [show (3 : Int).toNat = 3 from rfl, e3]
  · intro h4 wx
    rw [bA_size] at h4
    rw [run_slice_string_from_if wx 9 (bA q) .i64 4 Tryd.underlying9, if_pos ⟨by omega, by rw [bA_size]; omega⟩]
    rw [show (4 : Int).toNat = 4 from rfl, bA_size, e4]
  · rw [bA_size]
    exact k4
  · rw [← k8]
    unfold classR
    rw [hop]
    have e : (55 < (opT c : Int)) = (55 < opT c) := by rw [eq_iff_iff]; omega
    simp only [e]
end Go.Proofs.YtknfphgncoojeaaDoor

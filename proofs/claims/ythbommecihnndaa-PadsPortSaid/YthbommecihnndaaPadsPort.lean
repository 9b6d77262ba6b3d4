/- PadsPort: the walk. -/
import Derived.Test.YthbommecihnndaaRows
import Derived.Test.YthbommecihnndaaPort
import Derived.Test.YthbommecihnndaaBox
import Derived.Test.YthbommecihnndaaEqPads
import Derived.WalkKit
import Derived.ProofKit
import Derived.Lib.Hide
import Derived.Laws.CopyOwn
import Derived.Deep.Slices
namespace Go.Proofs.Ythbommecihnndaa
open Go.RowKit

theorem pread_any (s : Bool) (h0 h1 t0 t1 : Int) (ok : (0 ≤ h0 ∧ h0 < 256) ∧ (0 ≤ h1 ∧ h1 < 256) ∧ (0 ≤ t0 ∧ t0 < 256) ∧ (0 ≤ t1 ∧ t1 < 256)) (k : Int) (w : World) :
    Calls Try.prog 10 #[.agg #[.bool s, .int .u8 h0, .int .u8 h1, .int .u8 t0, .int .u8 t1], .int .i64 k] w fun e w' => e = .returned (.tuple #[.int .u8 (Pd.bit ⟨s, h0, h1, t0, t1⟩ k), (Pd.read ⟨s, h0, h1, t0, t1⟩ k).v]) ∧ Below w.heap.size w w' := by
  obtain ⟨⟨a1, a2⟩, ⟨b1, b2⟩, ⟨c1, c2⟩, d1, d2⟩ := ok
  by_cases k0 : k = 0
  · subst k0
    cases s
    · exact pread_dn0 h0 h1 t0 t1 c1 c2 w
    · exact pread_up0 h0 h1 t0 t1 a1 a2 w
  · by_cases k1 : k = 1
    · subst k1
      cases s
      · exact pread_dn1 h0 h1 t0 t1 d1 d2 w
      · exact pread_up1 h0 h1 t0 t1 b1 b2 w
    · exact pread_no s h0 h1 t0 t1 k k0 k1 w
theorem rread_any (s : Bool) (h0 h1 t0 t1 : Int) (ok : (0 ≤ h0 ∧ h0 < 256) ∧ (0 ≤ h1 ∧ h1 < 256) ∧ (0 ≤ t0 ∧ t0 < 256) ∧ (0 ≤ t1 ∧ t1 < 256)) (k : Int) (w : World) :
    Calls Try.prog 11 #[.agg #[.bool s, .int .u8 h0, .int .u8 h1, .int .u8 t0, .int .u8 t1], .int .i64 k] w fun e w' => e = .returned (.tuple #[.int .u8 (Pd.bit ⟨s, h0, h1, t0, t1⟩ k), (Pd.read ⟨s, h0, h1, t0, t1⟩ k).v]) ∧ Below w.heap.size w w' := by
  obtain ⟨⟨a1, a2⟩, ⟨b1, b2⟩, ⟨c1, c2⟩, d1, d2⟩ := ok
  by_cases k0 : k = 0
  · subst k0
    cases s
    · exact rread_dn0 h0 h1 t0 t1 c1 c2 w
    · exact rread_up0 h0 h1 t0 t1 a1 a2 w
  · by_cases k1 : k = 1
    · subst k1
      cases s
      · exact rread_dn1 h0 h1 t0 t1 d1 d2 w
      · exact rread_up1 h0 h1 t0 t1 b1 b2 w
    · exact rread_no s h0 h1 t0 t1 k k0 k1 w

abbrev okB (h0 h1 t0 t1 : Int) : Prop := (0 ≤ h0 ∧ h0 < 256) ∧ (0 ≤ h1 ∧ h1 < 256) ∧ (0 ≤ t0 ∧ t0 < 256) ∧ (0 ≤ t1 ∧ t1 < 256)
theorem set_ok (s : Bool) (h0 h1 t0 t1 a b : Int) (ok : okB h0 h1 t0 t1) (ha : 0 ≤ a ∧ a < 256) (hb : 0 ≤ b ∧ b < 256) :
    ∃ s' h0' h1' t0' t1', Pd.set ⟨s, h0, h1, t0, t1⟩ a b = ⟨s', h0', h1', t0', t1'⟩ ∧ okB h0' h1' t0' t1' := by
  refine ⟨_, _, _, _, _, rfl, ha, hb, ?_, ?_⟩ <;> cases s <;> simp <;> (obtain ⟨x1, x2, x3, x4⟩ := ok; omega)
theorem write_ok (s : Bool) (h0 h1 t0 t1 v : Int) (ok : okB h0 h1 t0 t1) :
    ∃ s' h0' h1' t0' t1', Pd.write ⟨s, h0, h1, t0, t1⟩ v = ⟨s', h0', h1', t0', t1'⟩ ∧ okB h0' h1' t0' t1' := by
  obtain ⟨x1, x2, x3, x4⟩ := ok
  unfold Pd.write
  split
  · exact ⟨_, _, _, _, _, rfl, x1, x2, x1, x2⟩
  · exact ⟨_, _, _, _, _, rfl, x1, x2, x3, x4⟩
theorem read_ok (s : Bool) (h0 h1 t0 t1 k : Int) (ok : okB h0 h1 t0 t1) :
    ∃ s' h0' h1' t0' t1', Pd.read ⟨s, h0, h1, t0, t1⟩ k = ⟨s', h0', h1', t0', t1'⟩ ∧ okB h0' h1' t0' t1' := by
  obtain ⟨x1, x2, x3, x4⟩ := ok
  unfold Pd.read
  split
  · exact ⟨_, _, _, _, _, rfl, x1, x2, x3, x4⟩
  have y3 : 0 ≤ t0 / 2 + 128 ∧ t0 / 2 + 128 < 256 := by omega
  have y4 : 0 ≤ t1 / 2 + 128 ∧ t1 / 2 + 128 < 256 := by omega
  split
  · exact ⟨_, _, _, _, _, rfl, x1, x2, y3, x4⟩
  split
  · exact ⟨_, _, _, _, _, rfl, x1, x2, x3, y4⟩
  · exact ⟨_, _, _, _, _, rfl, x1, x2, x3, x4⟩

theorem sizeP24 : (Try.prog.info? 24).map (·.size) = some 5 := by kernel_rfl
theorem eql_pads_same (s : Bool) (h0 h1 t0 t1 : Int) (w : World) :
    (binOp .eql 24 (.agg #[.bool s, .int .u8 h0, .int .u8 h1, .int .u8 t0, .int .u8 t1]) (.agg #[.bool s, .int .u8 h0, .int .u8 h1, .int .u8 t0, .int .u8 t1])).run Try.prog w = .ok (.bool true) w := by
  have hu : Try.prog.underlying 24 = some (.struct (Try.prog.fieldsOf 24)) := by kernel_rfl
  have hp : Try.prog.stoodInHeld 24 = false := by kernel_rfl
  have hs : (Op.equalIn 10000 24 (.agg #[.bool s, .int .u8 h0, .int .u8 h1, .int .u8 t0, .int .u8 t1]) (.agg #[.bool s, .int .u8 h0, .int .u8 h1, .int .u8 t0, .int .u8 t1])).run Try.prog w = .ok true w := by
    refine (run_equalIn_struct (P := Try.prog) w 9999 24 #[.bool s, .int .u8 h0, .int .u8 h1, .int .u8 t0, .int .u8 t1] #[.bool s, .int .u8 h0, .int .u8 h1, .int .u8 t0, .int .u8 t1] hu hp).trans ?_
    obtain ⟨p1, p2, p3⟩ := parts_pads s h0 h1 t0 t1 w
    have e0 := eqi_bool 9998 s s w
    have e1 := eqi_arr 9997 h0 h1 h0 h1 w
    have e2 := eqi_arr 9997 t0 t1 t0 t1 w
    simp only [Nat.reduceAdd] at e0 e1 e2
    simp [Program.fieldsOf, Try.underlying24, Op.eqFields, p1, p2, p3, e0, e1, e2]
  simp only [binOp]
  simp [Op.equal, Op.maxDepth, hs]

/-- the two ports in memory, and the move -/
structure E2 (w0 w : World) (g1 g2 : Nat) (s : Bool) (h0 h1 t0 t1 : Int) (s' : Bool) (h0' h1' t0' t1' : Int) : Prop where
  hp : w.heap[g1]? = some (.cells #[.bool s, .int .u8 h0, .int .u8 h1, .int .u8 t0, .int .u8 t1] 24 (0, 0))
  hq : w.heap[g2]? = some (.cells #[.bool s', .int .u8 h0', .int .u8 h1', .int .u8 t0', .int .u8 t1'] 24 (0, 0))
  hB : Below w0.heap.size w0 w
  lo : w0.heap.size ≤ g1 ∧ g1 < g2
structure E2m (w0 w : World) (g1 g2 g3 : Nat) (s : Bool) (h0 h1 t0 t1 : Int) (s' : Bool) (h0' h1' t0' t1' : Int) (kd a b pt : Int) : Prop where
  hE : E2 w0 w g1 g2 s h0 h1 t0 t1 s' h0' h1' t0' t1'
  hm : w.heap[g3]? = some (.cells #[.int .i64 kd, .int .u8 a, .int .u8 b, .int .i64 pt] 27 (0, 0))
  ne : g3 ≠ g1 ∧ g3 ≠ g2
namespace E2m
variable {w0 w w2 : World} {g1 g2 g3 : Nat} {s : Bool} {h0 h1 t0 t1 : Int} {s' : Bool} {h0' h1' t0' t1' : Int} {kd a b pt : Int}
theorem hp (h : E2m w0 w g1 g2 g3 s h0 h1 t0 t1 s' h0' h1' t0' t1' kd a b pt) : w.heap[g1]? = some (.cells #[.bool s, .int .u8 h0, .int .u8 h1, .int .u8 t0, .int .u8 t1] 24 (0, 0)) := h.hE.hp
theorem hq (h : E2m w0 w g1 g2 g3 s h0 h1 t0 t1 s' h0' h1' t0' t1' kd a b pt) : w.heap[g2]? = some (.cells #[.bool s', .int .u8 h0', .int .u8 h1', .int .u8 t0', .int .u8 t1'] 24 (0, 0)) := h.hE.hq
theorem called (h : E2m w0 w g1 g2 g3 s h0 h1 t0 t1 s' h0' h1' t0' t1' kd a b pt) (hb : Below w.heap.size w w2) : E2m w0 w2 g1 g2 g3 s h0 h1 t0 t1 s' h0' h1' t0' t1' kd a b pt :=
  ⟨⟨(box_called h.hE.hB h.hp hb).1, (box_called h.hE.hB h.hq hb).1, (box_called h.hE.hB h.hp hb).2, h.hE.lo⟩, (box_called h.hE.hB h.hm hb).1, h.ne⟩
theorem alloced (h : E2 w0 w g1 g2 s h0 h1 t0 t1 s' h0' h1' t0' t1') : E2m w0 (w.alloc (.cells #[.int .i64 kd, .int .u8 a, .int .u8 b, .int .i64 pt] 27)) g1 g2 w.heap.size s h0 h1 t0 t1 s' h0' h1' t0' t1' kd a b pt :=
  ⟨⟨row_alloc h.hp _, row_alloc h.hq _, h.hB.alloc h.hB.size _, h.lo⟩, heap_alloc_new w _, by have := lt_of_row h.hp; omega, by have := lt_of_row h.hq; omega⟩
theorem storedP (h : E2m w0 w g1 g2 g3 s h0 h1 t0 t1 s' h0' h1' t0' t1' kd a b pt) (z : Bool) (x1 x2 x3 x4 : Int) : ∃ w9, w.setRow g1 #[.bool z, .int .u8 x1, .int .u8 x2, .int .u8 x3, .int .u8 x4] = w9 ∧ E2m w0 w9 g1 g2 g3 z x1 x2 x3 x4 s' h0' h1' t0' t1' kd a b pt :=
  ⟨_, rfl, ⟨setRow_heap w _ _ _ _ _ h.hp, row_setRow_other h.hq (by have := h.hE.lo; omega) _, below_setRow h.hE.hB h.hE.lo.1 _, h.hE.lo⟩, row_setRow_other h.hm h.ne.1 _, h.ne⟩
theorem storedQ (h : E2m w0 w g1 g2 g3 s h0 h1 t0 t1 s' h0' h1' t0' t1' kd a b pt) (z : Bool) (x1 x2 x3 x4 : Int) : ∃ w9, w.setRow g2 #[.bool z, .int .u8 x1, .int .u8 x2, .int .u8 x3, .int .u8 x4] = w9 ∧ E2m w0 w9 g1 g2 g3 s h0 h1 t0 t1 z x1 x2 x3 x4 kd a b pt :=
  ⟨_, rfl, ⟨row_setRow_other h.hp (by have := h.hE.lo; omega) _, setRow_heap w _ _ _ _ _ h.hq, below_setRow h.hE.hB (by have := h.hE.lo; omega) _, h.hE.lo⟩, row_setRow_other h.hm h.ne.2 _, h.ne⟩
theorem m1 (h : E2m w0 w g1 g2 g3 s h0 h1 t0 t1 s' h0' h1' t0' t1' kd a b pt) : w.cell? ⟨g3, 1, none⟩ = some (.int .u8 a) := by simpa using cell_of_row w _ 1 _ _ _ h.hm
theorem m2 (h : E2m w0 w g1 g2 g3 s h0 h1 t0 t1 s' h0' h1' t0' t1' kd a b pt) : w.cell? ⟨g3, 2, none⟩ = some (.int .u8 b) := by simpa using cell_of_row w _ 2 _ _ _ h.hm
theorem m3 (h : E2m w0 w g1 g2 g3 s h0 h1 t0 t1 s' h0' h1' t0' t1' kd a b pt) : w.cell? ⟨g3, 3, none⟩ = some (.int .i64 pt) := by simpa using cell_of_row w _ 3 _ _ _ h.hm
end E2m

set_option maxRecDepth 100000 in
set_option maxHeartbeats 16000000 in
theorem padsPort_walk (s : Bool) (h0 h1 t0 t1 : Int) (ok : okB h0 h1 t0 t1) (A : Option Addr) (len cap : Nat) (hr : len ≤ 140737488351232) (w : World)
    (hc : ∀ k, k < len → ∃ ad kd a b pt, A = some ad ∧ w.cell? (ad.add (k * 4)) = some (.int .i64 kd) ∧ w.cell? ⟨(ad.add (k * 4)).block, (ad.add (k * 4)).off + 1, none⟩ = some (.int .u8 a) ∧ w.cell? ⟨(ad.add (k * 4)).block, (ad.add (k * 4)).off + 2, none⟩ = some (.int .u8 b) ∧ w.cell? ⟨(ad.add (k * 4)).block, (ad.add (k * 4)).off + 3, none⟩ = some (.int .i64 pt) ∧ (0 ≤ a ∧ a < 256) ∧ (0 ≤ b ∧ b < 256)) :
    Calls Try.prog 3 #[.agg #[.bool s, .int .u8 h0, .int .u8 h1, .int .u8 t0, .int .u8 t1], .slice A len cap] w fun e w' => e = .returned (.bool true) ∧ Below w.heap.size w w' := by
  go_enter Try.func3, Try.ntmps3
  go_wp2_with fail
  go_loopw [6, 7, 8, 9] (fun i _ _ _ wr => ∃ (k : Nat) (s : Bool) (h0 h1 t0 t1 : Int), k ≤ len ∧ i = .int .i64 k ∧ okB h0 h1 t0 t1 ∧ E2 w wr w.heap.size (w.heap.size + 1) s h0 h1 t0 t1 s h0 h1 t0 t1)
    (fun i _ _ _ _ => len - (intOf i).toNat)
  case atStart =>
    refine ⟨0, s, h0, h1, t0, t1, Nat.zero_le _, rfl, ok, row_alloc (heap_alloc_new w _) _, ?_, ?_, Nat.le_refl _, by omega⟩
    · have := heap_alloc_new (w.alloc (.cells #[.bool s, .int .u8 h0, .int .u8 h1, .int .u8 t0, .int .u8 t1] 24)) (.cells #[.bool s, .int .u8 h0, .int .u8 h1, .int .u8 t0, .int .u8 t1] 24)
      simpa using this
    · exact ((Below.refl _ _).alloc (Nat.le_refl _) _).alloc (by simp) _
  case round =>
    clear ok
    obtain ⟨k, s, h0, h1, t0, t1, hk, rfl, ok, hE⟩ := hrel
    by_cases hlt : k < len
    · obtain ⟨ad, kd, a, b, pt, rfl, m0, m1, m2, m3, ha, hb⟩ := hc k hlt
      have n0 := (hE.hB.cell (lt_of_cell m0)).trans m0
      have n1 := (hE.hB.cell (lt_of_cell m1)).trans m1
      have n2 := (hE.hB.cell (lt_of_cell m2)).trans m2
      have n3 := (hE.hB.cell (lt_of_cell m3)).trans m3
      clear m0 m1 m2 m3 hc
      have hE9 := E2m.alloced (kd := kd) (a := a) (b := b) (pt := pt) hE; clear hE; have hE := hE9; clear hE9
      have hm1 := hE.m1; have hm2 := hE.m2; have hm3 := hE.m3
      by_cases hk0 : (kd == 0) = true
      · skip
        obtain ⟨s1, a1, a2, a3, a4, he, ok'⟩ := set_ok s h0 h1 t0 t1 a b ok ha hb
        have HE := Lib.hid he; clear he
        go_wp2_with (first | ((with_reducible show wpList _ _ _ (⟨_, .load 24 (.tmp 2), _, _, _, none⟩ :: _) _ _); refine wpList_load_row rfl 24 (.tmp 2) rfl w.heap.size ?q2 24 _ (0, 0) _ hE.hp Try.underlying24 rfl sizeP24 ?_; (case q2 => rfl)) | ((with_reducible show wpList _ _ _ (⟨_, .load 24 (.tmp 5), _, _, _, none⟩ :: _) _ _); refine wpList_load_row rfl 24 (.tmp 5) rfl (w.heap.size + 1) ?q5 24 _ (0, 0) _ hE.hq Try.underlying24 rfl sizeP24 ?_; (case q5 => rfl)))
        refine (pset_any s h0 h1 t0 t1 a b _).mono ?_
        rintro e w5 ⟨rfl, hb5⟩
        rw [HE.out]
        have hE9 := hE.called hb5; clear hE hb5 hm1 hm2 hm3; have hE := hE9; clear hE9
        go_wp2_with (first | ((with_reducible show wpList _ _ _ (⟨none, .store 24 (.tmp 2) (.tmp 51), _, _, _, none⟩ :: _) _ _); refine wpList_store_row rfl 24 (.tmp 2) (.tmp 51) rfl w.heap.size _ rfl rfl 24 _ hE.hp sizeP24 rfl (by kernel_rfl) ?_; obtain ⟨w9, e9, hn⟩ := hE.storedP s1 a1 a2 a3 a4; rw [e9]; clear e9 hE; have hE := hn; clear hn; have hm1 := hE.m1; have hm2 := hE.m2; have hm3 := hE.m3) | ((with_reducible show wpList _ _ _ (⟨_, .load 24 (.tmp 5), _, _, _, none⟩ :: _) _ _); refine wpList_load_row rfl 24 (.tmp 5) rfl (w.heap.size + 1) ?q5 24 _ (0, 0) _ hE.hq Try.underlying24 rfl sizeP24 ?_; (case q5 => rfl)))
        refine (rset_any s h0 h1 t0 t1 a b _).mono ?_
        rintro e w6 ⟨rfl, hb6⟩
        rw [HE.out]
        have hE9 := hE.called hb6; clear hE hb6 hm1 hm2 hm3; have hE := hE9; clear hE9
        have heq := neq_pads_same s1 a1 a2 a3 a4
        go_wp2_with (first | ((with_reducible show wpList _ _ _ (⟨none, .store 24 (.tmp 5) (.tmp 57), _, _, _, none⟩ :: _) _ _); refine wpList_store_row rfl 24 (.tmp 5) (.tmp 57) rfl (w.heap.size + 1) _ rfl rfl 24 _ hE.hq sizeP24 rfl (by kernel_rfl) ?_; obtain ⟨w9, e9, hn⟩ := hE.storedQ s1 a1 a2 a3 a4; rw [e9]; clear e9 hE; have hE := hn; clear hn; have hm1 := hE.m1; have hm2 := hE.m2; have hm3 := hE.m3) | ((with_reducible show wpList _ _ _ (⟨_, .load 24 (.tmp 2), _, _, _, none⟩ :: _) _ _); refine wpList_load_row rfl 24 (.tmp 2) rfl w.heap.size ?q2 24 _ (0, 0) _ hE.hp Try.underlying24 rfl sizeP24 ?_; (case q2 => rfl)) | ((with_reducible show wpList _ _ _ (⟨_, .load 24 (.tmp 5), _, _, _, none⟩ :: _) _ _); refine wpList_load_row rfl 24 (.tmp 5) rfl (w.heap.size + 1) ?q5 24 _ (0, 0) _ hE.hq Try.underlying24 rfl sizeP24 ?_; (case q5 => rfl)))
        go_roundw
        case rel => exact ⟨k + 1, s1, a1, a2, a3, a4, by omega, by go_num, ok', hE.hE⟩
        case measure => simp [intOf]; omega
      · have hk0' : (kd == 0) = false := by simpa using hk0
        clear hk0
        by_cases hk1 : (kd == 1) = true
        · skip
          obtain ⟨s1, a1, a2, a3, a4, he, ok'⟩ := write_ok s h0 h1 t0 t1 a ok
          have HE := Lib.hid he; clear he
          go_wp2_with (first | ((with_reducible show wpList _ _ _ (⟨_, .load 24 (.tmp 2), _, _, _, none⟩ :: _) _ _); refine wpList_load_row rfl 24 (.tmp 2) rfl w.heap.size ?q2 24 _ (0, 0) _ hE.hp Try.underlying24 rfl sizeP24 ?_; (case q2 => rfl)) | ((with_reducible show wpList _ _ _ (⟨_, .load 24 (.tmp 5), _, _, _, none⟩ :: _) _ _); refine wpList_load_row rfl 24 (.tmp 5) rfl (w.heap.size + 1) ?q5 24 _ (0, 0) _ hE.hq Try.underlying24 rfl sizeP24 ?_; (case q5 => rfl)))
          refine (pwrite_any s h0 h1 t0 t1 a ha.1 ha.2 _).mono ?_
          rintro e w5 ⟨rfl, hb5⟩
          rw [HE.out]
          have hE9 := hE.called hb5; clear hE hb5 hm1 hm2 hm3; have hE := hE9; clear hE9
          go_wp2_with (first | ((with_reducible show wpList _ _ _ (⟨none, .store 24 (.tmp 2) (.tmp 63), _, _, _, none⟩ :: _) _ _); refine wpList_store_row rfl 24 (.tmp 2) (.tmp 63) rfl w.heap.size _ rfl rfl 24 _ hE.hp sizeP24 rfl (by kernel_rfl) ?_; obtain ⟨w9, e9, hn⟩ := hE.storedP s1 a1 a2 a3 a4; rw [e9]; clear e9 hE; have hE := hn; clear hn; have hm1 := hE.m1; have hm2 := hE.m2; have hm3 := hE.m3) | ((with_reducible show wpList _ _ _ (⟨_, .load 24 (.tmp 5), _, _, _, none⟩ :: _) _ _); refine wpList_load_row rfl 24 (.tmp 5) rfl (w.heap.size + 1) ?q5 24 _ (0, 0) _ hE.hq Try.underlying24 rfl sizeP24 ?_; (case q5 => rfl)))
          refine (rwrite_any s h0 h1 t0 t1 a ha.1 ha.2 _).mono ?_
          rintro e w6 ⟨rfl, hb6⟩
          rw [HE.out]
          have hE9 := hE.called hb6; clear hE hb6 hm1 hm2 hm3; have hE := hE9; clear hE9
          have heq := neq_pads_same s1 a1 a2 a3 a4
          go_wp2_with (first | ((with_reducible show wpList _ _ _ (⟨none, .store 24 (.tmp 5) (.tmp 67), _, _, _, none⟩ :: _) _ _); refine wpList_store_row rfl 24 (.tmp 5) (.tmp 67) rfl (w.heap.size + 1) _ rfl rfl 24 _ hE.hq sizeP24 rfl (by kernel_rfl) ?_; obtain ⟨w9, e9, hn⟩ := hE.storedQ s1 a1 a2 a3 a4; rw [e9]; clear e9 hE; have hE := hn; clear hn; have hm1 := hE.m1; have hm2 := hE.m2; have hm3 := hE.m3) | ((with_reducible show wpList _ _ _ (⟨_, .load 24 (.tmp 2), _, _, _, none⟩ :: _) _ _); refine wpList_load_row rfl 24 (.tmp 2) rfl w.heap.size ?q2 24 _ (0, 0) _ hE.hp Try.underlying24 rfl sizeP24 ?_; (case q2 => rfl)) | ((with_reducible show wpList _ _ _ (⟨_, .load 24 (.tmp 5), _, _, _, none⟩ :: _) _ _); refine wpList_load_row rfl 24 (.tmp 5) rfl (w.heap.size + 1) ?q5 24 _ (0, 0) _ hE.hq Try.underlying24 rfl sizeP24 ?_; (case q5 => rfl)))
          go_roundw
          case rel => exact ⟨k + 1, s1, a1, a2, a3, a4, by omega, by go_num, ok', hE.hE⟩
          case measure => simp [intOf]; omega
        · have hk1' : (kd == 1) = false := by simpa using hk1
          clear hk1
          obtain ⟨s1, a1, a2, a3, a4, he, ok'⟩ := read_ok s h0 h1 t0 t1 pt ok
          have HE := Lib.hid he; clear he
          go_wp2_with (first | ((with_reducible show wpList _ _ _ (⟨_, .load 24 (.tmp 2), _, _, _, none⟩ :: _) _ _); refine wpList_load_row rfl 24 (.tmp 2) rfl w.heap.size ?q2 24 _ (0, 0) _ hE.hp Try.underlying24 rfl sizeP24 ?_; (case q2 => rfl)) | ((with_reducible show wpList _ _ _ (⟨_, .load 24 (.tmp 5), _, _, _, none⟩ :: _) _ _); refine wpList_load_row rfl 24 (.tmp 5) rfl (w.heap.size + 1) ?q5 24 _ (0, 0) _ hE.hq Try.underlying24 rfl sizeP24 ?_; (case q5 => rfl)))
          refine (pread_any s h0 h1 t0 t1 ok pt _).mono ?_
          rintro e w5 ⟨rfl, hb5⟩
          rw [HE.out]
          have hE9 := hE.called hb5; clear hE hb5 hm1 hm2 hm3; have hE := hE9; clear hE9
          go_wp2_with (first | ((with_reducible show wpList _ _ _ (⟨none, .store 24 (.tmp 2) (.tmp 33), _, _, _, none⟩ :: _) _ _); refine wpList_store_row rfl 24 (.tmp 2) (.tmp 33) rfl w.heap.size _ rfl rfl 24 _ hE.hp sizeP24 rfl (by kernel_rfl) ?_; obtain ⟨w9, e9, hn⟩ := hE.storedP s1 a1 a2 a3 a4; rw [e9]; clear e9 hE; have hE := hn; clear hn; have hm1 := hE.m1; have hm2 := hE.m2; have hm3 := hE.m3) | ((with_reducible show wpList _ _ _ (⟨_, .load 24 (.tmp 5), _, _, _, none⟩ :: _) _ _); refine wpList_load_row rfl 24 (.tmp 5) rfl (w.heap.size + 1) ?q5 24 _ (0, 0) _ hE.hq Try.underlying24 rfl sizeP24 ?_; (case q5 => rfl)))
          refine (rread_any s h0 h1 t0 t1 ok pt _).mono ?_
          rintro e w6 ⟨rfl, hb6⟩
          rw [HE.out]
          have hE9 := hE.called hb6; clear hE hb6 hm1 hm2 hm3; have hE := hE9; clear hE9
          have heq := neq_pads_same s1 a1 a2 a3 a4
          go_wp2_with (first | ((with_reducible show wpList _ _ _ (⟨none, .store 24 (.tmp 5) (.tmp 40), _, _, _, none⟩ :: _) _ _); refine wpList_store_row rfl 24 (.tmp 5) (.tmp 40) rfl (w.heap.size + 1) _ rfl rfl 24 _ hE.hq sizeP24 rfl (by kernel_rfl) ?_; obtain ⟨w9, e9, hn⟩ := hE.storedQ s1 a1 a2 a3 a4; rw [e9]; clear e9 hE; have hE := hn; clear hn; have hm1 := hE.m1; have hm2 := hE.m2; have hm3 := hE.m3) | ((with_reducible show wpList _ _ _ (⟨_, .load 24 (.tmp 2), _, _, _, none⟩ :: _) _ _); refine wpList_load_row rfl 24 (.tmp 2) rfl w.heap.size ?q2 24 _ (0, 0) _ hE.hp Try.underlying24 rfl sizeP24 ?_; (case q2 => rfl)) | ((with_reducible show wpList _ _ _ (⟨_, .load 24 (.tmp 5), _, _, _, none⟩ :: _) _ _); refine wpList_load_row rfl 24 (.tmp 5) rfl (w.heap.size + 1) ?q5 24 _ (0, 0) _ hE.hq Try.underlying24 rfl sizeP24 ?_; (case q5 => rfl)))
          go_roundw
          case rel => exact ⟨k + 1, s1, a1, a2, a3, a4, by omega, by go_num, ok', hE.hE⟩
          case measure => simp [intOf]; omega
    · clear hc
      obtain ⟨s1, a1, a2, a3, a4, he, ok'⟩ := read_ok s h0 h1 t0 t1 0 ok
      have HE := Lib.hid he; clear he
      have heq := eql_pads_same s1 a1 a2 a3 a4
      have hq := hE.hq
      have hB := hE.hB
      clear hE
      go_wp2_with ((with_reducible show wpList _ _ _ (⟨_, .load 24 (.tmp 5), _, _, _, none⟩ :: _) _ _); refine wpList_load_row rfl 24 (.tmp 5) rfl (w.heap.size + 1) ?q5 24 _ (0, 0) _ hq Try.underlying24 rfl sizeP24 ?_; (case q5 => rfl))
      refine (pread_any s h0 h1 t0 t1 ok 0 _).mono ?_
      rintro e w5 ⟨rfl, hb5⟩
      rw [HE.out]
      have hq5 := (box_called hB hq hb5).1
      have hB5 := (box_called hB hq hb5).2
      clear hq hB hb5
      have hq6 := row_alloc hq5 (.cells #[.bool s1, .int .u8 a1, .int .u8 a2, .int .u8 a3, .int .u8 a4] 24)
      have hB6 := hB5.alloc hB5.size (.cells #[.bool s1, .int .u8 a1, .int .u8 a2, .int .u8 a3, .int .u8 a4] 24)
      have hr6 := heap_alloc_new w5 (.cells #[.bool s1, .int .u8 a1, .int .u8 a2, .int .u8 a3, .int .u8 a4] 24)
      clear hq5 hB5
      go_wp2_with ((with_reducible show wpList _ _ _ (⟨_, .load 24 (.tmp 5), _, _, _, none⟩ :: _) _ _); refine wpList_load_row rfl 24 (.tmp 5) rfl (w.heap.size + 1) ?q5 24 _ (0, 0) _ hq6 Try.underlying24 rfl sizeP24 ?_; (case q5 => rfl))
      refine (rread_any s h0 h1 t0 t1 ok 0 _).mono ?_
      rintro e w7 ⟨rfl, hb7⟩
      rw [HE.out]
      have hr7 := (box_called hB6 hr6 hb7).1
      have hB7 := (box_called hB6 hr6 hb7).2
      clear hr6 hB6 hb7 hq6
      have hr8 := row_alloc hr7 (.cells #[.bool s1, .int .u8 a1, .int .u8 a2, .int .u8 a3, .int .u8 a4] 24)
      have hs8 := heap_alloc_new w7 (.cells #[.bool s1, .int .u8 a1, .int .u8 a2, .int .u8 a3, .int .u8 a4] 24)
      have hB8 := hB7.alloc hB7.size (.cells #[.bool s1, .int .u8 a1, .int .u8 a2, .int .u8 a3, .int .u8 a4] 24)
      clear hr7 hB7
      go_wp2_with (first | ((with_reducible show wpList _ _ _ (⟨_, .load 24 (.tmp 11), _, _, _, none⟩ :: _) _ _); refine wpList_load_row rfl 24 (.tmp 11) rfl w5.heap.size ?q11 24 _ (0, 0) _ hr8 Try.underlying24 rfl sizeP24 ?_; (case q11 => rfl)) | ((with_reducible show wpList _ _ _ (⟨_, .load 24 (.tmp 13), _, _, _, none⟩ :: _) _ _); refine wpList_load_row rfl 24 (.tmp 13) rfl w7.heap.size ?q13 24 _ (0, 0) _ hs8 Try.underlying24 rfl sizeP24 ?_; (case q13 => rfl)))
      go_ret
      exact ⟨rfl, hB8⟩
end Go.Proofs.Ythbommecihnndaa

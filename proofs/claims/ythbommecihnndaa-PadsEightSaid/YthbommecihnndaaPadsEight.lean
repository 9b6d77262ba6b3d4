/- PadsEight: the walk: behind the strobe the eight buttons come as held, then ones. For all bytes and lists. -/
import Derived.Test.YthbommecihnndaaRows
import Derived.Test.YthbommecihnndaaPort
import Derived.Test.YthbommecihnndaaBox
import Derived.Test.YthbommecihnndaaEqPads
import Derived.Test.YthbommecihnndaaPadsHigh
import Derived.WalkKit
import Derived.ProofKit
import Derived.StillTailTactics
import Derived.BigQuiet
import Derived.Deep.QuietTactic
import Derived.Lib.Hide
import Derived.Laws.CopyOwn
namespace Go.Proofs.Ythbommecihnndaa
open Go.RowKit

/-- the register behind n reads -/
def shf (h : Int) (n : Nat) : Int := if n < 8 then h / 2 ^ n + (256 - 2 ^ (8 - n)) else 255
theorem shf_zero (h : Int) : shf h 0 = h := by simp [shf]
theorem shf_facts (h : Int) (h0 : 0 ≤ h) (h1 : h < 256) (n : Nat) : 0 ≤ shf h n ∧ shf h n < 256 ∧ shf h (n + 1) = shf h n / 2 + 128 ∧ (8 ≤ n → shf h n % 2 = 1) ∧ (n < 8 → shf h n % 2 = h / 2 ^ n % 2) := by
  unfold shf
  by_cases hn : n < 8
  · have : n = 0 ∨ n = 1 ∨ n = 2 ∨ n = 3 ∨ n = 4 ∨ n = 5 ∨ n = 6 ∨ n = 7 := by omega
    rcases this with rfl | rfl | rfl | rfl | rfl | rfl | rfl | rfl <;> simp <;> omega
  · rw [if_neg hn, if_neg (by omega)]
    refine ⟨by omega, by omega, by omega, fun _ => by omega, fun h => absurd h hn⟩

/-- the three variables in memory -/
structure E3 (w0 w : World) (g1 g2 g3 : Nat) (s : Bool) (h0 h1 t0 t1 : Int) (n0 n1 : Nat) (one two : Int) : Prop where
  hp : w.heap[g1]? = some (.cells #[.bool s, .int .u8 h0, .int .u8 h1, .int .u8 t0, .int .u8 t1] 24 (0, 0))
  hs : w.heap[g2]? = some (.cells #[.int .i64 n0, .int .i64 n1] 34 (0, 0))
  hh : w.heap[g3]? = some (.cells #[.int .u8 one, .int .u8 two] 22 (0, 0))
  hB : Below w0.heap.size w0 w
  lo : w0.heap.size ≤ g1 ∧ g1 < g2 ∧ g2 < g3
namespace E3
variable {w0 w w2 : World} {g1 g2 g3 : Nat} {s : Bool} {h0 h1 t0 t1 : Int} {n0 n1 : Nat} {one two : Int}
theorem called (h : E3 w0 w g1 g2 g3 s h0 h1 t0 t1 n0 n1 one two) (hb : Below w.heap.size w w2) : E3 w0 w2 g1 g2 g3 s h0 h1 t0 t1 n0 n1 one two :=
  ⟨(box_called h.hB h.hp hb).1, (box_called h.hB h.hs hb).1, (box_called h.hB h.hh hb).1, (box_called h.hB h.hp hb).2, h.lo⟩
theorem drew (h : E3 w0 w g1 g2 g3 s h0 h1 t0 t1 n0 n1 one two) : E3 w0 w.drew g1 g2 g3 s h0 h1 t0 t1 n0 n1 one two := ⟨h.hp, h.hs, h.hh, h.hB.drew, h.lo⟩
theorem drewN (h : E3 w0 w g1 g2 g3 s h0 h1 t0 t1 n0 n1 one two) (k : Nat) : E3 w0 (w.drewN k) g1 g2 g3 s h0 h1 t0 t1 n0 n1 one two := ⟨h.hp, h.hs, h.hh, ⟨h.hB.os, h.hB.tape, h.hB.output, h.hB.size, h.hB.block⟩, h.lo⟩
theorem stored (h : E3 w0 w g1 g2 g3 s h0 h1 t0 t1 n0 n1 one two) (s' : Bool) (a b c d : Int) : ∃ w9, w.setRow g1 #[.bool s', .int .u8 a, .int .u8 b, .int .u8 c, .int .u8 d] = w9 ∧ E3 w0 w9 g1 g2 g3 s' a b c d n0 n1 one two :=
  ⟨_, rfl, setRow_heap w _ _ _ _ _ h.hp, row_setRow_other h.hs (by have := h.lo; omega) _, row_setRow_other h.hh (by have := h.lo; omega) _, below_setRow h.hB h.lo.1 _, h.lo⟩
theorem seen0 (h : E3 w0 w g1 g2 g3 s h0 h1 t0 t1 n0 n1 one two) (m : Nat) : E3 w0 (w.setCell ⟨g2, 0, none⟩ (.int .i64 m)) g1 g2 g3 s h0 h1 t0 t1 m n1 one two :=
  ⟨row_setCell_other h.hp (by have := h.lo; omega) _, by have := row_setCell (i := 0) h.hs (.int .i64 m); simpa using this, row_setCell_other h.hh (by have := h.lo; omega) _, h.hB.setCell (by have := h.lo; show _ ≤ g2; omega) _, h.lo⟩
theorem seen1 (h : E3 w0 w g1 g2 g3 s h0 h1 t0 t1 n0 n1 one two) (m : Nat) : E3 w0 (w.setCell ⟨g2, 1, none⟩ (.int .i64 m)) g1 g2 g3 s h0 h1 t0 t1 n0 m one two :=
  ⟨row_setCell_other h.hp (by have := h.lo; omega) _, by have := row_setCell (i := 1) h.hs (.int .i64 m); simpa using this, row_setCell_other h.hh (by have := h.lo; omega) _, h.hB.setCell (by have := h.lo; show _ ≤ g2; omega) _, h.lo⟩
theorem cs0 (h : E3 w0 w g1 g2 g3 s h0 h1 t0 t1 n0 n1 one two) : w.cell? ⟨g2, 0, none⟩ = some (.int .i64 n0) := by simpa using cell_of_row w _ 0 _ _ _ h.hs
theorem cs1 (h : E3 w0 w g1 g2 g3 s h0 h1 t0 t1 n0 n1 one two) : w.cell? ⟨g2, 1, none⟩ = some (.int .i64 n1) := by simpa using cell_of_row w _ 1 _ _ _ h.hs
theorem ch0 (h : E3 w0 w g1 g2 g3 s h0 h1 t0 t1 n0 n1 one two) : w.cell? ⟨g3, 0, none⟩ = some (.int .u8 one) := by simpa using cell_of_row w _ 0 _ _ _ h.hh
theorem ch1 (h : E3 w0 w g1 g2 g3 s h0 h1 t0 t1 n0 n1 one two) : w.cell? ⟨g3, 1, none⟩ = some (.int .u8 two) := by simpa using cell_of_row w _ 1 _ _ _ h.hh
theorem c0 (h : E3 w0 w g1 g2 g3 s h0 h1 t0 t1 n0 n1 one two) : w.cell? ⟨g1, 0, none⟩ = some (.bool s) := by simpa using cell_of_row w _ 0 _ _ _ h.hp
theorem c1 (h : E3 w0 w g1 g2 g3 s h0 h1 t0 t1 n0 n1 one two) : w.cell? ⟨g1, 1, none⟩ = some (.int .u8 h0) := by simpa using cell_of_row w _ 1 _ _ _ h.hp
theorem c2 (h : E3 w0 w g1 g2 g3 s h0 h1 t0 t1 n0 n1 one two) : w.cell? ⟨g1, 2, none⟩ = some (.int .u8 h1) := by simpa using cell_of_row w _ 2 _ _ _ h.hp
theorem c3 (h : E3 w0 w g1 g2 g3 s h0 h1 t0 t1 n0 n1 one two) : w.cell? ⟨g1, 3, none⟩ = some (.int .u8 t0) := by simpa using cell_of_row w _ 3 _ _ _ h.hp
theorem c4 (h : E3 w0 w g1 g2 g3 s h0 h1 t0 t1 n0 n1 one two) : w.cell? ⟨g1, 4, none⟩ = some (.int .u8 t1) := by simpa using cell_of_row w _ 4 _ _ _ h.hp
theorem fz (h : E3 w0 w g1 g2 g3 s h0 h1 t0 t1 n0 n1 one two) (i : Nat) : w.frozen? ⟨g2, i, none⟩ = false := frozen_of_row h.hs i
end E3

set_option maxRecDepth 100000 in
set_option maxHeartbeats 16000000 in
theorem padsEight_walk (one two up down : Int) (o0 : 0 ≤ one) (o1 : one < 256) (t0 : 0 ≤ two) (t1 : two < 256) (u0 : 0 ≤ up) (u1 : up < 256) (d0 : 0 ≤ down) (d1 : down < 256)
    (A4 : Option Addr) (len4 cap4 : Nat) (z4 : List Int)
    (A5 : Option Addr) (len5 cap5 : Nat) (z5 : List Int) (hl5 : len5 ≤ z5.length) (hz5 : ∀ x ∈ z5, 0 ≤ x ∧ x < 256) (hr5 : len5 ≤ 140737488351232) (w : World)
    (hc4 : ∀ k, k < len4 → ∃ ad, A4 = some ad ∧ w.cell? (ad.add k) = some (.int .u8 (z4.getD k 0)))
    (hc5 : ∀ k, k < len5 → ∃ ad, A5 = some ad ∧ w.cell? (ad.add k) = some (.int .u8 (z5.getD k 0))) :
    Calls Try.prog 4 #[.int .u8 one, .int .u8 two, .int .u8 up, .int .u8 down, .slice A4 len4 cap4, .slice A5 len5 cap5] w fun e w' => e = .returned (.bool true) ∧ Below w.heap.size w w' := by
  obtain ⟨b1, b2, b3⟩ := or8 up u0 u1
  have B3 := Lib.hid b3; clear b3
  obtain ⟨a1, a2, a3⟩ := andNot8 down d0 d1
  have A3 := Lib.hid a3; clear a3
  go_enter Try.func4, Try.ntmps4
  go_wp2_with fail
  refine (pset_any _ _ _ _ _ _ _ _).mono ?_
  rintro e w1 ⟨rfl, hb1⟩
  rw [show Pd.set ⟨false, 0, 0, 0, 0⟩ one two = ⟨false, one, two, 0, 0⟩ from rfl]
  go_wp2_with fail
  refine (pwrite_any false one two 0 0 _ b1 b2 _).mono ?_
  rintro e w2 ⟨rfl, hb2⟩
  rw [show Pd.write ⟨false, one, two, 0, 0⟩ (bits .or .u8 up 1) = ⟨true, one, two, one, two⟩ from by unfold Pd.write; simp [B3.out]]
  have hg0 : (w1.alloc (.cells #[.bool false, .int .u8 one, .int .u8 two, .int .u8 0, .int .u8 0] 24)).heap[w1.heap.size]? = some (.cells #[.bool false, .int .u8 one, .int .u8 two, .int .u8 0, .int .u8 0] 24 (0, 0)) := heap_alloc_new w1 _
  have hB0 : Below w.heap.size w (w1.alloc (.cells #[.bool false, .int .u8 one, .int .u8 two, .int .u8 0, .int .u8 0] 24)) := hb1.alloc hb1.size _
  have hn := box_called hB0 hg0 hb2; clear hg0 hB0 hb2; obtain ⟨hg, hB⟩ := hn
  have hw1 : w.heap.size ≤ w1.heap.size := hb1.size
  go_wp2_with (first | ((with_reducible show wpList _ _ _ (⟨none, .store 24 (.tmp 13) (.tmp 27), _, _, _, none⟩ :: _) _ _); refine wpList_store_row rfl 24 (.tmp 13) (.tmp 27) rfl w1.heap.size #[.bool true, .int .u8 one, .int .u8 two, .int .u8 one, .int .u8 two] rfl rfl 24 _ hg size24 rfl (by kernel_rfl) ?_; obtain ⟨w3, e3, hn⟩ := box_stored hB hw1 hg #[.bool true, .int .u8 one, .int .u8 two, .int .u8 one, .int .u8 two]; rw [e3]; clear e3 hg hB; obtain ⟨hg, hB⟩ := hn) | ((with_reducible show wpList _ _ _ (⟨_, .load 24 (.tmp 13), _, _, _, none⟩ :: _) _ _); refine wpList_load_row rfl 24 (.tmp 13) rfl w1.heap.size ?q1 24 _ (0, 0) _ hg Try.underlying24 rfl size24 ?_; (case q1 => rfl)))
  refine (pwrite_any true one two one two _ a1 a2 _).mono ?_
  rintro e w4 ⟨rfl, hb2⟩
  rw [show Pd.write ⟨true, one, two, one, two⟩ (bits .andNot .u8 down 1) = ⟨false, one, two, one, two⟩ from by unfold Pd.write; simp [A3.out]]
  have hn := box_called hB hg hb2; clear hg hB hb2; obtain ⟨hg, hB⟩ := hn
  go_wp2_with (first | ((with_reducible show wpList _ _ _ (⟨none, .store 24 (.tmp 13) (.tmp 31), _, _, _, none⟩ :: _) _ _); refine wpList_store_row rfl 24 (.tmp 13) (.tmp 31) rfl w1.heap.size #[.bool false, .int .u8 one, .int .u8 two, .int .u8 one, .int .u8 two] rfl rfl 24 _ hg size24 rfl (by kernel_rfl) ?_; obtain ⟨w3, e3, hn⟩ := box_stored hB hw1 hg #[.bool false, .int .u8 one, .int .u8 two, .int .u8 one, .int .u8 two]; rw [e3]; clear e3 hg hB; obtain ⟨hg, hB⟩ := hn) | ((with_reducible show wpList _ _ _ (⟨_, .load 24 (.tmp 13), _, _, _, none⟩ :: _) _ _); refine wpList_load_row rfl 24 (.tmp 13) rfl w1.heap.size ?q1 24 _ (0, 0) _ hg Try.underlying24 rfl size24 ?_; (case q1 => rfl)))
  clear hw1
  have hlt1 := lt_of_row hg
  have hsz : w.heap.size ≤ w3.heap.size := hB.size
  go_loopw [16, 17, 18, 19] (fun i _ _ _ wr => ∃ (k n0 n1 : Nat) (h0 h1 : Int), k ≤ len5 ∧ i = .int .i64 k ∧ n0 + n1 ≤ k ∧ (k = 0 → h0 = one ∧ h1 = two) ∧ E3 w wr w1.heap.size w3.heap.size (w3.heap.size + 1) false h0 h1 (shf one n0) (shf two n1) n0 n1 one two)
    (fun i _ _ _ _ => len5 - (intOf i).toNat)
  case atStart =>
    refine ⟨0, 0, 0, one, two, Nat.zero_le _, rfl, Nat.le_refl _, fun _ => ⟨rfl, rfl⟩, ?_, ?_, ?_, ?_, ?_⟩
    · rw [shf_zero, shf_zero]; exact row_alloc (row_alloc hg _) _
    · exact row_alloc (heap_alloc_new w3 _) _
    · have := heap_alloc_new (w3.alloc (.cells #[.int .i64 0, .int .i64 0] 34)) (.cells #[.int .u8 one, .int .u8 two] 22)
      simpa using this
    · exact (hB.alloc hsz _).alloc (by simp; omega) _
    · exact ⟨hb1.size, hlt1, by omega⟩
  case round =>
    obtain ⟨k, n0, n1, h0, h1, hk, rfl, hn01, hk0, hE⟩ := hrel
    clear hg hB
    by_cases hlt : k < len5
    · obtain ⟨ad, rfl, hcw⟩ := hc5 k hlt
      obtain ⟨x, hx⟩ : ∃ x, z5.getD k 0 = x := ⟨_, rfl⟩
      have hxb : 0 ≤ x ∧ x < 256 := by
        rw [← hx, List.getD_eq_getElem?_getD, List.getElem?_eq_getElem (by omega)]
        exact hz5 _ (List.getElem_mem _)
      obtain ⟨hx0, hx1⟩ := hxb
      have HC5 : Hid (∀ wx : World, Below w.heap.size w wx → wx.cell? (ad.add k) = some (.int .u8 x)) := Lib.hid (fun wx h => (h.cell (lt_of_cell hcw)).trans (hcw.trans (by rw [hx])))
      have hcr := HC5.out _ hE.hB
      clear hx hcw hc5
      obtain ⟨f0, f1, f2, f3, f4⟩ := shf_facts one o0 o1 n0
      obtain ⟨e0, e1, e2, e3, e4⟩ := shf_facts two t0 t1 n1
      obtain ⟨p0, hp0⟩ : ∃ p0, shf one n0 = p0 := ⟨_, rfl⟩
      obtain ⟨p1, hp1⟩ : ∃ p1, shf two n1 = p1 := ⟨_, rfl⟩
      rw [hp0] at f0 f1 f2 f3 f4 hE
      rw [hp1] at e0 e1 e2 e3 e4 hE
      have HP0 := Lib.hid hp0; have HP1 := Lib.hid hp1
      have F2 := Lib.hid f2; have F3 := Lib.hid f3; have F4 := Lib.hid f4; have E2' := Lib.hid e2; have E3' := Lib.hid e3; have E4 := Lib.hid e4
      clear f2 f3 f4 e2 e3 e4 hp0 hp1 hk0
      have hax := and1 x hx0 hx1
      rcases Int.emod_two_eq x with hx2 | hx2
      all_goals (rw [hx2] at hax; clear hx2)
      · by_cases hl : k < len4
        · obtain ⟨ad4, rfl, hcw4⟩ := hc4 k hl
          obtain ⟨y, hy⟩ : ∃ y, z4.getD k 0 = y := ⟨_, rfl⟩
          have hcr4 : wr.cell? (ad4.add k) = some (.int .u8 y) := (hE.hB.cell (lt_of_cell hcw4)).trans (hcw4.trans (by rw [hy]))
          have c0 := hE.c0; have c1 := hE.c1; have c2 := hE.c2; have c3 := hE.c3; have c4 := hE.c4
          clear hcw4 hc4 hy
          go_wp2_with fail
          go_still_tail 10, (by kernel_rfl)
          change wpList _ _ _ _ _ wr.drew
          clear c0 c1 c2 c3 c4 hcr4 hcr
          go_wp2_with fail
          have hE9 := hE.drew; clear hE; have hE := hE9; clear hE9
          refine (pset_any _ _ _ _ _ _ _ _).mono ?_
          rintro e w5 ⟨rfl, hb5⟩
          obtain ⟨q, hq0⟩ : ∃ q, bits .xor .u8 y 90 = q := ⟨_, rfl⟩
          rw [hq0, show Pd.set ⟨false, h0, h1, p0, p1⟩ y q = ⟨false, y, q, p0, p1⟩ from rfl]
          clear hq0
          have hE9 := hE.called hb5; clear hE hb5; have hE := hE9; clear hE9
          go_wp2_with (first | ((with_reducible show wpList _ _ _ (⟨none, .store 24 (.tmp 13) (.tmp 55), _, _, _, none⟩ :: _) _ _); refine wpList_store_row rfl 24 (.tmp 13) (.tmp 55) rfl w1.heap.size _ rfl rfl 24 _ hE.hp size24 rfl (by kernel_rfl) ?_; obtain ⟨w9, e9, hn⟩ := hE.stored false y q p0 p1; rw [e9]; clear e9 hE; have hE := hn; clear hn; have hcr := HC5.out _ hE.hB) | ((with_reducible show wpList _ _ _ (⟨_, .load 24 (.tmp 13), _, _, _, none⟩ :: _) _ _); refine wpList_load_row rfl 24 (.tmp 13) rfl w1.heap.size ?q1 24 _ (0, 0) _ hE.hp Try.underlying24 rfl size24 ?_; (case q1 => rfl)))
          refine (pread_dn0 y q p0 p1 f0 f1 _).mono ?_
          rintro e w6 ⟨rfl, hb6⟩
          rw [show Pd.bit ⟨false, y, q, p0, p1⟩ 0 = p0 % 2 from rfl, show Pd.read ⟨false, y, q, p0, p1⟩ 0 = ⟨false, y, q, (p0 / 2 + 128), p1⟩ from rfl]
          have hE9 := hE.called hb6; clear hE hb6; have hE := hE9; clear hE9
          by_cases hn8 : n0 < 8
          · have hq : (p0 % 2 != one / 2 ^ n0 % 2) = false := by rw [F4.out hn8]; simp
            have hd0 : 0 ≤ one / 2 ^ n0 := Int.ediv_nonneg (by omega) (Int.pow_nonneg (by omega))
            have hd1 : one / 2 ^ n0 < 256 := Int.lt_of_le_of_lt (Int.ediv_le_self _ (by omega)) (by omega)
            have had := and1 (one / 2 ^ n0) hd0 hd1
            go_wp2_with (first | ((with_reducible show wpList _ _ _ (⟨none, .store 24 (.tmp 13) (.tmp 67), _, _, _, none⟩ :: _) _ _); refine wpList_store_row rfl 24 (.tmp 13) (.tmp 67) rfl w1.heap.size _ rfl rfl 24 _ hE.hp size24 rfl (by kernel_rfl) ?_; obtain ⟨w9, e9, hn⟩ := hE.stored false y q (p0 / 2 + 128) p1; rw [e9]; clear e9 hE; have hE := hn; clear hn; have hcs0 := hE.cs0; have hcs1 := hE.cs1; have hch0 := hE.ch0; have hch1 := hE.ch1; have hfz := hE.fz 0) | ((with_reducible show wpList _ _ _ (⟨_, .load 24 (.tmp 13), _, _, _, none⟩ :: _) _ _); refine wpList_load_row rfl 24 (.tmp 13) rfl w1.heap.size ?q1 24 _ (0, 0) _ hE.hp Try.underlying24 rfl size24 ?_; (case q1 => rfl)))
            go_quiet (fail)
            go_wp2_with fail
            go_roundw
            case rel =>
              refine ⟨k + 1, n0 + 1, n1, y, q, by omega, by go_num, by omega, fun h => absurd h (by omega), ?_⟩
              rw [F2.out, HP1.out]
              exact (hE.drewN _).seen0 (n0 + 1)
            case measure => simp [intOf]; omega
          · have hq : (p0 % 2 != 1) = false := by rw [F3.out (by omega)]; rfl
            go_wp2_with (first | ((with_reducible show wpList _ _ _ (⟨none, .store 24 (.tmp 13) (.tmp 67), _, _, _, none⟩ :: _) _ _); refine wpList_store_row rfl 24 (.tmp 13) (.tmp 67) rfl w1.heap.size _ rfl rfl 24 _ hE.hp size24 rfl (by kernel_rfl) ?_; obtain ⟨w9, e9, hn⟩ := hE.stored false y q (p0 / 2 + 128) p1; rw [e9]; clear e9 hE; have hE := hn; clear hn; have hcs0 := hE.cs0; have hcs1 := hE.cs1; have hch0 := hE.ch0; have hch1 := hE.ch1; have hfz := hE.fz 0) | ((with_reducible show wpList _ _ _ (⟨_, .load 24 (.tmp 13), _, _, _, none⟩ :: _) _ _); refine wpList_load_row rfl 24 (.tmp 13) rfl w1.heap.size ?q1 24 _ (0, 0) _ hE.hp Try.underlying24 rfl size24 ?_; (case q1 => rfl)))
            go_roundw
            case rel =>
              refine ⟨k + 1, n0 + 1, n1, y, q, by omega, by go_num, by omega, fun h => absurd h (by omega), ?_⟩
              rw [F2.out, HP1.out]
              exact hE.seen0 (n0 + 1)
            case measure => simp [intOf]; omega
        · clear hc4
          go_wp2_with ((with_reducible show wpList _ _ _ (⟨_, .load 24 (.tmp 13), _, _, _, none⟩ :: _) _ _); refine wpList_load_row rfl 24 (.tmp 13) rfl w1.heap.size ?q1 24 _ (0, 0) _ hE.hp Try.underlying24 rfl size24 ?_; (case q1 => rfl))
          refine (pread_dn0 h0 h1 p0 p1 f0 f1 _).mono ?_
          rintro e w6 ⟨rfl, hb6⟩
          rw [show Pd.bit ⟨false, h0, h1, p0, p1⟩ 0 = p0 % 2 from rfl, show Pd.read ⟨false, h0, h1, p0, p1⟩ 0 = ⟨false, h0, h1, (p0 / 2 + 128), p1⟩ from rfl]
          have hE9 := hE.called hb6; clear hE hb6; have hE := hE9; clear hE9
          by_cases hn8 : n0 < 8
          · have hq : (p0 % 2 != one / 2 ^ n0 % 2) = false := by rw [F4.out hn8]; simp
            have hd0 : 0 ≤ one / 2 ^ n0 := Int.ediv_nonneg (by omega) (Int.pow_nonneg (by omega))
            have hd1 : one / 2 ^ n0 < 256 := Int.lt_of_le_of_lt (Int.ediv_le_self _ (by omega)) (by omega)
            have had := and1 (one / 2 ^ n0) hd0 hd1
            go_wp2_with (first | ((with_reducible show wpList _ _ _ (⟨none, .store 24 (.tmp 13) (.tmp 67), _, _, _, none⟩ :: _) _ _); refine wpList_store_row rfl 24 (.tmp 13) (.tmp 67) rfl w1.heap.size _ rfl rfl 24 _ hE.hp size24 rfl (by kernel_rfl) ?_; obtain ⟨w9, e9, hn⟩ := hE.stored false h0 h1 (p0 / 2 + 128) p1; rw [e9]; clear e9 hE; have hE := hn; clear hn; have hcs0 := hE.cs0; have hcs1 := hE.cs1; have hch0 := hE.ch0; have hch1 := hE.ch1; have hfz := hE.fz 0) | ((with_reducible show wpList _ _ _ (⟨_, .load 24 (.tmp 13), _, _, _, none⟩ :: _) _ _); refine wpList_load_row rfl 24 (.tmp 13) rfl w1.heap.size ?q1 24 _ (0, 0) _ hE.hp Try.underlying24 rfl size24 ?_; (case q1 => rfl)))
            go_quiet (fail)
            go_wp2_with fail
            go_roundw
            case rel =>
              refine ⟨k + 1, n0 + 1, n1, h0, h1, by omega, by go_num, by omega, fun h => absurd h (by omega), ?_⟩
              rw [F2.out, HP1.out]
              exact (hE.drewN _).seen0 (n0 + 1)
            case measure => simp [intOf]; omega
          · have hq : (p0 % 2 != 1) = false := by rw [F3.out (by omega)]; rfl
            go_wp2_with (first | ((with_reducible show wpList _ _ _ (⟨none, .store 24 (.tmp 13) (.tmp 67), _, _, _, none⟩ :: _) _ _); refine wpList_store_row rfl 24 (.tmp 13) (.tmp 67) rfl w1.heap.size _ rfl rfl 24 _ hE.hp size24 rfl (by kernel_rfl) ?_; obtain ⟨w9, e9, hn⟩ := hE.stored false h0 h1 (p0 / 2 + 128) p1; rw [e9]; clear e9 hE; have hE := hn; clear hn; have hcs0 := hE.cs0; have hcs1 := hE.cs1; have hch0 := hE.ch0; have hch1 := hE.ch1; have hfz := hE.fz 0) | ((with_reducible show wpList _ _ _ (⟨_, .load 24 (.tmp 13), _, _, _, none⟩ :: _) _ _); refine wpList_load_row rfl 24 (.tmp 13) rfl w1.heap.size ?q1 24 _ (0, 0) _ hE.hp Try.underlying24 rfl size24 ?_; (case q1 => rfl)))
            go_roundw
            case rel =>
              refine ⟨k + 1, n0 + 1, n1, h0, h1, by omega, by go_num, by omega, fun h => absurd h (by omega), ?_⟩
              rw [F2.out, HP1.out]
              exact hE.seen0 (n0 + 1)
            case measure => simp [intOf]; omega
      · by_cases hl : k < len4
        · obtain ⟨ad4, rfl, hcw4⟩ := hc4 k hl
          obtain ⟨y, hy⟩ : ∃ y, z4.getD k 0 = y := ⟨_, rfl⟩
          have hcr4 : wr.cell? (ad4.add k) = some (.int .u8 y) := (hE.hB.cell (lt_of_cell hcw4)).trans (hcw4.trans (by rw [hy]))
          have c0 := hE.c0; have c1 := hE.c1; have c2 := hE.c2; have c3 := hE.c3; have c4 := hE.c4
          clear hcw4 hc4 hy
          go_wp2_with fail
          go_still_tail 10, (by kernel_rfl)
          change wpList _ _ _ _ _ wr.drew
          clear c0 c1 c2 c3 c4 hcr4 hcr
          go_wp2_with fail
          have hE9 := hE.drew; clear hE; have hE := hE9; clear hE9
          refine (pset_any _ _ _ _ _ _ _ _).mono ?_
          rintro e w5 ⟨rfl, hb5⟩
          obtain ⟨q, hq0⟩ : ∃ q, bits .xor .u8 y 90 = q := ⟨_, rfl⟩
          rw [hq0, show Pd.set ⟨false, h0, h1, p0, p1⟩ y q = ⟨false, y, q, p0, p1⟩ from rfl]
          clear hq0
          have hE9 := hE.called hb5; clear hE hb5; have hE := hE9; clear hE9
          go_wp2_with (first | ((with_reducible show wpList _ _ _ (⟨none, .store 24 (.tmp 13) (.tmp 55), _, _, _, none⟩ :: _) _ _); refine wpList_store_row rfl 24 (.tmp 13) (.tmp 55) rfl w1.heap.size _ rfl rfl 24 _ hE.hp size24 rfl (by kernel_rfl) ?_; obtain ⟨w9, e9, hn⟩ := hE.stored false y q p0 p1; rw [e9]; clear e9 hE; have hE := hn; clear hn; have hcr := HC5.out _ hE.hB) | ((with_reducible show wpList _ _ _ (⟨_, .load 24 (.tmp 13), _, _, _, none⟩ :: _) _ _); refine wpList_load_row rfl 24 (.tmp 13) rfl w1.heap.size ?q1 24 _ (0, 0) _ hE.hp Try.underlying24 rfl size24 ?_; (case q1 => rfl)))
          refine (pread_dn1 y q p0 p1 e0 e1 _).mono ?_
          rintro e w6 ⟨rfl, hb6⟩
          rw [show Pd.bit ⟨false, y, q, p0, p1⟩ 1 = p1 % 2 from rfl, show Pd.read ⟨false, y, q, p0, p1⟩ 1 = ⟨false, y, q, p0, (p1 / 2 + 128)⟩ from rfl]
          have hE9 := hE.called hb6; clear hE hb6; have hE := hE9; clear hE9
          by_cases hn8 : n1 < 8
          · have hq : (p1 % 2 != two / 2 ^ n1 % 2) = false := by rw [E4.out hn8]; simp
            have hd0 : 0 ≤ two / 2 ^ n1 := Int.ediv_nonneg (by omega) (Int.pow_nonneg (by omega))
            have hd1 : two / 2 ^ n1 < 256 := Int.lt_of_le_of_lt (Int.ediv_le_self _ (by omega)) (by omega)
            have had := and1 (two / 2 ^ n1) hd0 hd1
            go_wp2_with (first | ((with_reducible show wpList _ _ _ (⟨none, .store 24 (.tmp 13) (.tmp 67), _, _, _, none⟩ :: _) _ _); refine wpList_store_row rfl 24 (.tmp 13) (.tmp 67) rfl w1.heap.size _ rfl rfl 24 _ hE.hp size24 rfl (by kernel_rfl) ?_; obtain ⟨w9, e9, hn⟩ := hE.stored false y q p0 (p1 / 2 + 128); rw [e9]; clear e9 hE; have hE := hn; clear hn; have hcs0 := hE.cs0; have hcs1 := hE.cs1; have hch0 := hE.ch0; have hch1 := hE.ch1; have hfz := hE.fz 1) | ((with_reducible show wpList _ _ _ (⟨_, .load 24 (.tmp 13), _, _, _, none⟩ :: _) _ _); refine wpList_load_row rfl 24 (.tmp 13) rfl w1.heap.size ?q1 24 _ (0, 0) _ hE.hp Try.underlying24 rfl size24 ?_; (case q1 => rfl)))
            go_quiet (fail)
            go_wp2_with fail
            go_roundw
            case rel =>
              refine ⟨k + 1, n0, n1 + 1, y, q, by omega, by go_num, by omega, fun h => absurd h (by omega), ?_⟩
              rw [E2'.out, HP0.out]
              exact (hE.drewN _).seen1 (n1 + 1)
            case measure => simp [intOf]; omega
          · have hq : (p1 % 2 != 1) = false := by rw [E3'.out (by omega)]; rfl
            go_wp2_with (first | ((with_reducible show wpList _ _ _ (⟨none, .store 24 (.tmp 13) (.tmp 67), _, _, _, none⟩ :: _) _ _); refine wpList_store_row rfl 24 (.tmp 13) (.tmp 67) rfl w1.heap.size _ rfl rfl 24 _ hE.hp size24 rfl (by kernel_rfl) ?_; obtain ⟨w9, e9, hn⟩ := hE.stored false y q p0 (p1 / 2 + 128); rw [e9]; clear e9 hE; have hE := hn; clear hn; have hcs0 := hE.cs0; have hcs1 := hE.cs1; have hch0 := hE.ch0; have hch1 := hE.ch1; have hfz := hE.fz 1) | ((with_reducible show wpList _ _ _ (⟨_, .load 24 (.tmp 13), _, _, _, none⟩ :: _) _ _); refine wpList_load_row rfl 24 (.tmp 13) rfl w1.heap.size ?q1 24 _ (0, 0) _ hE.hp Try.underlying24 rfl size24 ?_; (case q1 => rfl)))
            go_roundw
            case rel =>
              refine ⟨k + 1, n0, n1 + 1, y, q, by omega, by go_num, by omega, fun h => absurd h (by omega), ?_⟩
              rw [E2'.out, HP0.out]
              exact hE.seen1 (n1 + 1)
            case measure => simp [intOf]; omega
        · clear hc4
          go_wp2_with ((with_reducible show wpList _ _ _ (⟨_, .load 24 (.tmp 13), _, _, _, none⟩ :: _) _ _); refine wpList_load_row rfl 24 (.tmp 13) rfl w1.heap.size ?q1 24 _ (0, 0) _ hE.hp Try.underlying24 rfl size24 ?_; (case q1 => rfl))
          refine (pread_dn1 h0 h1 p0 p1 e0 e1 _).mono ?_
          rintro e w6 ⟨rfl, hb6⟩
          rw [show Pd.bit ⟨false, h0, h1, p0, p1⟩ 1 = p1 % 2 from rfl, show Pd.read ⟨false, h0, h1, p0, p1⟩ 1 = ⟨false, h0, h1, p0, (p1 / 2 + 128)⟩ from rfl]
          have hE9 := hE.called hb6; clear hE hb6; have hE := hE9; clear hE9
          by_cases hn8 : n1 < 8
          · have hq : (p1 % 2 != two / 2 ^ n1 % 2) = false := by rw [E4.out hn8]; simp
            have hd0 : 0 ≤ two / 2 ^ n1 := Int.ediv_nonneg (by omega) (Int.pow_nonneg (by omega))
            have hd1 : two / 2 ^ n1 < 256 := Int.lt_of_le_of_lt (Int.ediv_le_self _ (by omega)) (by omega)
            have had := and1 (two / 2 ^ n1) hd0 hd1
            go_wp2_with (first | ((with_reducible show wpList _ _ _ (⟨none, .store 24 (.tmp 13) (.tmp 67), _, _, _, none⟩ :: _) _ _); refine wpList_store_row rfl 24 (.tmp 13) (.tmp 67) rfl w1.heap.size _ rfl rfl 24 _ hE.hp size24 rfl (by kernel_rfl) ?_; obtain ⟨w9, e9, hn⟩ := hE.stored false h0 h1 p0 (p1 / 2 + 128); rw [e9]; clear e9 hE; have hE := hn; clear hn; have hcs0 := hE.cs0; have hcs1 := hE.cs1; have hch0 := hE.ch0; have hch1 := hE.ch1; have hfz := hE.fz 1) | ((with_reducible show wpList _ _ _ (⟨_, .load 24 (.tmp 13), _, _, _, none⟩ :: _) _ _); refine wpList_load_row rfl 24 (.tmp 13) rfl w1.heap.size ?q1 24 _ (0, 0) _ hE.hp Try.underlying24 rfl size24 ?_; (case q1 => rfl)))
            go_quiet (fail)
            go_wp2_with fail
            go_roundw
            case rel =>
              refine ⟨k + 1, n0, n1 + 1, h0, h1, by omega, by go_num, by omega, fun h => absurd h (by omega), ?_⟩
              rw [E2'.out, HP0.out]
              exact (hE.drewN _).seen1 (n1 + 1)
            case measure => simp [intOf]; omega
          · have hq : (p1 % 2 != 1) = false := by rw [E3'.out (by omega)]; rfl
            go_wp2_with (first | ((with_reducible show wpList _ _ _ (⟨none, .store 24 (.tmp 13) (.tmp 67), _, _, _, none⟩ :: _) _ _); refine wpList_store_row rfl 24 (.tmp 13) (.tmp 67) rfl w1.heap.size _ rfl rfl 24 _ hE.hp size24 rfl (by kernel_rfl) ?_; obtain ⟨w9, e9, hn⟩ := hE.stored false h0 h1 p0 (p1 / 2 + 128); rw [e9]; clear e9 hE; have hE := hn; clear hn; have hcs0 := hE.cs0; have hcs1 := hE.cs1; have hch0 := hE.ch0; have hch1 := hE.ch1; have hfz := hE.fz 1) | ((with_reducible show wpList _ _ _ (⟨_, .load 24 (.tmp 13), _, _, _, none⟩ :: _) _ _); refine wpList_load_row rfl 24 (.tmp 13) rfl w1.heap.size ?q1 24 _ (0, 0) _ hE.hp Try.underlying24 rfl size24 ?_; (case q1 => rfl)))
            go_roundw
            case rel =>
              refine ⟨k + 1, n0, n1 + 1, h0, h1, by omega, by go_num, by omega, fun h => absurd h (by omega), ?_⟩
              rw [E2'.out, HP0.out]
              exact hE.seen1 (n1 + 1)
            case measure => simp [intOf]; omega
    · obtain rfl : k = len5 := by omega
      have c0 := hE.c0; have c1 := hE.c1; have c2 := hE.c2; have c3 := hE.c3; have c4 := hE.c4
      have d0 := hE.ch0; have d1 := hE.ch1
      clear hc4 hc5
      by_cases hk9 : k = 0
      · subst hk9
        obtain ⟨rfl, rfl⟩ := hk0 rfl
        obtain ⟨rfl, rfl⟩ : n0 = 0 ∧ n1 = 0 := by omega
        rw [shf_zero] at c3 c4
        have heq := eql_arr h0 h1 h0 h1
        go_wp2_with fail
        go_ret
        exact ⟨by simp, hE.hB⟩
      · go_wp2_with fail
        go_ret
        exact ⟨by simp, hE.hB⟩
end Go.Proofs.Ythbommecihnndaa

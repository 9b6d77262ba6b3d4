/- PadsHigh holds of the given program: as long as the strobe is up each read tells A as it is pressed now, and nothing is shifted. For every byte and every list of presses. -/
import Derived.Test.YthbommecihnndaaRows
import Derived.Test.YthbommecihnndaaPort
import Derived.Test.YthbommecihnndaaBox
import Derived.Test.YthbommecihnndaaEqPads
import Derived.WalkKit
import Derived.ProofKit
import Derived.OpenShut
import Derived.ChangeOld
import Derived.Below
import Derived.SizedLaws
import Derived.StillTailTactics
import Derived.Deep.RegionHeld3
import Derived.Lib.Hide
import Derived.Laws.CopyOwn
namespace Go.Proofs.Ythbommecihnndaa
open Go.RowKit

theorem or8 (v : Int) (h0 : 0 ≤ v) (h1 : v < 256) : 0 ≤ bits .or .u8 v 1 ∧ bits .or .u8 v 1 < 256 ∧ bits .or .u8 v 1 % 2 = 1 := by
  have h : ∀ n : Fin 256, 0 ≤ bits .or .u8 (n.val : Int) 1 ∧ bits .or .u8 (n.val : Int) 1 < 256 ∧ bits .or .u8 (n.val : Int) 1 % 2 = 1 := by decide +kernel
  obtain ⟨n, rfl⟩ := Int.eq_ofNat_of_zero_le h0
  exact h ⟨n, by omega⟩
theorem andNot8 (v : Int) (h0 : 0 ≤ v) (h1 : v < 256) : 0 ≤ bits .andNot .u8 v 1 ∧ bits .andNot .u8 v 1 < 256 ∧ bits .andNot .u8 v 1 % 2 = 0 := by
  have h : ∀ n : Fin 256, 0 ≤ bits .andNot .u8 (n.val : Int) 1 ∧ bits .andNot .u8 (n.val : Int) 1 < 256 ∧ bits .andNot .u8 (n.val : Int) 1 % 2 = 0 := by decide +kernel
  obtain ⟨n, rfl⟩ := Int.eq_ofNat_of_zero_le h0
  exact h ⟨n, by omega⟩
theorem not8 (x : Int) (h0 : 0 ≤ x) (h1 : x < 256) : bits .xor .u8 (if IntKind.u8.signed = true then -1 else IntKind.u8.max) x = 255 - x := by
  have h : ∀ n : Fin 256, bits .xor .u8 (if IntKind.u8.signed = true then -1 else IntKind.u8.max) (n.val : Int) = 255 - (n.val : Int) := by decide +kernel
  obtain ⟨n, rfl⟩ := Int.eq_ofNat_of_zero_le h0
  exact h ⟨n, by omega⟩
theorem size24 : (Try.prog.info? 24).map (·.size) = some 5 := by kernel_rfl
set_option maxRecDepth 100000 in
set_option maxHeartbeats 4000000 in
theorem padsHigh_walk (v : Int) (v0 : 0 ≤ v) (v1 : v < 256) (A : Option Addr) (len cap : Nat) (zs : List Int) (hl : len ≤ zs.length) (hreach : len ≤ 140737488351232)
    (hz : ∀ x ∈ zs, 0 ≤ x ∧ x < 256) (w : World) (hc : ∀ k, k < len → ∃ ad, A = some ad ∧ w.cell? (ad.add k) = some (.int .u8 (zs.getD k 0))) :
    Calls Try.prog 5 #[.int .u8 v, .slice A len cap] w fun e w' => e = .returned (.bool true) ∧ Below w.heap.size w w' := by
  obtain ⟨b1, b2, b3⟩ := or8 v v0 v1
  have B3 := Lib.hid b3; clear b3
  go_enter Try.func5, Try.ntmps5
  go_wp2_with fail
  refine (pwrite_any false 0 0 0 0 _ b1 b2 _).mono ?_
  rintro e w1 ⟨rfl, hb1⟩
  have hW : Pd.write ⟨false, 0, 0, 0, 0⟩ (bits .or .u8 v 1) = ⟨true, 0, 0, 0, 0⟩ := by unfold Pd.write; simp [B3.out]
  rw [hW]; clear hW
  go_wp2_with fail
  go_loopw [6, 7, 8, 9] (fun i _ _ _ wr => ∃ (k : Nat) (h0 h1 t0 t1 : Int), k ≤ len ∧ i = .int .i64 k ∧ (0 ≤ h0 ∧ h0 < 256) ∧ (0 ≤ h1 ∧ h1 < 256) ∧ wr.heap[w1.heap.size]? = some (.cells #[.bool true, .int .u8 h0, .int .u8 h1, .int .u8 t0, .int .u8 t1] 24 (0, 0)) ∧ Below w.heap.size w wr)
    (fun i _ _ _ _ => len - (intOf i).toNat)
  case atStart => exact ⟨0, 0, 0, 0, 0, Nat.zero_le _, rfl, by omega, by omega, by simpa using heap_alloc_new w1 _, (hb1.alloc (by have := hb1.size; simpa using this) _)⟩
  case round =>
    obtain ⟨k, h0, h1, t0, t1, hk, rfl, hh0, hh1, hg, hB⟩ := hrel
    have hw1 : w.heap.size ≤ w1.heap.size := hb1.size
    by_cases hlt : k < len
    · obtain ⟨ad, rfl, hcw⟩ := hc k hlt
      have hcr : wr.cell? (ad.add k) = some (.int .u8 (zs.getD k 0)) := (hB.cell (lt_of_cell hcw)).trans hcw
      obtain ⟨x, hx⟩ : ∃ x, zs.getD k 0 = x := ⟨_, rfl⟩
      rw [hx] at hcr
      have hxb : 0 ≤ x ∧ x < 256 := by
        rw [← hx, List.getD_eq_getElem?_getD, List.getElem?_eq_getElem (by omega)]
        exact hz _ (List.getElem_mem _)
      obtain ⟨hx0, hx1⟩ := hxb
      have hnx := not8 x hx0 hx1
      have hax := and1 x hx0 hx1
      have c0 := cell_of_row wr _ 0 _ _ _ hg
      have c1 := cell_of_row wr _ 1 _ _ _ hg
      have c2 := cell_of_row wr _ 2 _ _ _ hg
      have c3 := cell_of_row wr _ 3 _ _ _ hg
      have c4 := cell_of_row wr _ 4 _ _ _ hg
      simp only [List.getElem?_toArray, List.getElem?_cons_zero, List.getElem?_cons_succ] at c0 c1 c2 c3 c4
      have hcx : ∀ wx : World, Below w.heap.size w wx → wx.cell? (ad.add k) = some (.int .u8 x) := fun wx h => (h.cell (lt_of_cell hcw)).trans (hcw.trans (by rw [hx]))
      have HCX := Lib.hid hcx; clear hcx
      clear hx hcw hc
      go_wp2_with fail
      go_still_tail 10, (by kernel_rfl)
      change wpList _ _ _ _ _ wr.drew
      clear c0 c1 c2 c3 c4
      go_wp2_with fail
      have hB0 : Below w.heap.size w wr.drew := hB.drew
      have hg0 : wr.drew.heap[w1.heap.size]? = some (.cells #[.bool true, .int .u8 h0, .int .u8 h1, .int .u8 t0, .int .u8 t1] 24 (0, 0)) := hg
      clear hg hB
      have hg := hg0; have hB := hB0; clear hg0 hB0
      refine (pset_any _ _ _ _ _ _ _ _).mono ?_
      rintro e w2 ⟨rfl, hb2⟩
      rw [show Pd.set ⟨true, h0, h1, t0, t1⟩ x (255 - x) = ⟨true, x, 255 - x, x, 255 - x⟩ from rfl]
      have hn := box_called hB hg hb2; clear hg hB hb2; obtain ⟨hg, hB⟩ := hn
      go_wp2_with (first | (refine wpList_store_row (o := ⟨none, .store 24 (.tmp 5) (.tmp 34), _, _, _, none⟩) rfl 24 (.tmp 5) (.tmp 34) rfl w1.heap.size #[.bool true, .int .u8 x, .int .u8 (255 - x), .int .u8 x, .int .u8 (255 - x)] rfl rfl 24 _ hg size24 rfl (by kernel_rfl) ?_; obtain ⟨w3, e3, hn⟩ := box_stored hB hw1 hg #[.bool true, .int .u8 x, .int .u8 (255 - x), .int .u8 x, .int .u8 (255 - x)]; rw [e3]; clear e3 hg hB; obtain ⟨hg, hB⟩ := hn) | (refine wpList_load_row (o := ⟨_, .load 24 (.tmp 5), _, _, _, none⟩) rfl 24 (.tmp 5) rfl w1.heap.size ?q1 24 _ (0, 0) _ hg Try.underlying24 rfl size24 ?_; (case q1 => rfl)))
      refine (pread_up0 x (255 - x) x (255 - x) (by omega) (by omega) _).mono ?_
      rintro e w4 ⟨rfl, hb2⟩
      rw [show Pd.read ⟨true, x, 255 - x, x, 255 - x⟩ 0 = ⟨true, x, 255 - x, x, 255 - x⟩ from rfl, show Pd.bit ⟨true, x, 255 - x, x, 255 - x⟩ 0 = x % 2 from rfl]
      have hn := box_called hB hg hb2; clear hg hB hb2; obtain ⟨hg, hB⟩ := hn
      go_wp2_with (first | (refine wpList_store_row (o := ⟨none, .store 24 (.tmp 5) (.tmp 39), _, _, _, none⟩) rfl 24 (.tmp 5) (.tmp 39) rfl w1.heap.size #[.bool true, .int .u8 x, .int .u8 (255 - x), .int .u8 x, .int .u8 (255 - x)] rfl rfl 24 _ hg size24 rfl (by kernel_rfl) ?_; obtain ⟨w3, e3, hn⟩ := box_stored hB hw1 hg #[.bool true, .int .u8 x, .int .u8 (255 - x), .int .u8 x, .int .u8 (255 - x)]; rw [e3]; clear e3 hg hB; obtain ⟨hg, hB⟩ := hn) | (refine wpList_load_row (o := ⟨_, .load 24 (.tmp 5), _, _, _, none⟩) rfl 24 (.tmp 5) rfl w1.heap.size ?q1 24 _ (0, 0) _ hg Try.underlying24 rfl size24 ?_; (case q1 => rfl)))
      refine (pread_up1 x (255 - x) x (255 - x) (by omega) (by omega) _).mono ?_
      rintro e w5 ⟨rfl, hb2⟩
      rw [show Pd.read ⟨true, x, 255 - x, x, 255 - x⟩ 1 = ⟨true, x, 255 - x, x, 255 - x⟩ from rfl, show Pd.bit ⟨true, x, 255 - x, x, 255 - x⟩ 1 = (255 - x) % 2 from rfl]
      have hn := box_called hB hg hb2; clear hg hB hb2; obtain ⟨hg, hB⟩ := hn
      go_wp2_with (first | (refine wpList_store_row (o := ⟨none, .store 24 (.tmp 5) (.tmp 44), _, _, _, none⟩) rfl 24 (.tmp 5) (.tmp 44) rfl w1.heap.size #[.bool true, .int .u8 x, .int .u8 (255 - x), .int .u8 x, .int .u8 (255 - x)] rfl rfl 24 _ hg size24 rfl (by kernel_rfl) ?_; obtain ⟨w3, e3, hn⟩ := box_stored hB hw1 hg #[.bool true, .int .u8 x, .int .u8 (255 - x), .int .u8 x, .int .u8 (255 - x)]; rw [e3]; clear e3 hg hB; obtain ⟨hg, hB⟩ := hn) | (refine wpList_load_row (o := ⟨_, .load 24 (.tmp 5), _, _, _, none⟩) rfl 24 (.tmp 5) rfl w1.heap.size ?q1 24 _ (0, 0) _ hg Try.underlying24 rfl size24 ?_; (case q1 => rfl)))
      refine (pread_up0 x (255 - x) x (255 - x) (by omega) (by omega) _).mono ?_
      rintro e w6 ⟨rfl, hb2⟩
      rw [show Pd.read ⟨true, x, 255 - x, x, 255 - x⟩ 0 = ⟨true, x, 255 - x, x, 255 - x⟩ from rfl, show Pd.bit ⟨true, x, 255 - x, x, 255 - x⟩ 0 = x % 2 from rfl]
      have hn := box_called hB hg hb2; clear hg hB hb2; obtain ⟨hg, hB⟩ := hn
      have hbits : ((255 - x) % 2 : Int) = 1 - x % 2 := by omega
      have hm0 : 0 ≤ x % 2 := by omega
      have hm1 : x % 2 ≤ 1 := by omega
      go_wp2_with (first | (refine wpList_store_row (o := ⟨none, .store 24 (.tmp 5) (.tmp 49), _, _, _, none⟩) rfl 24 (.tmp 5) (.tmp 49) rfl w1.heap.size #[.bool true, .int .u8 x, .int .u8 (255 - x), .int .u8 x, .int .u8 (255 - x)] rfl rfl 24 _ hg size24 rfl (by kernel_rfl) ?_; obtain ⟨w3, e3, hn⟩ := box_stored hB hw1 hg #[.bool true, .int .u8 x, .int .u8 (255 - x), .int .u8 x, .int .u8 (255 - x)]; rw [e3]; clear e3 hg hB; obtain ⟨hg, hB⟩ := hn; have hcr := HCX.out _ hB) | (refine wpList_load_row (o := ⟨_, .load 24 (.tmp 5), _, _, _, none⟩) rfl 24 (.tmp 5) rfl w1.heap.size ?q1 24 _ (0, 0) _ hg Try.underlying24 rfl size24 ?_; (case q1 => rfl)))
      go_roundw
      case rel => exact ⟨k + 1, x, 255 - x, x, 255 - x, by omega, by go_num, ⟨hx0, hx1⟩, ⟨by omega, by omega⟩, hg, hB⟩
      case measure => simp [intOf]; omega
    · have c0 := cell_of_row wr _ 0 _ _ _ hg
      have c1 := cell_of_row wr _ 1 _ _ _ hg
      have c2 := cell_of_row wr _ 2 _ _ _ hg
      have c3 := cell_of_row wr _ 3 _ _ _ hg
      have c4 := cell_of_row wr _ 4 _ _ _ hg
      simp only [List.getElem?_toArray, List.getElem?_cons_zero, List.getElem?_cons_succ] at c0 c1 c2 c3 c4
      have heq := eql_arr h0 h1 h0 h1
      clear hc
      obtain ⟨a1, a2, a3⟩ := andNot8 v v0 v1
      have A3 := Lib.hid a3; clear a3
      go_wp2_with fail
      refine (pwrite_any true h0 h1 t0 t1 _ a1 a2 _).mono ?_
      rintro e w2 ⟨rfl, hb2⟩
      rw [show Pd.write ⟨true, h0, h1, t0, t1⟩ (bits .andNot .u8 v 1) = ⟨false, h0, h1, h0, h1⟩ from by unfold Pd.write; simp [A3.out]]
      have hn := box_called hB hg hb2; clear c0 c1 c2 c3 c4 hg hB hb2; obtain ⟨hg, hB⟩ := hn
      have hlt2 := lt_of_row hg
      have d1 := (World.cell?_alloc_lt w2 (.cells #[.bool false, .int .u8 h0, .int .u8 h1, .int .u8 h0, .int .u8 h1] 24) ⟨w1.heap.size, 1, none⟩ hlt2).trans (cell_of_row w2 _ 1 _ _ _ hg)
      have d2 := (World.cell?_alloc_lt w2 (.cells #[.bool false, .int .u8 h0, .int .u8 h1, .int .u8 h0, .int .u8 h1] 24) ⟨w1.heap.size, 2, none⟩ hlt2).trans (cell_of_row w2 _ 2 _ _ _ hg)
      simp only [List.getElem?_toArray, List.getElem?_cons_zero, List.getElem?_cons_succ] at d1 d2
      go_wp2_with fail
      go_ret
      exact ⟨by simp, by repeat (first | exact hB | (with_reducible refine Below.drew ?_) | (refine Below.alloc ?_ (by have := hB.size; simp; omega) _))⟩

theorem rowHigh (v : Int) (hv : (Lit.int .u8 v).wf = true) (A : Option Addr) (len cap : Nat) (zs : List Int) (w : World)
    (h : (A = none ∧ len = 0 ∧ cap = 0 ∧ zs = []) ∨ ∃ x, A = some x ∧ len ≤ cap ∧ cap ≤ maxLen ∧ zs.length = cap ∧ (∀ i, i < zs.length → w.cell? (x.add i) = some (.int .u8 (zs.getD i 0))) ∧ ∀ n ∈ zs, (Lit.int .u8 n).wf = true)
    (y : len ≤ 140737488351232) :
    Calls Try.prog 5 #[.int .u8 v, .slice A len cap] w fun e w' => e = .returned (.bool true) ∧ Below w.heap.size w w' := by
  have hmin : IntKind.u8.min = 0 := rfl
  have hmax : IntKind.u8.max = 255 := rfl
  simp only [Lit.wf, Bool.and_eq_true, decide_eq_true_eq] at hv h
  rcases h with ⟨rfl, rfl, rfl, rfl⟩ | ⟨x, rfl, hl, _, hz, hc, hb⟩
  · exact padsHigh_walk v (by omega) (by omega) none 0 0 [] (by simp) (by omega) (fun x hx => by simp at hx) w (fun k hk => by omega)
  · exact padsHigh_walk v (by omega) (by omega) (some x) len cap zs (by omega) y (fun n hn => by have := hb n hn; omega) w (fun k hk => ⟨x, rfl, hc k (by omega)⟩)
end Go.Proofs.Ythbommecihnndaa

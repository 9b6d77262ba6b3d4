/- IsaShapes: the law's walk. -/
import Derived.Test.YtknfphgncoojeaaDoorIsaAlike
import Derived.Test.YtknfphgncoojeaaDoorRefShape
namespace Go.Proofs.YtknfphgncoojeaaDoor
open Go.RowKit
theorem shape_all : (List.range 256).all (fun c => decide ((shapeC c false false).length ≤ 8) && decide ((shapeC c false true).length ≤ 8) && decide ((shapeC c true false).length ≤ 8) && decide ((shapeC c true true).length ≤ 8)) = true := by decide +kernel
theorem shape_le (c : Nat) (h : c < 256) (x t : Bool) : (shapeC c x t).length ≤ 8 := by
  have := shape_all
  rw [List.all_eq_true] at this
  have := this c (by simpa using h)
  simp only [Bool.and_eq_true, decide_eq_true_eq] at this
  obtain ⟨⟨⟨h1, h2⟩, h3⟩, h4⟩ := this
  cases x <;> cases t <;> assumption
theorem own_below {w w' : World} {base n : Nat} {e : TypeId} {v : Value} {xs : List Value} (h : w.ownsRow base e 1 v n xs) (hb : Below w.heap.size w w') : w'.ownsRow base e 1 v n xs :=
  h.kept (row := none) ⟨hb.os, hb.tape, hb.output, hb.size, fun k hk _ => hb.block k hk⟩ (by by_cases hq : v.ownBlock = none <;> simp [hq])
theorem own_block {w w' : World} {base n g cap : Nat} {e : TypeId} {xs : List Value} (h : w.ownsRow base e 1 (.slice (some ⟨g, 0, none⟩) n cap) n xs) (hh : w'.heap[g]? = w.heap[g]?) : w'.ownsRow base e 1 (.slice (some ⟨g, 0, none⟩) n cap) n xs := by
  refine ⟨h.1, ?_⟩
  rcases h.2 with ⟨hv, _⟩ | ⟨g', cap', cur, hv, h1, h2, h3⟩
  · cases hv
  · obtain ⟨rfl, rfl⟩ : g = g' ∧ cap = cap' := by
      simp only [Value.slice.injEq, Option.some.injEq, Addr.mk.injEq] at hv
      exact ⟨hv.1.1, hv.2.2⟩
    exact .inr ⟨g, cap, cur, rfl, h1, hh.trans h2, h3⟩
theorem own_short {w : World} {base n : Nat} {e : TypeId} {v : Value} {xs : List Value} (h : w.ownsRow base e 1 v n xs) (hnn : v ≠ .slice none 0 0) :
    ∃ g cap, v = .slice (some ⟨g, 0, none⟩) n cap ∧ base ≤ g ∧ g < w.heap.size ∧ n ≤ cap ∧ cap ≤ maxLen := by
  obtain ⟨g, cap, cur, hv, h1, h2, h3, h4, _⟩ := own_slice h hnn
  exact ⟨g, cap, hv, h1, lt_of_row h2, h3, h4⟩
set_option maxRecDepth 100000 in
set_option maxHeartbeats 16000000 in
theorem isaShapes_walk (c : Nat) (hc : c < 256) (x t : Bool) (w : World) (tF tL : TypeId) (fF fL : Nat × Nat) (hF : w.heap[3]? = some (.cells fillA tF fF)) (hL : w.heap[4]? = some (.cells lettersA tL fL)) :
    Calls Tryd.prog 4 #[.int .u8 (c : Int), .bool x, .bool t] w fun e w' => e = .returned (.bool true) ∧ Below w.heap.size w w' := by
  have hn8 := shape_le c hc x t
  have hsa := fun wx h => shape_any c hc x t wx tF fF h
  have hsb := fun wx h => refshape_any c hc x t wx tL fL h
  have hcy := fun wx h => cycles_any c hc x t wx tF fF h
  obtain ⟨xs, hxs⟩ : ∃ xs, shapeC c x t = xs := ⟨_, rfl⟩
  rw [hxs] at hn8 hsa hsb hcy
  clear hxs
  obtain ⟨n, hn⟩ : ∃ n, xs.length = n := ⟨_, rfl⟩
  rw [hn] at hn8 hsa hsb hcy
  have hat : ∀ j, j < n → (accV xs)[j]? = some (.int .i64 ((xs.getD j 0 : Nat) : Int)) := fun j hj => accV_at xs j (by omega)
  have hal : (accV xs).length = n := by simp [accV, hn]
  have HT := Lib.hid hat; clear hat
  have HN := Lib.hid hn; clear hn
  have HLN := Lib.hid hal; clear hal
  have HA := Lib.hid hsa; clear hsa
  have HB := Lib.hid hsb; clear hsb
  have HC := Lib.hid hcy; clear hcy
  have hFw := lt_of_row hF
  go_enter Tryd.func4, Tryd.ntmps4
  go_wp2_with fail
  refine (HA.out w hF).mono ?_
  rintro e w1 ⟨va, rfl, ha, hnna, hB1⟩
  obtain ⟨ga, ca, rfl, hga, hga1, hnca, hcam⟩ := own_short ha hnna
  have hF1 := (hB1.block _ (lt_of_row hF)).trans hF
  have hL1 := (hB1.block _ (lt_of_row hL)).trans hL
  clear hnna hF hL
  go_wp2_with fail
  refine (HB.out w1 hL1).mono ?_
  rintro e w2 ⟨vb, rfl, hb, hnnb, hB2⟩
  obtain ⟨gb, cb, rfl, hgb, hgb2, _, _⟩ := own_short hb hnnb
  have ha2 := own_below ha hB2
  have hF2 := (hB2.block _ (lt_of_row hF1)).trans hF1
  have hBw2 := hB1.trans (hB2.mono hB1.size)
  have hsz2 := hB2.size
  have hsz1 := hB1.size
  clear hnnb ha hB1 hB2 hF1 hL1
  go_wp2_with fail
  refine (HC.out w2 hF2).mono ?_
  rintro e w3 ⟨rfl, hB3⟩
  have ha3 := own_below ha2 hB3
  have hb3 := own_below hb hB3
  have hF3 := (hB3.block _ (lt_of_row hF2)).trans hF2
  have hBw3 := hBw2.trans (hB3.mono (by omega))
  have hsz3 := hB3.size
  clear ha2 hb hF2 hB3 hBw2
  go_wp2_with fail
  refine (alike_any ga gb n ca cb (fun i => ((xs.getD i 0 : Nat) : Int)) w3 (by omega) (fun i hi => own_cells ha3 i _ (HT.out i hi)) (fun i hi => own_cells hb3 i _ (HT.out i hi))).mono ?_
  rintro e w4' ⟨rfl, m4, rfl⟩
  have ha4 : (w3.drewN m4).ownsRow w.heap.size 32 1 (.slice (some ⟨ga, 0, none⟩) n ca) n (accV xs) := ha3
  have hb4 : (w3.drewN m4).ownsRow w1.heap.size 32 1 (.slice (some ⟨gb, 0, none⟩) n cb) n (accV xs) := hb3
  have hF4 : (w3.drewN m4).heap[3]? = some (.cells fillA tF fF) := hF3
  have hBw4 : Below w.heap.size w (w3.drewN m4) := ⟨hBw3.os, hBw3.tape, hBw3.output, hBw3.size, hBw3.block⟩
  have hsz4 : w2.heap.size ≤ (w3.drewN m4).heap.size := hsz3
  clear ha3 hb3 hF3 hBw3 hsz3
  generalize w3.drewN m4 = w4 at *
  go_wp2_with fail
  obtain ⟨cur0, hrow0, hcs0⟩ : ∃ cur : Array Value, w4.heap[ga]? = some (.cells cur 32 (0, 0)) ∧ cur.size = ca := by
    obtain ⟨g', cap', cur, hv, _, h2, _, _, h5, _, _⟩ := own_slice ha4 (by simp)
    simp only [Value.slice.injEq, Option.some.injEq, Addr.mk.injEq] at hv
    obtain ⟨⟨rfl, _⟩, _, rfl⟩ := hv
    exact ⟨cur, h2, h5⟩
  go_loopw [10] (fun i wr => ∃ (k : Nat) (cur : Array Value), k ≤ n ∧ i = .int .i64 k ∧ wr.heap[ga]? = some (.cells cur 32 (0, 0)) ∧ cur.size = ca ∧ Hid (∀ j, j < k → cur[j]? = some (.int .i64 (90 + (j : Int)))) ∧ Hid (∀ q, q ≠ ga → wr.heap[q]? = w4.heap[q]?) ∧ w4.heap.size ≤ wr.heap.size ∧ Below w.heap.size w wr) (fun i _ => n - (intOf i).toNat)
  case atStart => exact ⟨0, cur0, by omega, rfl, hrow0, hcs0, Lib.hid (fun _ h => by omega), Lib.hid (fun _ _ => rfl), Nat.le_refl _, hBw4⟩
  case round =>
    obtain ⟨k, cur, hk, rfl, hrow, hcs, HK, HO, hsz, hB⟩ := hrel
    clear hrow0 hcs0
    by_cases hlt : k < n
    · have c0 := (cell_of_row wr ga k _ _ _ hrow).trans (Array.getElem?_eq_getElem (by omega))
      have f0 := frozen_of_row hrow k
      go_wp2_with fail
      go_roundw
      case rel =>
        refine ⟨k + 1, cur.setIfInBounds k (.int .i64 (90 + (k : Int))), by omega, by go_num, row_setCell hrow _, by simpa using hcs, Lib.hid (fun j hj => ?_), Lib.hid (fun q hq => (Below.heap_setCell _ ⟨ga, k, none⟩ _ q hq).trans (HO.out q hq)), by simpa using hsz, hB.setCell (p := ⟨ga, k, none⟩) hga _⟩
        rw [Array.getElem?_setIfInBounds]
        by_cases he : k = j
        · subst he
          rw [if_pos rfl, if_pos (by omega)]
        · rw [if_neg he]
          exact HK.out j (by omega)
      case measure => simp [intOf]; omega
    · obtain rfl : n = k := by omega
      have hown : wr.ownsRow w.heap.size 32 1 (.slice (some ⟨ga, 0, none⟩) n ca) n (cur.toList.take n) :=
        ⟨by simp; omega, .inr ⟨ga, ca, cur, rfl, hga, hrow, hnca, hcam, by omega, by simp⟩⟩
      have hnn : (Value.slice (some ⟨ga, 0, none⟩) n ca) ≠ .slice none 0 0 := by simp
      have hbr := own_block hb4 (HO.out gb (by omega))
      have hlF := lt_of_row hF4
      have hgaw : w.heap.size ≤ ga := hga
      have hFr : wr.heap[3]? = some (.cells fillA tF fF) := (HO.out _ (by omega)).trans hF4
      have hgbr : gb < wr.heap.size := by omega
      have hgar : ga < wr.heap.size := lt_of_row hrow
      have hFlt := lt_of_row hFr
      have HK2 : Hid (∀ j, j < n → (cur.toList.take n)[j]? = some (.int .i64 (90 + (j : Int)))) := Lib.hid (fun j hj => by
        rw [List.getElem?_take, if_pos hj]
        have := HK.out j hj
        simpa using this)
      have hlen90 : (cur.toList.take n).length = n := by simp; omega
      obtain ⟨ys, hys⟩ : ∃ ys, cur.toList.take n = ys := ⟨_, rfl⟩
      rw [hys] at hown HK2 hlen90
      clear hb4 hF4 hrow hcs HK HO ha4 hys hsz hBw4 hsz4
      go_wp2_with (at_builtin; refine wpList_accs rfl _ _ 28 rfl 32 (.int .i64 0) Tryd.underlying28 infoAcc rfl _ w _ _ _ ?_ hown hnn hB _ ?_ ?_ ?_ ?_; exact rfl; (first | exact rfl | (show (Value.slice (some ⟨_, 0, none⟩) _ _) = _; simp)); simp [Value.oneCell']; (simp only [List.size_toArray, List.length_cons, List.length_nil]; omega); clear hown hnn hB; intro vm w6 hownm hnnm hB6 hold6 hblk6 hgr6)
      simp only [List.size_toArray, List.length_cons, List.length_nil, Nat.zero_add, Nat.reduceAdd] at hownm
      obtain ⟨gm, cm, rfl, hgm, hgm6, _, _⟩ := own_short hownm hnnm
      have hgbne : gb ≠ ga := by omega
      have hb6 := own_block hbr (hgr6.block gb hgbr (by simp [Value.ownBlock]; omega))
      have hF6 : w6.heap[3]? = some (.cells fillA tF fF) := (hgr6.block _ hFlt (by simp [Value.ownBlock]; omega)).trans hFr
      have hsz6 := hgr6.size
      clear hbr hgr6 hblk6 hnnm hFr
      refine (HA.out w6 hF6).mono ?_
      rintro e w7 ⟨vc, rfl, hownc, hnnc, hBc⟩
      obtain ⟨gc, cc, rfl, hgc, hgc7, _, _⟩ := own_short hownc hnnc
      clear hF6
      go_wp2_with (at_builtin; refine wpList_accs rfl _ _ 28 rfl 32 (.int .i64 0) Tryd.underlying28 infoAcc rfl _ w6 _ _ _ ?_ hownc hnnc hBc _ ?_ ?_ ?_ ?_; exact rfl; (first | exact rfl | (show (Value.slice (some ⟨_, 0, none⟩) _ _) = _; simp)); simp [Value.oneCell']; (simp only [List.size_toArray, List.length_cons, List.length_nil]; omega); intro vd w8 hownd hnnd hB8 hold8 _ _)
      simp only [List.size_toArray, List.length_cons, List.length_nil, Nat.zero_add] at hownd
      obtain ⟨gd, cd, rfl, hgd, hgd8, _, _⟩ := own_short hownd hnnd
      have ha8 := own_below hold6 hB8
      have hm8 := own_below hownm hB8
      have hb8 := own_below hb6 hB8
      have hBw8 := hB6.trans (hB8.mono hB6.size)
      have hd82 : (accV xs ++ [Value.int .i64 82])[n]? = some (.int .i64 82) := by rw [List.getElem?_append_right (by rw [HLN.out]; exact Nat.le_refl _), HLN.out]; simp
      have hm80 : (ys ++ [Value.int .i64 80, Value.int .i64 81])[n]? = some (.int .i64 80) := by rw [List.getElem?_append_right (by omega), hlen90]; simp
      refine (alike_any gc gb n cc cb (fun i => ((xs.getD i 0 : Nat) : Int)) w8 (by omega) (fun i hi => own_cells hold8 i _ (HT.out i hi)) (fun i hi => own_cells hb8 i _ (HT.out i hi))).mono ?_
      rintro e w9' ⟨rfl, m9, rfl⟩
      have hc9 : (w8.drewN m9).cell? ⟨gd, n, none⟩ = some (.int .i64 82) := own_cells hownd n _ hd82
      have hm9 : (w8.drewN m9).cell? ⟨gm, n, none⟩ = some (.int .i64 80) := own_cells hm8 n _ hm80
      have ha9 : ∀ j, j < n → (w8.drewN m9).cell? ⟨ga, j, none⟩ = some (.int .i64 (90 + (j : Int))) := fun j hj => own_cells ha8 j _ (HK2.out j hj)
      have hB9 : Below w.heap.size w (w8.drewN m9) := ⟨hBw8.os, hBw8.tape, hBw8.output, hBw8.size, hBw8.block⟩
      have HA9 := Lib.hid ha9; clear ha9
      clear hownd hm8 hb8 ha8 hBw8 hold8 hB8 hold6 hownm hb6 hB6 hownc hnnc hBc hd82 hm80 HA HB HC HT HK2 hnnd HN HLN hlen90
      generalize w8.drewN m9 = w9 at *
      have hlt1 : (n : Int) < ((n + 1 : Nat) : Int) := by omega
      have hlt2 : (n : Int) < ((n + 2 : Nat) : Int) := by omega
      go_wp2_with fail
      clear hc9 hm9 hlt1 hlt2
      go_loopw [14] (fun i wz => ∃ k : Nat, k ≤ n ∧ i = .int .i64 k ∧ wz = w9) (fun i _ => n - (intOf i).toNat)
      case atStart => exact ⟨0, by omega, rfl, rfl⟩
      case round =>
        obtain ⟨k, hk2, rfl, rfl⟩ := hrel
        by_cases hlt3 : k < n
        · have c0 := HA9.out k hlt3
          go_wp2_with fail
          go_roundw
          case rel => exact ⟨k + 1, by omega, by go_num, by first | rfl | trivial⟩
          case measure => simp [intOf]; omega
        · have hge : ¬ (k : Int) < (n : Int) := by omega
          go_wp2_with fail
          go_ret
          exact ⟨rfl, hB9⟩
end Go.Proofs.YtknfphgncoojeaaDoor

/- isa.Cycles, isa.Decode: the contracts. -/
import Derived.Test.YtknfphgncoojeaaDoorIsaShape
import Derived.Test.YtknfphgncoojeaaDoorRefRow
import Derived.Deep.RegionHeld3
namespace Go.Proofs.YtknfphgncoojeaaDoor
open Go.RowKit
/-- a list that the call made, written out -/
theorem own_slice {w : World} {base n : Nat} {e : TypeId} {v : Value} {xs : List Value} (h : w.ownsRow base e 1 v n xs) (hnn : v ≠ .slice none 0 0) :
    ∃ g cap cur, v = .slice (some ⟨g, 0, none⟩) n cap ∧ base ≤ g ∧ w.heap[g]? = some (.cells cur e (0, 0)) ∧ n ≤ cap ∧ cap ≤ maxLen ∧ cur.size = cap ∧ cur.toList.take n = xs ∧ xs.length = n := by
  have hl : xs.length = n := by have := h.1; omega
  rcases h.2 with ⟨rfl, _⟩ | ⟨g, cap, cur, rfl, h1, h2, h3, h4, h5, h6⟩
  · exact absurd rfl hnn
  · exact ⟨g, cap, cur, rfl, h1, h2, h3, h4, by omega, by rw [← h6]; congr 1; omega, hl⟩
set_option maxRecDepth 100000 in
theorem cycles_any (c : Nat) (hc : c < 256) (x t : Bool) (w : World) (tt : TypeId) (fr : Nat × Nat) (hF : w.heap[3]? = some (.cells fillA tt fr)) :
    Calls Tryd.prog 17 #[.int .u8 (c : Int), .bool x, .bool t] w fun e w' => e = .returned (.int .i64 ((shapeC c x t).length : Int)) ∧ Below w.heap.size w w' := by
  have hsh := shape_any c hc x t w tt fr hF
  obtain ⟨n, hn⟩ : ∃ n, (shapeC c x t).length = n := ⟨_, rfl⟩
  rw [hn] at hsh ⊢
  clear hn
  go_enter Tryd.func17, Tryd.ntmps17
  go_wp2_with fail
  refine hsh.mono ?_
  rintro e w1 ⟨v, rfl, hown, hnn, hB⟩
  obtain ⟨g, cap, cur, rfl, _, _, _, _, _, _, _⟩ := own_slice hown hnn
  go_wp2_with fail
  go_ret
  exact ⟨rfl, hB⟩
def lenL : List Nat := [1, 1, 2, 2, 2, 2, 2, 2, 3, 3, 3, 3, 2]
def lenA : Array Value := (lenL.map fun (n : Nat) => Value.int .i64 (n : Int)).toArray
theorem lenA_at (m : Nat) (h : m < 13) : lenA[m]? = some (.int .i64 (lenR m : Int)) := by
  have : m = 0 ∨ m = 1 ∨ m = 2 ∨ m = 3 ∨ m = 4 ∨ m = 5 ∨ m = 6 ∨ m = 7 ∨ m = 8 ∨ m = 9 ∨ m = 10 ∨ m = 11 ∨ m = 12 := by omega
  rcases this with rfl | rfl | rfl | rfl | rfl | rfl | rfl | rfl | rfl | rfl | rfl | rfl | rfl <;> rfl
/-- what Decode hands out -/
def instD (c : Nat) : Array Value := #[.int .i64 (opT c : Int), .int .i64 (modeT c : Int), .int .i64 (kindT c : Int), .int .i64 (lenR (modeT c) : Int), .int .i64 ((shapeC c false false).length : Int), .int .i64 (classT c : Int)]
structure DecH (w : World) (g o m : Nat) (tF tL : TypeId) (fF fL : Nat × Nat) (w' : World) : Prop where
  below : Below w.heap.size w w'
  row : w'.heap[g]? = some (.cells #[.int .i64 (o : Int), .int .i64 (m : Int)] 61 (0, 0))
  res : ∃ cs : Array Value, cs.size = 6 ∧ w'.heap[w.heap.size]? = some (.cells cs 36 (0, 0))
  far : w.heap.size < g
  fill : w'.heap[3]? = some (.cells fillA tF fF)
  len : w'.heap[0]? = some (.cells lenA tL fL)
  neF : 3 ≠ w.heap.size
  neL : 0 ≠ w.heap.size
theorem DecH.called {w : World} {g o m : Nat} {tF tL : TypeId} {fF fL : Nat × Nat} {w' w'' : World} (h : DecH w g o m tF tL fF fL w') (hb : Below w'.heap.size w' w'') : DecH w g o m tF tL fF fL w'' :=
  ⟨h.below.trans (hb.mono h.below.size), (hb.block _ (lt_of_row h.row)).trans h.row, h.res.imp fun _ q => ⟨q.1, (hb.block _ (lt_of_row q.2)).trans q.2⟩, h.far, (hb.block _ (lt_of_row h.fill)).trans h.fill, (hb.block _ (lt_of_row h.len)).trans h.len, h.neF, h.neL⟩
theorem DecH.cells {w : World} {g o m : Nat} {tF tL : TypeId} {fF fL : Nat × Nat} {w' : World} (hm : m < 13) (h : DecH w g o m tF tL fF fL w') :
    w'.cell? ⟨g, 0, none⟩ = some (.int .i64 (o : Int)) ∧ w'.cell? ⟨g, 1, none⟩ = some (.int .i64 (m : Int)) ∧ w'.cell? ⟨0, m, none⟩ = some (.int .i64 (lenR m : Int)) ∧ DecH w g o m tF tL fF fL w' :=
  ⟨(cell_of_row w' g 0 _ _ _ h.row).trans rfl, (cell_of_row w' g 1 _ _ _ h.row).trans rfl, (cell_of_row w' _ m _ _ _ h.len).trans (lenA_at m hm), h⟩
theorem DecH.setC {w : World} {g o m : Nat} {tF tL : TypeId} {fF fL : Nat × Nat} {w' : World} (h : DecH w g o m tF tL fF fL w') (i : Nat) (v : Value) : DecH w g o m tF tL fF fL (w'.setCell ⟨w.heap.size, i, none⟩ v) := by
  obtain ⟨old, h6, hr⟩ := h.res
  have := h.far
  exact ⟨h.below.setCell (p := ⟨w.heap.size, i, none⟩) (by simp) v, row_setCell_other h.row (by omega) v, ⟨_, by simpa using h6, row_setCell hr v⟩, h.far, row_setCell_other h.fill h.neF v, row_setCell_other h.len h.neL v, h.neF, h.neL⟩
theorem DecH.can {w : World} {g o m : Nat} {tF tL : TypeId} {fF fL : Nat × Nat} {w' : World} (h : DecH w g o m tF tL fF fL w') : ∃ a0 a1 a2 a3 a4 a5 : Value, w'.cell? ⟨w.heap.size, 0, none⟩ = some a0 ∧ w'.frozen? ⟨w.heap.size, 0, none⟩ = false ∧ w'.cell? ⟨w.heap.size, 1, none⟩ = some a1 ∧ w'.frozen? ⟨w.heap.size, 1, none⟩ = false ∧ w'.cell? ⟨w.heap.size, 2, none⟩ = some a2 ∧ w'.frozen? ⟨w.heap.size, 2, none⟩ = false ∧ w'.cell? ⟨w.heap.size, 3, none⟩ = some a3 ∧ w'.frozen? ⟨w.heap.size, 3, none⟩ = false ∧ w'.cell? ⟨w.heap.size, 4, none⟩ = some a4 ∧ w'.frozen? ⟨w.heap.size, 4, none⟩ = false ∧ w'.cell? ⟨w.heap.size, 5, none⟩ = some a5 ∧ w'.frozen? ⟨w.heap.size, 5, none⟩ = false := by
  obtain ⟨old, h6, hr⟩ := h.res
  have hx : ∀ i, i < 6 → ∃ a, w'.cell? ⟨w.heap.size, i, none⟩ = some a := fun i hi => ⟨old[i]'(by omega), (cell_of_row w' _ i _ _ _ hr).trans (Array.getElem?_eq_getElem (by omega))⟩
  obtain ⟨a0, c0⟩ := hx 0 (by omega)
  obtain ⟨a1, c1⟩ := hx 1 (by omega)
  obtain ⟨a2, c2⟩ := hx 2 (by omega)
  obtain ⟨a3, c3⟩ := hx 3 (by omega)
  obtain ⟨a4, c4⟩ := hx 4 (by omega)
  obtain ⟨a5, c5⟩ := hx 5 (by omega)
  exact ⟨a0, a1, a2, a3, a4, a5, c0, frozen_of_row hr 0, c1, frozen_of_row hr 1, c2, frozen_of_row hr 2, c3, frozen_of_row hr 3, c4, frozen_of_row hr 4, c5, frozen_of_row hr 5⟩
set_option maxRecDepth 100000 in
set_option maxHeartbeats 4000000 in
theorem decode_any (c : Nat) (hc : c < 256) (w : World) (tF tL : TypeId) (fF fL : Nat × Nat) (hF : w.heap[3]? = some (.cells fillA tF fF)) (hL : w.heap[0]? = some (.cells lenA tL fL)) :
    Calls Tryd.prog 19 #[.int .u8 (c : Int)] w fun e w' => e = .returned (.agg (instD c)) ∧ Below w.heap.size w w' := by
  have hkind := fun wx h => kind_any c hc wx tF fF h
  have hclass := fun wx h => class_any c hc wx tF fF h
  have hcyc := fun wx h => cycles_any c hc false false wx tF fF h
  have hrow := rowOf_any c hc (w.alloc (.cells #[.int .i64 0, .int .i64 0, .int .i64 0, .int .i64 0, .int .i64 0, .int .i64 0] 36))
  obtain ⟨hk13, hm13, _⟩ := kinds_at c hc
  unfold instD
  obtain ⟨k, hk⟩ : ∃ k, kindT c = k := ⟨_, rfl⟩
  obtain ⟨m, hm⟩ : ∃ m, modeT c = m := ⟨_, rfl⟩
  obtain ⟨o, ho⟩ : ∃ o, opT c = o := ⟨_, rfl⟩
  obtain ⟨cl, hcl⟩ : ∃ cl, classT c = cl := ⟨_, rfl⟩
  obtain ⟨cy, hcy⟩ : ∃ cy, (shapeC c false false).length = cy := ⟨_, rfl⟩
  rw [hk] at hkind
  rw [hm] at hm13
  rw [hcl] at hclass
  rw [hcy] at hcyc
  rw [hk, hm, ho, hcl, hcy]
  rw [hm, ho] at hrow
  clear hk hm ho hcl hcy hk13
  go_enter Tryd.func19, Tryd.ntmps19
  go_wp2_with fail
  refine hrow.mono ?_
  rintro e w1 ⟨rfl, hb1⟩
  have hz := heap_alloc_new w (.cells #[.int .i64 0, .int .i64 0, .int .i64 0, .int .i64 0, .int .i64 0, .int .i64 0] 36)
  have hD : DecH w w1.heap.size o m tF tL fF fL (w1.alloc (.cells #[.int .i64 (o : Int), .int .i64 (m : Int)] 61)) := by
    have h0 := ((Below.refl w.heap.size w).alloc (Nat.le_refl _) (.cells #[.int .i64 0, .int .i64 0, .int .i64 0, .int .i64 0, .int .i64 0, .int .i64 0] 36))
    have h1 := h0.trans (hb1.mono h0.size)
    have hF1 := row_alloc hF (.cells #[.int .i64 0, .int .i64 0, .int .i64 0, .int .i64 0, .int .i64 0, .int .i64 0] 36)
    have hL1 := row_alloc hL (.cells #[.int .i64 0, .int .i64 0, .int .i64 0, .int .i64 0, .int .i64 0, .int .i64 0] 36)
    exact ⟨h1.alloc h1.size _, heap_alloc_new w1 _, ⟨_, rfl, row_alloc ((hb1.block _ (lt_of_row hz)).trans hz) _⟩, by have := hb1.size; simp at this; omega, row_alloc ((hb1.block _ (lt_of_row hF1)).trans hF1) _, row_alloc ((hb1.block _ (lt_of_row hL1)).trans hL1) _, by have := lt_of_row hF; omega, by have := lt_of_row hL; omega⟩
  clear hrow hz hb1 hF hL
  have hmi : (0 : Int) ≤ (m : Int) := by omega
  have hmi2 : (m : Int) < 13 := by omega
  go_wp2_with fail
  generalize w1.alloc (.cells #[.int .i64 (o : Int), .int .i64 (m : Int)] 61) = w2 at *
  generalize w1.heap.size = g at *
  have hD0 : DecH w g o m tF tL fF fL w2.drew := ⟨hD.below.drew, hD.row, hD.res, hD.far, hD.fill, hD.len, hD.neF, hD.neL⟩
  clear hD
  go_region_held3 (fun w' => w'.cell? ⟨g, 0, none⟩ = some (.int .i64 (o : Int)) ∧ w'.cell? ⟨g, 1, none⟩ = some (.int .i64 (m : Int)) ∧ w'.cell? ⟨0, m, none⟩ = some (.int .i64 (lenR m : Int)) ∧ DecH w g o m tF tL fF fL w') ((refine DecH.cells hm13 ?_; (repeat (with_reducible refine DecH.setC ?_ _ _)); with_reducible assumption))
    (first | (go_at_call 38; refine (hkind _ (DecH.fill (by assumption))).mono ?_; rintro e w5 ⟨rfl, hb⟩; have hD := DecH.called (by assumption) hb; clear hb) | (go_at_call 17; refine (hcyc _ (DecH.fill (by assumption))).mono ?_; rintro e w5 ⟨rfl, hb⟩; have hD := DecH.called (by assumption) hb; clear hb) | (go_at_call 34; refine (hclass _ (DecH.fill (by assumption))).mono ?_; rintro e w5 ⟨rfl, hb⟩; have hD := DecH.called (by assumption) hb; clear hb; obtain ⟨a0, a1, a2, a3, a4, a5, c0, f0, c1, f1, c2, f2, c3, f3, c4, f4, c5, f5⟩ := DecH.can hD))
  have hfin : ∃ w9, ((((((w5.setCell ⟨w.heap.size, 0, none⟩ (.int .i64 (o : Int))).setCell ⟨w.heap.size, 1, none⟩ (.int .i64 (m : Int))).setCell ⟨w.heap.size, 2, none⟩ (.int .i64 (k : Int))).setCell ⟨w.heap.size, 3, none⟩ (.int .i64 (lenR m : Int))).setCell ⟨w.heap.size, 4, none⟩ (.int .i64 (cy : Int))).setCell ⟨w.heap.size, 5, none⟩ (.int .i64 (cl : Int))) = w9 ∧ w9.heap[w.heap.size]? = some (.cells #[.int .i64 (o : Int), .int .i64 (m : Int), .int .i64 (k : Int), .int .i64 (lenR m : Int), .int .i64 (cy : Int), .int .i64 (cl : Int)] 36 (0, 0)) ∧ Below w.heap.size w w9 := by
    obtain ⟨old, h6, hr⟩ := hD.res
    refine ⟨_, rfl, ?_, (DecH.setC (DecH.setC (DecH.setC (DecH.setC (DecH.setC (DecH.setC hD _ _) _ _) _ _) _ _) _ _) _ _).below⟩
    refine (row_setCell (row_setCell (row_setCell (row_setCell (row_setCell (row_setCell hr _) _) _) _) _) _).trans ?_
    obtain ⟨l⟩ := old
    match l, h6 with
    | [b0, b1, b2, b3, b4, b5], _ => rfl
  obtain ⟨w9, e9, hr9, hB9⟩ := hfin
  rw [e9]
  clear e9 c0 c1 c2 c3 c4 c5 f0 f1 f2 f3 f4 f5 hD hD0 hkind hclass hcyc
  go_wp2_with fail
  exact bodyPost_ret (results_cell_row rfl _ _ w.heap.size 36 _ (0, 0) _ rfl hr9 Tryd.underlying36 rfl sizeInst) rfl ⟨rfl, hB9⟩
end Go.Proofs.YtknfphgncoojeaaDoor

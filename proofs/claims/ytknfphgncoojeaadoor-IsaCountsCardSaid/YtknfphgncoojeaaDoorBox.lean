/- A struct variable known whole: small laws for walks. -/
import Derived.Test.YtknfphgncoojeaaDoorProg
import Derived.WalkKit
import Derived.Laws.CopyOwn
import Derived.KernelRfl
namespace Go.Proofs.YtknfphgncoojeaaDoor
open Go.RowKit

theorem lt_of_cell {w : World} {p : Addr} {v : Value} (h : w.cell? p = some v) : p.block < w.heap.size := World.block_lt_of_cell? w p h
theorem lt_of_row {w : World} {g : Nat} {o : Obj} (h : w.heap[g]? = some o) : g < w.heap.size := by
  rcases Nat.lt_or_ge g w.heap.size with h' | h'
  · exact h'
  · rw [Array.getElem?_eq_none h'] at h; cases h
/-- a call that leaves what was there: the box is there still -/
theorem box_called {g : Nat} {cs : Array Value} {T : TypeId} {w wr w2 : World} (hB : Below w.heap.size w wr) (hg : wr.heap[g]? = some (.cells cs T (0, 0))) (hb : Below wr.heap.size wr w2) :
    w2.heap[g]? = some (.cells cs T (0, 0)) ∧ Below w.heap.size w w2 :=
  ⟨(hb.block _ (lt_of_row hg)).trans hg, hB.trans (hb.mono hB.size)⟩
/-- a store of a whole value into the box -/
theorem box_stored {g : Nat} {cs : Array Value} {T : TypeId} {w w2 : World} (hB : Below w.heap.size w w2) (hBg : w.heap.size ≤ g) (hg : w2.heap[g]? = some (.cells cs T (0, 0))) (cs' : Array Value) :
    ∃ w3, w2.setRow g cs' = w3 ∧ w3.heap[g]? = some (.cells cs' T (0, 0)) ∧ Below w.heap.size w w3 :=
  ⟨_, rfl, setRow_heap w2 _ _ cs' _ _ hg, below_setRow hB hBg cs'⟩
theorem frozen_of_row {w : World} {g : Nat} {cs : Array Value} {T : TypeId} (h : w.heap[g]? = some (.cells cs T (0, 0))) (i : Nat) : w.frozen? ⟨g, i, none⟩ = false := by simp [World.frozen?, h]
theorem row_setRow_other {w : World} {g k : Nat} {o : Obj} (h : w.heap[k]? = some o) (hne : k ≠ g) (cs : Array Value) : (w.setRow g cs).heap[k]? = some o := (setRow_other w g k cs hne).trans h
theorem row_setCell {w : World} {g i : Nat} {cs : Array Value} {T : TypeId} (h : w.heap[g]? = some (.cells cs T (0, 0))) (v : Value) : (w.setCell ⟨g, i, none⟩ v).heap[g]? = some (.cells (cs.setIfInBounds i v) T (0, 0)) := by
  simp [World.setCell, Array.getElem?_modify, h]
theorem row_setCell_other {w : World} {g k i : Nat} {o : Obj} (h : w.heap[k]? = some o) (hne : k ≠ g) (v : Value) : (w.setCell ⟨g, i, none⟩ v).heap[k]? = some o :=
  (Below.heap_setCell w ⟨g, i, none⟩ v k hne).trans h
theorem row_alloc {w : World} {k : Nat} {o : Obj} (h : w.heap[k]? = some o) (x : Obj) : (w.alloc x).heap[k]? = some o := (Below.heap_alloc w x k (lt_of_row h)).trans h
end Go.Proofs.YtknfphgncoojeaaDoor

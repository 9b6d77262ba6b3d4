/- tandemref4.begin: the contract. -/
import Derived.Test.YtknfphgncoojeaaDoorRefFlow
namespace Go.Proofs.YtknfphgncoojeaaDoor
open Go.RowKit
def midT (m : Nat) : List Nat := if m = 4 ∨ m = 5 then [3] else if m = 8 ∨ m = 9 ∨ m = 10 then [1] else if m = 6 then [3, 4, 5] else if m = 7 then [4, 5] else []
theorem own_acc {w : World} {b n : Nat} {e : TypeId} {v : Value} {xs : List Value} {l : List Nat} (h : w.ownsRow b e 1 v n xs) (hx : xs = accV l) : w.ownsRow b e 1 v l.length (accV l) := by
  subst hx
  have hn : l.length = n := by have := h.1; simp [accV] at this; omega
  rw [hn]
  exact h
theorem midT_le (m : Nat) : (midT m).length ≤ 3 := by
  unfold midT
  repeat (any_goals split)
  all_goals simp
theorem own_mono {w : World} {b b' n : Nat} {e : TypeId} {v : Value} {xs : List Value} (h : w.ownsRow b e 1 v n xs) (hb : b' ≤ b) : w.ownsRow b' e 1 v n xs :=
  ⟨h.1, h.2.imp id fun ⟨g, cap, cur, h1, h2, h3⟩ => ⟨g, cap, cur, h1, Nat.le_trans hb h2, h3⟩⟩
set_option maxRecDepth 100000 in
set_option maxHeartbeats 16000000 in
theorem begin_any (m : Nat) (hm : m < 13) (w : World) :
    Calls Tryd.prog 42 #[.int .i64 (m : Int)] w fun e w' => ∃ v', e = .returned v' ∧ w'.ownsRow w.heap.size 32 1 v' ((midT m).length + 2) (accV (0 :: 1 :: midT m)) ∧ v' ≠ .slice none 0 0 ∧ Below w.heap.size w w' := by
  have hm' : m = 0 ∨ m = 1 ∨ m = 2 ∨ m = 3 ∨ m = 4 ∨ m = 5 ∨ m = 6 ∨ m = 7 ∨ m = 8 ∨ m = 9 ∨ m = 10 ∨ m = 11 ∨ m = 12 := by omega
  clear hm
  have hB := (Below.refl w.heap.size w).alloc (Nat.le_refl _) (.cells #[.int .i64 0, .int .i64 1] 32)
  have hown := own_lit w w.heap.size 2 32 #[.int .i64 0, .int .i64 1] (Nat.le_refl _) rfl (by omega)
  have hnn : (Value.slice (some ⟨w.heap.size, 0, none⟩) 2 2) ≠ .slice none 0 0 := by simp
  go_enter Tryd.func42, Tryd.ntmps42
  rcases hm' with rfl | rfl | rfl | rfl | rfl | rfl | rfl | rfl | rfl | rfl | rfl | rfl | rfl
  all_goals
    go_wp2_with (at_builtin; refine wpList_accs rfl _ _ 28 rfl 32 (.int .i64 0) Tryd.underlying28 infoAcc rfl _ w _ _ _ ?_ hown hnn hB _ ?_ ?_ ?_ ?_; exact rfl; (first | exact rfl | (show (Value.slice (some ⟨_, 0, none⟩) _ _) = _; simp)); simp [Value.oneCell']; (simp only [List.size_toArray, List.length_cons, List.length_nil]; omega); clear hown hnn hB; intro v1 w1 hown hnn hB _ _ _)
    go_ret
    exact ⟨_, rfl, by simpa [midT, accV] using hown, hnn, hB⟩
end Go.Proofs.YtknfphgncoojeaaDoor

/- isa.operand: the contract. -/
import Derived.Test.YtknfphgncoojeaaDoorAccApp
import Derived.BigQuiet
namespace Go.Proofs.YtknfphgncoojeaaDoor
open Go.RowKit
def accV (l : List Nat) : List Value := l.map fun (n : Nat) => Value.int .i64 (n : Int)
/-- the accesses of an instruction with an operand in memory, behind the opcode's -/
def opndT (m k : Nat) (x : Bool) : List Nat :=
  [1] ++ (if m = 4 ∨ m = 5 then [3] else if m = 8 ∨ m = 9 ∨ m = 10 then [1] else if m = 6 then [3, 4, 5] else if m = 7 then [4, 5] else []) ++
  (if (m = 9 ∨ m = 10 ∨ m = 7) ∧ (x = true ∨ k ≠ 1) then [6] else []) ++ (if k = 2 then [9] else if k = 3 then [7, 8, 9] else [7])
theorem infoAcc : (Tryd.prog.info? 32).map (fun i => (i.zero, i.size, i.bytes)) = some (some (.int .i64 0), 1, 8) := by kernel_rfl
set_option maxRecDepth 100000 in
set_option maxHeartbeats 16000000 in
theorem opnd_any (m k : Nat) (x : Bool) (hm : m < 13) (hk : 1 ≤ k ∧ k ≤ 4) (v : Value) (n : Nat) (xs : List Value) (w0 w : World) (hB : Below w0.heap.size w0 w) (hown : w.ownsRow w0.heap.size 32 1 v n xs) (hnn : v ≠ .slice none 0 0) (hn : n ≤ 500) :
    Calls Tryd.prog 39 #[v, .int .i64 (m : Int), .int .i64 (k : Int), .bool x] w fun e w' => ∃ v', e = .returned v' ∧ w'.ownsRow w0.heap.size 32 1 v' (n + (opndT m k x).length) (xs ++ accV (opndT m k x)) ∧ v' ≠ .slice none 0 0 ∧ Below w0.heap.size w0 w' := by
  have hm' : m = 0 ∨ m = 1 ∨ m = 2 ∨ m = 3 ∨ m = 4 ∨ m = 5 ∨ m = 6 ∨ m = 7 ∨ m = 8 ∨ m = 9 ∨ m = 10 ∨ m = 11 ∨ m = 12 := by omega
  have hk' : k = 1 ∨ k = 2 ∨ k = 3 ∨ k = 4 := by omega
  clear hm hk
  go_enter Tryd.func39, Tryd.ntmps39
  rcases hm' with rfl | rfl | rfl | rfl | rfl | rfl | rfl | rfl | rfl | rfl | rfl | rfl | rfl
  all_goals rcases hk' with rfl | rfl | rfl | rfl
  all_goals cases x
  all_goals
    go_wp2_with (first | (at_builtin; refine wpList_acc rfl _ _ 28 rfl 32 (.int .i64 0) Tryd.underlying28 infoAcc rfl _ w0 _ _ _ ?_ hown hnn hB _ 1 ?_ ?_ ?_ ?_ ?_; exact rfl; exact rfl; exact rfl; simp [Value.oneCell']; omega; clear hown hnn hB; intro v1 w1 hown hnn hB _ _ _) | (at_builtin; refine wpList_acc rfl _ _ 28 rfl 32 (.int .i64 0) Tryd.underlying28 infoAcc rfl _ w0 _ _ _ ?_ hown hnn hB _ 3 ?_ ?_ ?_ ?_ ?_; exact rfl; exact rfl; exact rfl; simp [Value.oneCell']; omega; clear hown hnn hB; intro v1 w1 hown hnn hB _ _ _) | (at_builtin; refine wpList_acc rfl _ _ 28 rfl 32 (.int .i64 0) Tryd.underlying28 infoAcc rfl _ w0 _ _ _ ?_ hown hnn hB _ 2 ?_ ?_ ?_ ?_ ?_; exact rfl; exact rfl; exact rfl; simp [Value.oneCell']; omega; clear hown hnn hB; intro v1 w1 hown hnn hB _ _ _))
    go_ret
    exact ⟨_, rfl, by simpa [opndT, accV, Nat.add_assoc] using hown, hnn, hB⟩
end Go.Proofs.YtknfphgncoojeaaDoor

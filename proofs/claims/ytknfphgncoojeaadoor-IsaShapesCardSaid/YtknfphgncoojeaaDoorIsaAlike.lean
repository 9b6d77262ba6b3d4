/- tandemlaw4.alike: the contract, where the lists hold the same; a list's cells. -/
import Derived.Test.YtknfphgncoojeaaDoorIsaDec
import Derived.BigQuiet
import Derived.Deep.QuietTactic
namespace Go.Proofs.YtknfphgncoojeaaDoor
open Go.RowKit
theorem own_cells {w : World} {base n g cap : Nat} {e : TypeId} {xs : List Value} (h : w.ownsRow base e 1 (.slice (some ⟨g, 0, none⟩) n cap) n xs) (j : Nat) (u : Value) (hj : xs[j]? = some u) : w.cell? ⟨g, j, none⟩ = some u := by
  have := h.cells (g := g) rfl j u hj
  rw [show ((⟨g, 0, none⟩ : Addr).add j) = ⟨g, j, none⟩ from by simp [Addr.add]; omega] at this
  exact this
theorem accV_at (l : List Nat) (j : Nat) (h : j < l.length) : (accV l)[j]? = some (.int .i64 ((l.getD j 0 : Nat) : Int)) := by
  unfold accV
  rw [List.getElem?_map, List.getElem?_eq_getElem h, Option.map_some, List.getD_eq_getElem?_getD, List.getElem?_eq_getElem h]
  rfl
set_option maxRecDepth 100000 in
set_option maxHeartbeats 4000000 in
theorem alike_any (ga gb n ca cb : Nat) (f : Nat → Int) (w : World) (hn : n ≤ 1000) (ha : ∀ i, i < n → w.cell? ⟨ga, i, none⟩ = some (.int .i64 (f i))) (hb : ∀ i, i < n → w.cell? ⟨gb, i, none⟩ = some (.int .i64 (f i))) :
    Calls Tryd.prog 18 #[.slice (some ⟨ga, 0, none⟩) n ca, .slice (some ⟨gb, 0, none⟩) n cb] w fun e w' => e = .returned (.bool true) ∧ ∃ m, w' = w.drewN m := by
  go_enter Tryd.func18, Tryd.ntmps18
  go_wp2_with fail
  go_loopw [5] (fun i wr => ∃ k m : Nat, k ≤ n ∧ i = .int .i64 k ∧ wr = w.drewN m) (fun i _ => n - (intOf i).toNat)
  case atStart => exact ⟨0, 0, by omega, rfl, rfl⟩
  case round =>
    obtain ⟨k, m, hk, rfl, hw⟩ := hrel
    by_cases hlt : k < n
    · have c0 : wr.cell? ⟨ga, k, none⟩ = some (.int .i64 (f k)) := by rw [hw]; exact ha k hlt
      have c1 : wr.cell? ⟨gb, k, none⟩ = some (.int .i64 (f k)) := by rw [hw]; exact hb k hlt
      have HW := Lib.hid hw
      clear ha hb hw
      generalize f k = fk at *
      go_wp2_with fail
      go_quiet (fail)
      go_wp2_with fail
      go_roundw
      case rel => exact ⟨k + 1, m + nq, by omega, by go_num, by rw [HW.out]; simp [World.drewN]; omega⟩
      case measure => simp [intOf]; omega
    · obtain rfl : k = n := by omega
      have HW := Lib.hid hw
      clear ha hb hw
      go_wp2_with fail
      go_ret
      exact ⟨rfl, m, HW.out⟩
end Go.Proofs.YtknfphgncoojeaaDoor

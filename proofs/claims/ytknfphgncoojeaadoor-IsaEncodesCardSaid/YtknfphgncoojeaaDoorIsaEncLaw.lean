/- IsaEncodes: the law's walk: true, at every two numbers. -/
import Derived.Test.YtknfphgncoojeaaDoorRefEnc
namespace Go.Proofs.YtknfphgncoojeaaDoor
open Go.RowKit
set_option maxRecDepth 100000 in
set_option maxHeartbeats 4000000 in
theorem isaEncodes_walk (o m : Int) (w : World) (tF tL : TypeId) (fF fL : Nat × Nat) (hF : w.heap[3]? = some (.cells fillA tF fF)) (hL : w.heap[4]? = some (.cells lettersA tL fL)) :
    Calls Tryd.prog 3 #[.int .i64 o, .int .i64 m] w fun e w' => e = .returned (.bool true) ∧ Below w.heap.size w w' := by
  go_enter Tryd.func3, Tryd.ntmps3
  by_cases h : o < 0 ∨ 70 ≤ o
  · go_wp2_with fail
    refine (encode_no o m h _).mono ?_
    rintro e w1 ⟨rfl, hb1⟩
    go_wp2_with fail
    refine (refenc_no o m h _).mono ?_
    rintro e w2 ⟨rfl, hb2⟩
    have hB := hb1.trans (hb2.mono hb1.size)
    clear hb1 hb2
    go_wp2_with fail
    go_ret
    exact ⟨rfl, hB⟩
  · go_wp2_with fail
    refine (encode_yes o m (by omega) (by omega) _ tF fF hF).mono ?_
    rintro e w1 ⟨rfl, hb1⟩
    go_wp2_with fail
    have hL1 := (hb1.block _ (lt_of_row hL)).trans hL
    refine (refenc_yes o m (by omega) (by omega) _ tL fL hL1).mono ?_
    rintro e w2 ⟨rfl, hb2⟩
    have hB := hb1.trans (hb2.mono hb1.size)
    clear hb1 hb2 hL1
    generalize encT o m = q at *
    go_wp2_with fail
    go_ret
    exact ⟨rfl, hB⟩
end Go.Proofs.YtknfphgncoojeaaDoor

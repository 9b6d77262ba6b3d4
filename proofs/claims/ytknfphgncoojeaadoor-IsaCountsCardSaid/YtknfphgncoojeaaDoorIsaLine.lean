/- isa.line: closed facts. -/
import Derived.Test.YtknfphgncoojeaaDoorIsaTab
import Derived.WalkKit
import Derived.WalkLawsBesides
import Derived.KernelRfl
import Derived.Deep.WholeRow
import Derived.Laws.BitsAllLaws
namespace Go.Proofs.YtknfphgncoojeaaDoor
open Go.RowKit

theorem size105 : (Tryd.prog.info? 105).map (·.size) = some 32 := by kernel_rfl
theorem zero105 : (Tryd.prog.info? 105).bind (·.zero) = some (.agg (List.replicate 32 (.int .i64 0)).toArray) := by kernel_rfl
end Go.Proofs.YtknfphgncoojeaaDoor

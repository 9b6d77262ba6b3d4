-- Written by a program of this session (a turned copy of the print).
import Derived.Test.YtlhbolejnjbfdaaProg
import Derived.Below
import Derived.Deep.Draws
import Derived.Deep.AppendLies
import Derived.Maps.AppendAt
import Derived.OwnWalk
import Derived.Laws.BytesArg
import Derived.Laws.MakeOwn
import Derived.Laws.OwnMore
import Derived.Deep.OwnRows
import Derived.Tactics
import Derived.Lib.ConvBytes
import Derived.Laws.Slices
import Derived.WalkKit
import Derived.KernelRfl
import Derived.RowKit3
import Derived.Deep.LoopGhost
import Derived.Deep.QuietTactic
import Derived.BigQuiet
import Derived.WideLaws
import Derived.Deep.DeepCutAuto
import Derived.Deep.CutBlock
import Derived.Deep.RegionHeld3
import Derived.Laws.Rows
import Derived.Lib.AppendStr
import Derived.ArgAppend
import Derived.Laws.IdiomCopy
import Derived.OrdersHeld
import Derived.Laws.BitsLemmas
import Derived.RowKit
import Derived.Test.YtlhbolejnjbfdaaWWords
import Derived.Test.YtlhbolejnjbfdaaWLast
import Derived.Test.YtlhbolejnjbfdaaWTab
import Derived.Test.YtlhbolejnjbfdaaWFour
import Derived.Test.YtlhbolejnjbfdaaWQPut
import Derived.Test.YtlhbolejnjbfdaaWApart
import Derived.Test.YtlhbolejnjbfdaaWArr
import Derived.Test.YtlhbolejnjbfdaaWZeros
import Derived.Test.YtlhbolejnjbfdaaWFoot
import Derived.Test.YtlhbolejnjbfdaaWKept
import Derived.Test.YtlhbolejnjbfdaaWShare
import Derived.Test.YtlhbolejnjbfdaaWN
import Derived.Test.YtlhbolejnjbfdaaWFootNe
import Derived.Test.YtlhbolejnjbfdaaWAt
import Derived.Test.YtlhbolejnjbfdaaWEqStruct
import Derived.Test.YtlhbolejnjbfdaaWRepsOne
import Derived.Test.YtlhbolejnjbfdaaWInv
import Derived.Test.YtlhbolejnjbfdaaWInvWords
import Derived.Test.YtlhbolejnjbfdaaWGuard
import Derived.Test.YtlhbolejnjbfdaaWNEv
import Derived.Test.YtlhbolejnjbfdaaWMore
namespace Go.Proofs.Ytlhbolejnjbfdaa.PCartCrc
open Go.RowKit Go.Proofs.YtlhbolejnjbfdaaW.PrintWords Go.Proofs.YtlhbolejnjbfdaaW.PrintLast Go.Proofs.YtlhbolejnjbfdaaW.PrintMore
attribute [local go_sem] max2_int min2_int max_two min_two max_three min_three max_four min_four   -- for this text's walks alone
set_option linter.unusedVariables false
set_option linter.unusedSimpArgs false



def errW : Option Int → Value
  | none => .nilIface
  | some c => .iface 0 (.int .i64 c)
theorem errW_none : errW none = .nilIface := rfl
theorem errW_some (c : Int) : errW (some c) = .iface 0 (.int .i64 c) := rfl

theorem info5 : (Try.prog.info? 5).map (fun i => (i.zero, i.size, i.bytes)) = some (some (.int .u8 0), 1, 1) := by kernel_rfl
-- the values' own types

end Go.Proofs.Ytlhbolejnjbfdaa.PCartCrc

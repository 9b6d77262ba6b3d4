/-
  NARROWER THAN 'FOR EVERY INPUT', by the rows' own cells (each row's printed sentence says how): IsaEncodes: laid · IsaShapes: laid · IsaBus: laid · IsaDecodes: laid · IsaCounts: laid · IsaReads: laid · IsaLines: laid · IsaBack: laid · IsaOwn: laid · IsaCut: laid.
  DERIVED. THE GIVEN ROWS OF THIS SEAT. 10 by the template 'for every input the law returns true; each argument reads behind the call as it read before'; 0 by the template 'total and deterministic' (their statements: YtknfphgncoojeaaDoorTotals.lean).
  GIVEN WITH THE SEED: the statements are not yours to turn. If you find one false, say at which input.
  Laid BY PROGRAM, IN A SANDBOX (cutbox-rows.mjs): the forced cells as the released guide's own fill.sh prints them over the translation 53106ce728c82a90… (all of the seat's roots in one cut). By AI agents, Wed Nov 11 2026. No macro, syntax, notation, axiom, sorry.
-/
import Derived.Test.YtknfphgncoojeaaDoorChecked
import GoSem.Claim
import GoSem.ClaimJoined
import GoSem.ClaimMapViews
import Derived.JoinedTies
import Derived.KernelRfl
namespace Go.Proofs.YtknfphgncoojeaaDoor
/- THE CELL 'sum', in the pinned program and in every row, IS THE sha256 OF THE DUMP (.gsa) THAT YtknfphgncoojeaaDoorProg.lean LOADS. Nothing in Lean hashes anything: it is a label: what it is worth is what the hold of that sum in a sandbox is worth. -/
noncomputable def Tryd.pinned : Pinned := { name := "ytknfphgncoojeaadoor", sum := "53106ce728c82a90df49d043a4f6b407ea53611a8ddd477b7432fbd2419b226d", checked := Tryd.checked }
namespace Rows
def none {H : Type} : Left H := { results := [], args := [] }

/- WHAT THE LISTED PACKAGE-LEVEL VARIABLES READ AS WHEN THE CALL BEGINS. Each datum BY PROGRAM (the guide's laid-datum.mjs) off the statement by which the dump's own 'gosem.cut.vars' lays the variable. In a bare row this is a premise. The card (YtknfphgncoojeaaDoorCards.lean) ties it to the program's text. -/
def laid_tandem_tandemref4_letters {H : Type} : DataW H := .agg [.lit (.string []), .lit (.string [97]), .lit (.string [105]), .lit (.string [122]), .lit (.string [122, 120]), .lit (.string [122, 121]), .lit (.string [105, 120]), .lit (.string [105, 121]), .lit (.string [119]), .lit (.string [119, 120]), .lit (.string [119, 121]), .lit (.string [110]), .lit (.string [114])]
def laid_tandem_isa_fillers {H : Type} : DataW H := .agg [.lit (.int .u8 139), .lit (.int .u8 147), .lit (.int .u8 155), .lit (.int .u8 156), .lit (.int .u8 158), .lit (.int .u8 159), .lit (.int .u8 171)]
def laid_tandem_isa_lengths {H : Type} : DataW H := .agg [.lit (.int .i64 1), .lit (.int .i64 1), .lit (.int .i64 2), .lit (.int .i64 2), .lit (.int .i64 2), .lit (.int .i64 2), .lit (.int .i64 2), .lit (.int .i64 2), .lit (.int .i64 3), .lit (.int .i64 3), .lit (.int .i64 3), .lit (.int .i64 3), .lit (.int .i64 2)]
def laid_tandem_alu_flags {H : Type} : DataW H := .agg [.agg [.lit (.int .u8 9), .lit (.int .u8 195)], .agg [.lit (.int .u8 0), .lit (.int .u8 130)], .agg [.lit (.int .u8 0), .lit (.int .u8 131)], .agg [.lit (.int .u8 1), .lit (.int .u8 0)], .agg [.lit (.int .u8 1), .lit (.int .u8 0)], .agg [.lit (.int .u8 2), .lit (.int .u8 0)], .agg [.lit (.int .u8 0), .lit (.int .u8 194)], .agg [.lit (.int .u8 128), .lit (.int .u8 0)], .agg [.lit (.int .u8 2), .lit (.int .u8 0)], .agg [.lit (.int .u8 128), .lit (.int .u8 0)], .agg [.lit (.int .u8 207), .lit (.int .u8 4)], .agg [.lit (.int .u8 64), .lit (.int .u8 0)], .agg [.lit (.int .u8 64), .lit (.int .u8 0)], .agg [.lit (.int .u8 0), .lit (.int .u8 1)], .agg [.lit (.int .u8 0), .lit (.int .u8 8)], .agg [.lit (.int .u8 0), .lit (.int .u8 4)], .agg [.lit (.int .u8 0), .lit (.int .u8 64)], .agg [.lit (.int .u8 0), .lit (.int .u8 131)], .agg [.lit (.int .u8 0), .lit (.int .u8 131)], .agg [.lit (.int .u8 0), .lit (.int .u8 131)], .agg [.lit (.int .u8 0), .lit (.int .u8 130)], .agg [.lit (.int .u8 0), .lit (.int .u8 130)], .agg [.lit (.int .u8 0), .lit (.int .u8 130)], .agg [.lit (.int .u8 0), .lit (.int .u8 130)], .agg [.lit (.int .u8 0), .lit (.int .u8 130)], .agg [.lit (.int .u8 0), .lit (.int .u8 130)], .agg [.lit (.int .u8 0), .lit (.int .u8 130)], .agg [.lit (.int .u8 0), .lit (.int .u8 0)], .agg [.lit (.int .u8 0), .lit (.int .u8 0)], .agg [.lit (.int .u8 0), .lit (.int .u8 130)], .agg [.lit (.int .u8 0), .lit (.int .u8 130)], .agg [.lit (.int .u8 0), .lit (.int .u8 130)], .agg [.lit (.int .u8 0), .lit (.int .u8 131)], .agg [.lit (.int .u8 0), .lit (.int .u8 0)], .agg [.lit (.int .u8 0), .lit (.int .u8 130)], .agg [.lit (.int .u8 0), .lit (.int .u8 0)], .agg [.lit (.int .u8 207), .lit (.int .u8 0)], .agg [.lit (.int .u8 0), .lit (.int .u8 130)], .agg [.lit (.int .u8 0), .lit (.int .u8 255)], .agg [.lit (.int .u8 1), .lit (.int .u8 131)], .agg [.lit (.int .u8 1), .lit (.int .u8 131)], .agg [.lit (.int .u8 0), .lit (.int .u8 255)], .agg [.lit (.int .u8 0), .lit (.int .u8 0)], .agg [.lit (.int .u8 9), .lit (.int .u8 195)], .agg [.lit (.int .u8 0), .lit (.int .u8 1)], .agg [.lit (.int .u8 0), .lit (.int .u8 8)], .agg [.lit (.int .u8 0), .lit (.int .u8 4)], .agg [.lit (.int .u8 0), .lit (.int .u8 0)], .agg [.lit (.int .u8 0), .lit (.int .u8 0)], .agg [.lit (.int .u8 0), .lit (.int .u8 0)], .agg [.lit (.int .u8 0), .lit (.int .u8 130)], .agg [.lit (.int .u8 0), .lit (.int .u8 130)], .agg [.lit (.int .u8 0), .lit (.int .u8 130)], .agg [.lit (.int .u8 0), .lit (.int .u8 130)], .agg [.lit (.int .u8 0), .lit (.int .u8 0)], .agg [.lit (.int .u8 0), .lit (.int .u8 130)], .agg [.lit (.int .u8 0), .lit (.int .u8 131)], .agg [.lit (.int .u8 0), .lit (.int .u8 131)], .agg [.lit (.int .u8 9), .lit (.int .u8 195)], .agg [.lit (.int .u8 0), .lit (.int .u8 131)], .agg [.lit (.int .u8 9), .lit (.int .u8 195)], .agg [.lit (.int .u8 0), .lit (.int .u8 130)], .agg [.lit (.int .u8 0), .lit (.int .u8 130)], .agg [.lit (.int .u8 1), .lit (.int .u8 131)], .agg [.lit (.int .u8 9), .lit (.int .u8 195)], .agg [.lit (.int .u8 0), .lit (.int .u8 0)], .agg [.lit (.int .u8 0), .lit (.int .u8 131)], .agg [.lit (.int .u8 0), .lit (.int .u8 131)], .agg [.lit (.int .u8 0), .lit (.int .u8 131)], .agg [.lit (.int .u8 0), .lit (.int .u8 0)]]
def laid_tandem_tandemref4_forms {H : Type} : DataW H := .agg [.lit (.string []), .lit (.string [65]), .lit (.string [35, 36, 104, 104]), .lit (.string [36, 104, 104]), .lit (.string [36, 104, 104, 44, 88]), .lit (.string [36, 104, 104, 44, 89]), .lit (.string [40, 36, 104, 104, 44, 88, 41]), .lit (.string [40, 36, 104, 104, 41, 44, 89]), .lit (.string [36, 72, 72, 72, 72]), .lit (.string [36, 72, 72, 72, 72, 44, 88]), .lit (.string [36, 72, 72, 72, 72, 44, 89]), .lit (.string [40, 36, 72, 72, 72, 72, 41]), .lit (.string [36, 72, 72, 72, 72])]
def laid_tandem_isa_forms {H : Type} : DataW H := .agg [.lit (.string []), .lit (.string [32, 65]), .lit (.string [32, 35, 36, 104, 104]), .lit (.string [32, 36, 104, 104]), .lit (.string [32, 36, 104, 104, 44, 88]), .lit (.string [32, 36, 104, 104, 44, 89]), .lit (.string [32, 40, 36, 104, 104, 44, 88, 41]), .lit (.string [32, 40, 36, 104, 104, 41, 44, 89]), .lit (.string [32, 36, 104, 104, 104, 104]), .lit (.string [32, 36, 104, 104, 104, 104, 44, 88]), .lit (.string [32, 36, 104, 104, 104, 104, 44, 89]), .lit (.string [32, 40, 36, 104, 104, 104, 104, 41]), .lit (.string [])]

/-- 'tandemlaw4.IsaEncodes': WHATEVER THE INPUT: true; the input reads as it did. -/
def isaEncodesSpec : ChangeSpec := { name := "isaEncodes", fn := fun _ => fun
  | [d1, d2] => { results := [.lit (.bool true)], args := [d1, d2] }
  | _ => none }
def isaEncodesRow : OpenClaim := { program := "ytknfphgncoojeaadoor", sum := "53106ce728c82a90df49d043a4f6b407ea53611a8ddd477b7432fbd2419b226d", func := "tandem/tandemlaw4.IsaEncodes", spec := "isaEncodes", named := ["tandem/isa.fillers", "tandem/tandemref4.letters"], apart := false, laid := [("tandem/tandemref4.letters", laid_tandem_tandemref4_letters), ("tandem/isa.fillers", laid_tandem_isa_fillers)] }
def IsaEncodesSaid : Prop := isaEncodesRow.holds Tryd.pinned (OpenSpec.ofChange isaEncodesSpec)

/-- ITS FALSE NEIGHBOUR: 'it returns false'. Refute it at one input. -/
def isaEncodesWrong : ChangeSpec := { name := "isaEncodes", fn := fun _ => fun
  | [d1, d2] => { results := [.lit (.bool false)], args := [d1, d2] }
  | _ => none }
def IsaEncodesWrongFalsely : Prop := isaEncodesRow.holds Tryd.pinned (OpenSpec.ofChange isaEncodesWrong)

/-- 'tandemlaw4.IsaShapes': WHATEVER THE INPUT: true; the input reads as it did. -/
def isaShapesSpec : ChangeSpec := { name := "isaShapes", fn := fun _ => fun
  | [d1, d2, d3] => { results := [.lit (.bool true)], args := [d1, d2, d3] }
  | _ => none }
def isaShapesRow : OpenClaim := { program := "ytknfphgncoojeaadoor", sum := "53106ce728c82a90df49d043a4f6b407ea53611a8ddd477b7432fbd2419b226d", func := "tandem/tandemlaw4.IsaShapes", spec := "isaShapes", named := ["tandem/isa.fillers", "tandem/tandemref4.letters"], apart := false, laid := [("tandem/tandemref4.letters", laid_tandem_tandemref4_letters), ("tandem/isa.fillers", laid_tandem_isa_fillers)] }
def IsaShapesSaid : Prop := isaShapesRow.holds Tryd.pinned (OpenSpec.ofChange isaShapesSpec)

/-- ITS FALSE NEIGHBOUR: 'it returns false'. Refute it at one input. -/
def isaShapesWrong : ChangeSpec := { name := "isaShapes", fn := fun _ => fun
  | [d1, d2, d3] => { results := [.lit (.bool false)], args := [d1, d2, d3] }
  | _ => none }
def IsaShapesWrongFalsely : Prop := isaShapesRow.holds Tryd.pinned (OpenSpec.ofChange isaShapesWrong)

/-- 'tandemlaw4.IsaBus': WHATEVER THE INPUT: true; the input reads as it did. -/
def isaBusSpec : ChangeSpec := { name := "isaBus", fn := fun _ => fun
  | [d] => { results := [.lit (.bool true)], args := [d] }
  | _ => none }
def isaBusRow : OpenClaim := { program := "ytknfphgncoojeaadoor", sum := "53106ce728c82a90df49d043a4f6b407ea53611a8ddd477b7432fbd2419b226d", func := "tandem/tandemlaw4.IsaBus", spec := "isaBus", named := ["tandem/isa.lengths", "tandem/isa.fillers"], apart := false, laid := [("tandem/isa.fillers", laid_tandem_isa_fillers), ("tandem/isa.lengths", laid_tandem_isa_lengths)] }
def IsaBusSaid : Prop := isaBusRow.holds Tryd.pinned (OpenSpec.ofChange isaBusSpec)

/-- ITS FALSE NEIGHBOUR: 'it returns false'. Refute it at one input. -/
def isaBusWrong : ChangeSpec := { name := "isaBus", fn := fun _ => fun
  | [d] => { results := [.lit (.bool false)], args := [d] }
  | _ => none }
def IsaBusWrongFalsely : Prop := isaBusRow.holds Tryd.pinned (OpenSpec.ofChange isaBusWrong)

/-- 'tandemlaw4.IsaDecodes': WHATEVER THE INPUT: true; the input reads as it did. -/
def isaDecodesSpec : ChangeSpec := { name := "isaDecodes", fn := fun _ => fun
  | [d] => { results := [.lit (.bool true)], args := [d] }
  | _ => none }
def isaDecodesRow : OpenClaim := { program := "ytknfphgncoojeaadoor", sum := "53106ce728c82a90df49d043a4f6b407ea53611a8ddd477b7432fbd2419b226d", func := "tandem/tandemlaw4.IsaDecodes", spec := "isaDecodes", named := ["tandem/isa.lengths", "tandem/isa.fillers", "tandem/tandemref4.letters", "tandem/alu.flags"], apart := false, laid := [("tandem/alu.flags", laid_tandem_alu_flags), ("tandem/tandemref4.letters", laid_tandem_tandemref4_letters), ("tandem/isa.fillers", laid_tandem_isa_fillers), ("tandem/isa.lengths", laid_tandem_isa_lengths)] }
def IsaDecodesSaid : Prop := isaDecodesRow.holds Tryd.pinned (OpenSpec.ofChange isaDecodesSpec)

/-- ITS FALSE NEIGHBOUR: 'it returns false'. Refute it at one input. -/
def isaDecodesWrong : ChangeSpec := { name := "isaDecodes", fn := fun _ => fun
  | [d] => { results := [.lit (.bool false)], args := [d] }
  | _ => none }
def IsaDecodesWrongFalsely : Prop := isaDecodesRow.holds Tryd.pinned (OpenSpec.ofChange isaDecodesWrong)

/-- 'tandemlaw4.IsaCounts': WHATEVER THE INPUT: true; the input reads as it did. -/
def isaCountsSpec : ChangeSpec := { name := "isaCounts", fn := fun _ => fun
  | [] => { results := [.lit (.bool true)], args := [] }
  | _ => none }
def isaCountsRow : OpenClaim := { program := "ytknfphgncoojeaadoor", sum := "53106ce728c82a90df49d043a4f6b407ea53611a8ddd477b7432fbd2419b226d", func := "tandem/tandemlaw4.IsaCounts", spec := "isaCounts", named := ["tandem/isa.lengths", "tandem/isa.fillers"], apart := false, laid := [("tandem/isa.fillers", laid_tandem_isa_fillers), ("tandem/isa.lengths", laid_tandem_isa_lengths)] }
def IsaCountsSaid : Prop := isaCountsRow.holds Tryd.pinned (OpenSpec.ofChange isaCountsSpec)

/-- ITS FALSE NEIGHBOUR: 'it returns false'. Refute it at one input. -/
def isaCountsWrong : ChangeSpec := { name := "isaCounts", fn := fun _ => fun
  | [] => { results := [.lit (.bool false)], args := [] }
  | _ => none }
def IsaCountsWrongFalsely : Prop := isaCountsRow.holds Tryd.pinned (OpenSpec.ofChange isaCountsWrong)

/-- 'tandemlaw4.IsaReads': WHATEVER THE INPUT: true; the input reads as it did. -/
def isaReadsSpec : ChangeSpec := { name := "isaReads", fn := fun _ => fun
  | [d1, d2] => { results := [.lit (.bool true)], args := [d1, d2] }
  | _ => none }
def isaReadsRow : OpenClaim := { program := "ytknfphgncoojeaadoor", sum := "53106ce728c82a90df49d043a4f6b407ea53611a8ddd477b7432fbd2419b226d", func := "tandem/tandemlaw4.IsaReads", spec := "isaReads", inPlace := ["internal/bytealg.IndexByteString"], named := ["tandem/isa.lengths", "tandem/isa.forms", "tandem/isa.fillers", "tandem/tandemref4.forms", "tandem/tandemref4.letters"], apart := false, laid := [("tandem/tandemref4.letters", laid_tandem_tandemref4_letters), ("tandem/tandemref4.forms", laid_tandem_tandemref4_forms), ("tandem/isa.fillers", laid_tandem_isa_fillers), ("tandem/isa.lengths", laid_tandem_isa_lengths), ("tandem/isa.forms", laid_tandem_isa_forms)] }
def IsaReadsSaid : Prop := isaReadsRow.holds Tryd.pinned (OpenSpec.ofChange isaReadsSpec)

/-- ITS FALSE NEIGHBOUR: 'it returns false'. Refute it at one input. -/
def isaReadsWrong : ChangeSpec := { name := "isaReads", fn := fun _ => fun
  | [d1, d2] => { results := [.lit (.bool false)], args := [d1, d2] }
  | _ => none }
def IsaReadsWrongFalsely : Prop := isaReadsRow.holds Tryd.pinned (OpenSpec.ofChange isaReadsWrong)

/-- 'tandemlaw4.IsaLines': WHATEVER THE INPUT: true; the input reads as it did. -/
def isaLinesSpec : ChangeSpec := { name := "isaLines", fn := fun _ => fun
  | [d1, d2] => { results := [.lit (.bool true)], args := [d1, d2] }
  | _ => none }
def isaLinesRow : OpenClaim := { program := "ytknfphgncoojeaadoor", sum := "53106ce728c82a90df49d043a4f6b407ea53611a8ddd477b7432fbd2419b226d", func := "tandem/tandemlaw4.IsaLines", spec := "isaLines", inPlace := ["internal/abi.NoEscape", "internal/bytealg.CountString", "internal/bytealg.IndexByteString", "internal/bytealg.IndexString"], named := ["tandem/isa.lengths", "tandem/isa.forms", "tandem/isa.fillers", "internal/bytealg.MaxLen", "tandem/tandemref4.forms", "tandem/tandemref4.letters"], apart := false, laid := [("tandem/tandemref4.letters", laid_tandem_tandemref4_letters), ("tandem/tandemref4.forms", laid_tandem_tandemref4_forms), ("tandem/isa.fillers", laid_tandem_isa_fillers), ("tandem/isa.lengths", laid_tandem_isa_lengths), ("tandem/isa.forms", laid_tandem_isa_forms)] }
def IsaLinesSaid : Prop := isaLinesRow.holds Tryd.pinned (OpenSpec.ofChange isaLinesSpec)

/-- ITS FALSE NEIGHBOUR: 'it returns false'. Refute it at one input. -/
def isaLinesWrong : ChangeSpec := { name := "isaLines", fn := fun _ => fun
  | [d1, d2] => { results := [.lit (.bool false)], args := [d1, d2] }
  | _ => none }
def IsaLinesWrongFalsely : Prop := isaLinesRow.holds Tryd.pinned (OpenSpec.ofChange isaLinesWrong)

/-- 'tandemlaw4.IsaBack': WHATEVER THE INPUT: true; the input reads as it did. -/
def isaBackSpec : ChangeSpec := { name := "isaBack", fn := fun _ => fun
  | [d1, d2, d3, d4] => { results := [.lit (.bool true)], args := [d1, d2, d3, d4] }
  | _ => none }
def isaBackRow : OpenClaim := { program := "ytknfphgncoojeaadoor", sum := "53106ce728c82a90df49d043a4f6b407ea53611a8ddd477b7432fbd2419b226d", func := "tandem/tandemlaw4.IsaBack", spec := "isaBack", inPlace := ["internal/abi.NoEscape", "internal/bytealg.CountString", "internal/bytealg.IndexByteString", "internal/bytealg.IndexString"], named := ["tandem/isa.lengths", "tandem/isa.fillers", "tandem/isa.forms", "internal/bytealg.MaxLen"], apart := false, laid := [("tandem/isa.fillers", laid_tandem_isa_fillers), ("tandem/isa.lengths", laid_tandem_isa_lengths), ("tandem/isa.forms", laid_tandem_isa_forms)] }
def IsaBackSaid : Prop := isaBackRow.holds Tryd.pinned (OpenSpec.ofChange isaBackSpec)

/-- ITS FALSE NEIGHBOUR: 'it returns false'. Refute it at one input. -/
def isaBackWrong : ChangeSpec := { name := "isaBack", fn := fun _ => fun
  | [d1, d2, d3, d4] => { results := [.lit (.bool false)], args := [d1, d2, d3, d4] }
  | _ => none }
def IsaBackWrongFalsely : Prop := isaBackRow.holds Tryd.pinned (OpenSpec.ofChange isaBackWrong)

/-- 'tandemlaw4.IsaOwn': WHATEVER THE INPUT: true; the input reads as it did. -/
def isaOwnSpec : ChangeSpec := { name := "isaOwn", fn := fun _ => fun
  | [d1, d2, d3, d4, d5] => { results := [.lit (.bool true)], args := [d1, d2, d3, d4, d5] }
  | _ => none }
def isaOwnRow : OpenClaim := { program := "ytknfphgncoojeaadoor", sum := "53106ce728c82a90df49d043a4f6b407ea53611a8ddd477b7432fbd2419b226d", func := "tandem/tandemlaw4.IsaOwn", spec := "isaOwn", inPlace := ["internal/abi.NoEscape", "internal/bytealg.CountString", "internal/bytealg.IndexByteString", "internal/bytealg.IndexString"], named := ["tandem/isa.lengths", "tandem/isa.fillers", "tandem/isa.forms", "internal/bytealg.MaxLen"], apart := false, laid := [("tandem/isa.fillers", laid_tandem_isa_fillers), ("tandem/isa.lengths", laid_tandem_isa_lengths), ("tandem/isa.forms", laid_tandem_isa_forms)] }
def IsaOwnSaid : Prop := isaOwnRow.holds Tryd.pinned (OpenSpec.ofChange isaOwnSpec)

/-- ITS FALSE NEIGHBOUR: 'it returns false'. Refute it at one input. -/
def isaOwnWrong : ChangeSpec := { name := "isaOwn", fn := fun _ => fun
  | [d1, d2, d3, d4, d5] => { results := [.lit (.bool false)], args := [d1, d2, d3, d4, d5] }
  | _ => none }
def IsaOwnWrongFalsely : Prop := isaOwnRow.holds Tryd.pinned (OpenSpec.ofChange isaOwnWrong)

/-- 'tandemlaw4.IsaCut': WHATEVER THE INPUT: true; the input reads as it did. -/
def isaCutSpec : ChangeSpec := { name := "isaCut", fn := fun _ => fun
  | [d1, d2, d3, d4, d5] => { results := [.lit (.bool true)], args := [d1, d2, d3, d4, d5] }
  | _ => none }
def isaCutRow : OpenClaim := { program := "ytknfphgncoojeaadoor", sum := "53106ce728c82a90df49d043a4f6b407ea53611a8ddd477b7432fbd2419b226d", func := "tandem/tandemlaw4.IsaCut", spec := "isaCut", inPlace := ["internal/abi.NoEscape", "internal/bytealg.CountString", "internal/bytealg.IndexByteString", "internal/bytealg.IndexString"], named := ["tandem/isa.lengths", "tandem/isa.forms", "tandem/isa.fillers", "internal/bytealg.MaxLen"], apart := false, laid := [("tandem/isa.fillers", laid_tandem_isa_fillers), ("tandem/isa.lengths", laid_tandem_isa_lengths), ("tandem/isa.forms", laid_tandem_isa_forms)] }
def IsaCutSaid : Prop := isaCutRow.holds Tryd.pinned (OpenSpec.ofChange isaCutSpec)

/-- ITS FALSE NEIGHBOUR: 'it returns false'. Refute it at one input. -/
def isaCutWrong : ChangeSpec := { name := "isaCut", fn := fun _ => fun
  | [d1, d2, d3, d4, d5] => { results := [.lit (.bool false)], args := [d1, d2, d3, d4, d5] }
  | _ => none }
def IsaCutWrongFalsely : Prop := isaCutRow.holds Tryd.pinned (OpenSpec.ofChange isaCutWrong)

/- THE SECOND FORM. 'bulk': how many values and letters a reading holds, each counted each time it is reached (what is shared counts as often as it is met; a slice's spare places count too). A statement '..UptoSaid' is the law's where the arguments, and the package variables that the reading takes, are together of bulk at most 1048576: NARROWER than '..Said'. Prove '..Said' where nothing that the law and all that it calls make is longer than what came in: it says more and counts as full. Else prove '..UptoSaid'. A law counts once. -/
mutual
def uptoBulk {H : Type} : DataW H → Nat
  | .lit (.string bytes) => bytes.length + 1
  | .lit _ => 1
  | .nil => 1
  | .ptr d => uptoBulk d + 1
  | .slice elems spare => uptoBulkAll elems + uptoBulkAll spare + 1
  | .agg parts => uptoBulkAll parts + 1
  | .iface _ d => uptoBulk d + 1
  | .map entries => uptoBulkEntries entries + 1
  | .held _ => 1
def uptoBulkAll {H : Type} : List (DataW H) → Nat
  | [] => 0
  | d :: r => uptoBulk d + uptoBulkAll r
def uptoBulkEntries {H : Type} : List (Lit × DataW H) → Nat
  | [] => 0
  | x :: r => uptoBulkEntry x + uptoBulkEntries r
def uptoBulkEntry {H : Type} : Lit × DataW H → Nat
  | (.string bytes, d) => bytes.length + uptoBulk d + 1
  | (_, d) => uptoBulk d + 1
 end
def uptoSmall : (H : Type) → List (DataW H) → Bool := fun _ ds => decide (uptoBulkAll ds ≤ 1048576)
def OpenSpec.upto (s : _root_.Go.ChangeSpec) : _root_.Go.OpenSpec := { _root_.Go.OpenSpec.ofChange s with cond := some uptoSmall }

/-- 'tandemlaw4.IsaEncodes', WHERE WHAT IT READS IS OF BULK AT MOST 1048576: true; the input reads as it did. -/
def isaEncodesUptoRow : OpenClaim := { program := "ytknfphgncoojeaadoor", sum := "53106ce728c82a90df49d043a4f6b407ea53611a8ddd477b7432fbd2419b226d", func := "tandem/tandemlaw4.IsaEncodes", spec := "isaEncodes", named := ["tandem/isa.fillers", "tandem/tandemref4.letters"], apart := false, laid := [("tandem/tandemref4.letters", laid_tandem_tandemref4_letters), ("tandem/isa.fillers", laid_tandem_isa_fillers)], narrowed := true }
def IsaEncodesUptoSaid : Prop := isaEncodesUptoRow.holds Tryd.pinned (OpenSpec.upto isaEncodesSpec)

/-- 'tandemlaw4.IsaShapes', WHERE WHAT IT READS IS OF BULK AT MOST 1048576: true; the input reads as it did. -/
def isaShapesUptoRow : OpenClaim := { program := "ytknfphgncoojeaadoor", sum := "53106ce728c82a90df49d043a4f6b407ea53611a8ddd477b7432fbd2419b226d", func := "tandem/tandemlaw4.IsaShapes", spec := "isaShapes", named := ["tandem/isa.fillers", "tandem/tandemref4.letters"], apart := false, laid := [("tandem/tandemref4.letters", laid_tandem_tandemref4_letters), ("tandem/isa.fillers", laid_tandem_isa_fillers)], narrowed := true }
def IsaShapesUptoSaid : Prop := isaShapesUptoRow.holds Tryd.pinned (OpenSpec.upto isaShapesSpec)

/-- 'tandemlaw4.IsaBus', WHERE WHAT IT READS IS OF BULK AT MOST 1048576: true; the input reads as it did. -/
def isaBusUptoRow : OpenClaim := { program := "ytknfphgncoojeaadoor", sum := "53106ce728c82a90df49d043a4f6b407ea53611a8ddd477b7432fbd2419b226d", func := "tandem/tandemlaw4.IsaBus", spec := "isaBus", named := ["tandem/isa.lengths", "tandem/isa.fillers"], apart := false, laid := [("tandem/isa.fillers", laid_tandem_isa_fillers), ("tandem/isa.lengths", laid_tandem_isa_lengths)], narrowed := true }
def IsaBusUptoSaid : Prop := isaBusUptoRow.holds Tryd.pinned (OpenSpec.upto isaBusSpec)

/-- 'tandemlaw4.IsaDecodes', WHERE WHAT IT READS IS OF BULK AT MOST 1048576: true; the input reads as it did. -/
def isaDecodesUptoRow : OpenClaim := { program := "ytknfphgncoojeaadoor", sum := "53106ce728c82a90df49d043a4f6b407ea53611a8ddd477b7432fbd2419b226d", func := "tandem/tandemlaw4.IsaDecodes", spec := "isaDecodes", named := ["tandem/isa.lengths", "tandem/isa.fillers", "tandem/tandemref4.letters", "tandem/alu.flags"], apart := false, laid := [("tandem/alu.flags", laid_tandem_alu_flags), ("tandem/tandemref4.letters", laid_tandem_tandemref4_letters), ("tandem/isa.fillers", laid_tandem_isa_fillers), ("tandem/isa.lengths", laid_tandem_isa_lengths)], narrowed := true }
def IsaDecodesUptoSaid : Prop := isaDecodesUptoRow.holds Tryd.pinned (OpenSpec.upto isaDecodesSpec)

/-- 'tandemlaw4.IsaCounts', WHERE WHAT IT READS IS OF BULK AT MOST 1048576: true; the input reads as it did. -/
def isaCountsUptoRow : OpenClaim := { program := "ytknfphgncoojeaadoor", sum := "53106ce728c82a90df49d043a4f6b407ea53611a8ddd477b7432fbd2419b226d", func := "tandem/tandemlaw4.IsaCounts", spec := "isaCounts", named := ["tandem/isa.lengths", "tandem/isa.fillers"], apart := false, laid := [("tandem/isa.fillers", laid_tandem_isa_fillers), ("tandem/isa.lengths", laid_tandem_isa_lengths)], narrowed := true }
def IsaCountsUptoSaid : Prop := isaCountsUptoRow.holds Tryd.pinned (OpenSpec.upto isaCountsSpec)

/-- 'tandemlaw4.IsaReads', WHERE WHAT IT READS IS OF BULK AT MOST 1048576: true; the input reads as it did. -/
def isaReadsUptoRow : OpenClaim := { program := "ytknfphgncoojeaadoor", sum := "53106ce728c82a90df49d043a4f6b407ea53611a8ddd477b7432fbd2419b226d", func := "tandem/tandemlaw4.IsaReads", spec := "isaReads", inPlace := ["internal/bytealg.IndexByteString"], named := ["tandem/isa.lengths", "tandem/isa.forms", "tandem/isa.fillers", "tandem/tandemref4.forms", "tandem/tandemref4.letters"], apart := false, laid := [("tandem/tandemref4.letters", laid_tandem_tandemref4_letters), ("tandem/tandemref4.forms", laid_tandem_tandemref4_forms), ("tandem/isa.fillers", laid_tandem_isa_fillers), ("tandem/isa.lengths", laid_tandem_isa_lengths), ("tandem/isa.forms", laid_tandem_isa_forms)], narrowed := true }
def IsaReadsUptoSaid : Prop := isaReadsUptoRow.holds Tryd.pinned (OpenSpec.upto isaReadsSpec)

/-- 'tandemlaw4.IsaLines', WHERE WHAT IT READS IS OF BULK AT MOST 1048576: true; the input reads as it did. -/
def isaLinesUptoRow : OpenClaim := { program := "ytknfphgncoojeaadoor", sum := "53106ce728c82a90df49d043a4f6b407ea53611a8ddd477b7432fbd2419b226d", func := "tandem/tandemlaw4.IsaLines", spec := "isaLines", inPlace := ["internal/abi.NoEscape", "internal/bytealg.CountString", "internal/bytealg.IndexByteString", "internal/bytealg.IndexString"], named := ["tandem/isa.lengths", "tandem/isa.forms", "tandem/isa.fillers", "internal/bytealg.MaxLen", "tandem/tandemref4.forms", "tandem/tandemref4.letters"], apart := false, laid := [("tandem/tandemref4.letters", laid_tandem_tandemref4_letters), ("tandem/tandemref4.forms", laid_tandem_tandemref4_forms), ("tandem/isa.fillers", laid_tandem_isa_fillers), ("tandem/isa.lengths", laid_tandem_isa_lengths), ("tandem/isa.forms", laid_tandem_isa_forms)], narrowed := true }
def IsaLinesUptoSaid : Prop := isaLinesUptoRow.holds Tryd.pinned (OpenSpec.upto isaLinesSpec)

/-- 'tandemlaw4.IsaBack', WHERE WHAT IT READS IS OF BULK AT MOST 1048576: true; the input reads as it did. -/
def isaBackUptoRow : OpenClaim := { program := "ytknfphgncoojeaadoor", sum := "53106ce728c82a90df49d043a4f6b407ea53611a8ddd477b7432fbd2419b226d", func := "tandem/tandemlaw4.IsaBack", spec := "isaBack", inPlace := ["internal/abi.NoEscape", "internal/bytealg.CountString", "internal/bytealg.IndexByteString", "internal/bytealg.IndexString"], named := ["tandem/isa.lengths", "tandem/isa.fillers", "tandem/isa.forms", "internal/bytealg.MaxLen"], apart := false, laid := [("tandem/isa.fillers", laid_tandem_isa_fillers), ("tandem/isa.lengths", laid_tandem_isa_lengths), ("tandem/isa.forms", laid_tandem_isa_forms)], narrowed := true }
def IsaBackUptoSaid : Prop := isaBackUptoRow.holds Tryd.pinned (OpenSpec.upto isaBackSpec)

/-- 'tandemlaw4.IsaOwn', WHERE WHAT IT READS IS OF BULK AT MOST 1048576: true; the input reads as it did. -/
def isaOwnUptoRow : OpenClaim := { program := "ytknfphgncoojeaadoor", sum := "53106ce728c82a90df49d043a4f6b407ea53611a8ddd477b7432fbd2419b226d", func := "tandem/tandemlaw4.IsaOwn", spec := "isaOwn", inPlace := ["internal/abi.NoEscape", "internal/bytealg.CountString", "internal/bytealg.IndexByteString", "internal/bytealg.IndexString"], named := ["tandem/isa.lengths", "tandem/isa.fillers", "tandem/isa.forms", "internal/bytealg.MaxLen"], apart := false, laid := [("tandem/isa.fillers", laid_tandem_isa_fillers), ("tandem/isa.lengths", laid_tandem_isa_lengths), ("tandem/isa.forms", laid_tandem_isa_forms)], narrowed := true }
def IsaOwnUptoSaid : Prop := isaOwnUptoRow.holds Tryd.pinned (OpenSpec.upto isaOwnSpec)

/-- 'tandemlaw4.IsaCut', WHERE WHAT IT READS IS OF BULK AT MOST 1048576: true; the input reads as it did. -/
def isaCutUptoRow : OpenClaim := { program := "ytknfphgncoojeaadoor", sum := "53106ce728c82a90df49d043a4f6b407ea53611a8ddd477b7432fbd2419b226d", func := "tandem/tandemlaw4.IsaCut", spec := "isaCut", inPlace := ["internal/abi.NoEscape", "internal/bytealg.CountString", "internal/bytealg.IndexByteString", "internal/bytealg.IndexString"], named := ["tandem/isa.lengths", "tandem/isa.forms", "tandem/isa.fillers", "internal/bytealg.MaxLen"], apart := false, laid := [("tandem/isa.fillers", laid_tandem_isa_fillers), ("tandem/isa.lengths", laid_tandem_isa_lengths), ("tandem/isa.forms", laid_tandem_isa_forms)], narrowed := true }
def IsaCutUptoSaid : Prop := isaCutUptoRow.holds Tryd.pinned (OpenSpec.upto isaCutSpec)

end Rows
end Go.Proofs.YtknfphgncoojeaaDoor

/-
  DERIVED. GIVEN WITH THE SEED: THE PROGRAM's TIES (one call each: nine closed facts by the kernel) AND EACH ROW's TIE, after the 31st guide's Derived/Test/Toyas{Tie, Card}.lean. No idea stands in it: it is a product of the set-up. Laid BY PROGRAM, IN A SANDBOX (cutbox-door.mjs). By AI agents, Wed Nov 11 2026. No macro, syntax, notation, axiom, sorry.
-/
import Derived.Test.YtknfphgncoojeaaDoorRows
import Derived.LaidByTextLater
import Derived.SevenTiedAt
import Derived.LaidSub
import Derived.LaidOnce
namespace Go.Proofs.YtknfphgncoojeaaDoor
open Go
set_option maxRecDepth 100000
theorem seatTie1 : Tryd.prog.laidByTextLater [("tandem/alu.flags", Rows.laid_tandem_alu_flags), ("tandem/tandemref4.letters", Rows.laid_tandem_tandemref4_letters), ("tandem/tandemref4.forms", Rows.laid_tandem_tandemref4_forms), ("tandem/isa.fillers", Rows.laid_tandem_isa_fillers), ("tandem/isa.lengths", Rows.laid_tandem_isa_lengths), ("tandem/isa.forms", Rows.laid_tandem_isa_forms)] [.data, .data, .data, .data, .data, .data] true :=
  Program.laidByTextLater_by_one 98 8 141 (by kernel_rfl) (by kernel_rfl) (by kernel_rfl) (by kernel_rfl) (by kernel_rfl) (by kernel_rfl) (fun _ _ => by kernel_rfl)
theorem noOwnUnsafe : Tryd.pinned.checked.prog.headLifts.contains "ownunsafe" = false := by kernel_rfl
theorem tie : Tryd.prog.laidByTextLater [("tandem/tandemref4.letters", Rows.laid_tandem_tandemref4_letters), ("tandem/isa.fillers", Rows.laid_tandem_isa_fillers)] [.data, .data] true :=
  Program.laidByTextLater.sub seatTie1 ["tandem/tandemref4.letters", "tandem/isa.fillers"] (by kernel_rfl) (by kernel_rfl)
theorem isaEncodes_row_tie : Rows.isaEncodesRow.laidByTextAt .later Tryd.pinned [.data, .data] true :=
  OpenClaim.laidByTextAt_later rfl rfl tie noOwnUnsafe
theorem isaShapes_row_tie : Rows.isaShapesRow.laidByTextAt .later Tryd.pinned [.data, .data] true :=
  OpenClaim.laidByTextAt_later rfl rfl tie noOwnUnsafe
theorem tie2 : Tryd.prog.laidByTextLater [("tandem/isa.fillers", Rows.laid_tandem_isa_fillers), ("tandem/isa.lengths", Rows.laid_tandem_isa_lengths)] [.data, .data] true :=
  Program.laidByTextLater.sub seatTie1 ["tandem/isa.fillers", "tandem/isa.lengths"] (by kernel_rfl) (by kernel_rfl)
theorem isaBus_row_tie : Rows.isaBusRow.laidByTextAt .later Tryd.pinned [.data, .data] true :=
  OpenClaim.laidByTextAt_later rfl rfl tie2 noOwnUnsafe
theorem isaCounts_row_tie : Rows.isaCountsRow.laidByTextAt .later Tryd.pinned [.data, .data] true :=
  OpenClaim.laidByTextAt_later rfl rfl tie2 noOwnUnsafe
theorem tie3 : Tryd.prog.laidByTextLater [("tandem/alu.flags", Rows.laid_tandem_alu_flags), ("tandem/tandemref4.letters", Rows.laid_tandem_tandemref4_letters), ("tandem/isa.fillers", Rows.laid_tandem_isa_fillers), ("tandem/isa.lengths", Rows.laid_tandem_isa_lengths)] [.data, .data, .data, .data] true :=
  Program.laidByTextLater.sub seatTie1 ["tandem/alu.flags", "tandem/tandemref4.letters", "tandem/isa.fillers", "tandem/isa.lengths"] (by kernel_rfl) (by kernel_rfl)
theorem isaDecodes_row_tie : Rows.isaDecodesRow.laidByTextAt .later Tryd.pinned [.data, .data, .data, .data] true :=
  OpenClaim.laidByTextAt_later rfl rfl tie3 noOwnUnsafe
theorem tie4 : Tryd.prog.laidByTextLater [("tandem/tandemref4.letters", Rows.laid_tandem_tandemref4_letters), ("tandem/tandemref4.forms", Rows.laid_tandem_tandemref4_forms), ("tandem/isa.fillers", Rows.laid_tandem_isa_fillers), ("tandem/isa.lengths", Rows.laid_tandem_isa_lengths), ("tandem/isa.forms", Rows.laid_tandem_isa_forms)] [.data, .data, .data, .data, .data] true :=
  Program.laidByTextLater.sub seatTie1 ["tandem/tandemref4.letters", "tandem/tandemref4.forms", "tandem/isa.fillers", "tandem/isa.lengths", "tandem/isa.forms"] (by kernel_rfl) (by kernel_rfl)
theorem isaReads_row_tie : Rows.isaReadsRow.laidByTextAt .later Tryd.pinned [.data, .data, .data, .data, .data] true :=
  OpenClaim.laidByTextAt_later rfl rfl tie4 noOwnUnsafe
theorem isaLines_row_tie : Rows.isaLinesRow.laidByTextAt .later Tryd.pinned [.data, .data, .data, .data, .data] true :=
  OpenClaim.laidByTextAt_later rfl rfl tie4 noOwnUnsafe
theorem tie5 : Tryd.prog.laidByTextLater [("tandem/isa.fillers", Rows.laid_tandem_isa_fillers), ("tandem/isa.lengths", Rows.laid_tandem_isa_lengths), ("tandem/isa.forms", Rows.laid_tandem_isa_forms)] [.data, .data, .data] true :=
  Program.laidByTextLater.sub seatTie1 ["tandem/isa.fillers", "tandem/isa.lengths", "tandem/isa.forms"] (by kernel_rfl) (by kernel_rfl)
theorem isaBack_row_tie : Rows.isaBackRow.laidByTextAt .later Tryd.pinned [.data, .data, .data] true :=
  OpenClaim.laidByTextAt_later rfl rfl tie5 noOwnUnsafe
theorem isaOwn_row_tie : Rows.isaOwnRow.laidByTextAt .later Tryd.pinned [.data, .data, .data] true :=
  OpenClaim.laidByTextAt_later rfl rfl tie5 noOwnUnsafe
theorem isaCut_row_tie : Rows.isaCutRow.laidByTextAt .later Tryd.pinned [.data, .data, .data] true :=
  OpenClaim.laidByTextAt_later rfl rfl tie5 noOwnUnsafe
theorem isaEncodesUpto_row_tie : Rows.isaEncodesUptoRow.laidByTextAt .later Tryd.pinned [.data, .data] true :=
  OpenClaim.laidByTextAt_later rfl rfl tie noOwnUnsafe
theorem isaShapesUpto_row_tie : Rows.isaShapesUptoRow.laidByTextAt .later Tryd.pinned [.data, .data] true :=
  OpenClaim.laidByTextAt_later rfl rfl tie noOwnUnsafe
theorem isaBusUpto_row_tie : Rows.isaBusUptoRow.laidByTextAt .later Tryd.pinned [.data, .data] true :=
  OpenClaim.laidByTextAt_later rfl rfl tie2 noOwnUnsafe
theorem isaDecodesUpto_row_tie : Rows.isaDecodesUptoRow.laidByTextAt .later Tryd.pinned [.data, .data, .data, .data] true :=
  OpenClaim.laidByTextAt_later rfl rfl tie3 noOwnUnsafe
theorem isaCountsUpto_row_tie : Rows.isaCountsUptoRow.laidByTextAt .later Tryd.pinned [.data, .data] true :=
  OpenClaim.laidByTextAt_later rfl rfl tie2 noOwnUnsafe
theorem isaReadsUpto_row_tie : Rows.isaReadsUptoRow.laidByTextAt .later Tryd.pinned [.data, .data, .data, .data, .data] true :=
  OpenClaim.laidByTextAt_later rfl rfl tie4 noOwnUnsafe
theorem isaLinesUpto_row_tie : Rows.isaLinesUptoRow.laidByTextAt .later Tryd.pinned [.data, .data, .data, .data, .data] true :=
  OpenClaim.laidByTextAt_later rfl rfl tie4 noOwnUnsafe
theorem isaBackUpto_row_tie : Rows.isaBackUptoRow.laidByTextAt .later Tryd.pinned [.data, .data, .data] true :=
  OpenClaim.laidByTextAt_later rfl rfl tie5 noOwnUnsafe
theorem isaOwnUpto_row_tie : Rows.isaOwnUptoRow.laidByTextAt .later Tryd.pinned [.data, .data, .data] true :=
  OpenClaim.laidByTextAt_later rfl rfl tie5 noOwnUnsafe
theorem isaCutUpto_row_tie : Rows.isaCutUptoRow.laidByTextAt .later Tryd.pinned [.data, .data, .data] true :=
  OpenClaim.laidByTextAt_later rfl rfl tie5 noOwnUnsafe
end Go.Proofs.YtknfphgncoojeaaDoor

/-
  DERIVED. GIVEN WITH THE SEED: THE CARDS: each row of YtknfphgncoojeaaDoorRows.lean that lists a variable, with what it lists TIED to the program's text (the seventh form; the later family's looks); each row that meets fmt, with fmt's text TOLD by the authors' own Lean function (tested against real Go, not proved from fmt's source: count such statements apart). THE CARD IS WHAT COUNTS. Prove the row's statement (the work); the ties are given (YtknfphgncoojeaaDoorTie.lean); close each card by the builder's one call (the guide's Derived/Test/ToyasCard.lean, 'card_holds'). Laid BY PROGRAM, IN A SANDBOX (cutbox-door.mjs). By AI agents, Wed Nov 11 2026. No macro, syntax, notation, axiom, sorry.
-/
import Derived.Test.YtknfphgncoojeaaDoorRows
import GoSem.ClaimSeven
namespace Go.Proofs.YtknfphgncoojeaaDoor
namespace Rows

/-- THE TIED CARD OF 'tandemlaw4.IsaEncodes'. -/
def isaEncodesCard : Claim7 := { stood := { row := isaEncodesRow, standIns := [], harness := (true, "8ddffb1ba74ba6ad8fe0588b6d134ea24210855f3d779d1dc112afc720f6d6df"), looks := false }, kinds := [], alts := [], laidByText := true, laidKinds := [.data, .data], laidTests := true, laidLooks := .later }
def IsaEncodesCardSaid : Prop := Claim7.holds Tryd.pinned (.plain (OpenSpec.ofChange isaEncodesSpec)) isaEncodesCard

/-- THE TIED CARD OF 'tandemlaw4.IsaShapes'. -/
def isaShapesCard : Claim7 := { stood := { row := isaShapesRow, standIns := [], harness := (true, "8ddffb1ba74ba6ad8fe0588b6d134ea24210855f3d779d1dc112afc720f6d6df"), looks := false }, kinds := [], alts := [], laidByText := true, laidKinds := [.data, .data], laidTests := true, laidLooks := .later }
def IsaShapesCardSaid : Prop := Claim7.holds Tryd.pinned (.plain (OpenSpec.ofChange isaShapesSpec)) isaShapesCard

/-- THE TIED CARD OF 'tandemlaw4.IsaBus'. -/
def isaBusCard : Claim7 := { stood := { row := isaBusRow, standIns := [], harness := (true, "8ddffb1ba74ba6ad8fe0588b6d134ea24210855f3d779d1dc112afc720f6d6df"), looks := false }, kinds := [], alts := [], laidByText := true, laidKinds := [.data, .data], laidTests := true, laidLooks := .later }
def IsaBusCardSaid : Prop := Claim7.holds Tryd.pinned (.plain (OpenSpec.ofChange isaBusSpec)) isaBusCard

/-- THE TIED CARD OF 'tandemlaw4.IsaDecodes'. -/
def isaDecodesCard : Claim7 := { stood := { row := isaDecodesRow, standIns := [], harness := (true, "8ddffb1ba74ba6ad8fe0588b6d134ea24210855f3d779d1dc112afc720f6d6df"), looks := false }, kinds := [], alts := [], laidByText := true, laidKinds := [.data, .data, .data, .data], laidTests := true, laidLooks := .later }
def IsaDecodesCardSaid : Prop := Claim7.holds Tryd.pinned (.plain (OpenSpec.ofChange isaDecodesSpec)) isaDecodesCard

/-- THE TIED CARD OF 'tandemlaw4.IsaCounts'. -/
def isaCountsCard : Claim7 := { stood := { row := isaCountsRow, standIns := [], harness := (true, "8ddffb1ba74ba6ad8fe0588b6d134ea24210855f3d779d1dc112afc720f6d6df"), looks := false }, kinds := [], alts := [], laidByText := true, laidKinds := [.data, .data], laidTests := true, laidLooks := .later }
def IsaCountsCardSaid : Prop := Claim7.holds Tryd.pinned (.plain (OpenSpec.ofChange isaCountsSpec)) isaCountsCard

/-- THE TIED CARD OF 'tandemlaw4.IsaReads'. -/
def isaReadsCard : Claim7 := { stood := { row := isaReadsRow, standIns := [], harness := (true, "8ddffb1ba74ba6ad8fe0588b6d134ea24210855f3d779d1dc112afc720f6d6df"), looks := false }, kinds := [], alts := [], laidByText := true, laidKinds := [.data, .data, .data, .data, .data], laidTests := true, laidLooks := .later }
def IsaReadsCardSaid : Prop := Claim7.holds Tryd.pinned (.plain (OpenSpec.ofChange isaReadsSpec)) isaReadsCard

/-- THE TIED CARD OF 'tandemlaw4.IsaLines'. -/
def isaLinesCard : Claim7 := { stood := { row := isaLinesRow, standIns := [], harness := (true, "8ddffb1ba74ba6ad8fe0588b6d134ea24210855f3d779d1dc112afc720f6d6df"), looks := false }, kinds := [], alts := [], laidByText := true, laidKinds := [.data, .data, .data, .data, .data], laidTests := true, laidLooks := .later }
def IsaLinesCardSaid : Prop := Claim7.holds Tryd.pinned (.plain (OpenSpec.ofChange isaLinesSpec)) isaLinesCard

/-- THE TIED CARD OF 'tandemlaw4.IsaBack'. -/
def isaBackCard : Claim7 := { stood := { row := isaBackRow, standIns := [], harness := (true, "8ddffb1ba74ba6ad8fe0588b6d134ea24210855f3d779d1dc112afc720f6d6df"), looks := false }, kinds := [], alts := [], laidByText := true, laidKinds := [.data, .data, .data], laidTests := true, laidLooks := .later }
def IsaBackCardSaid : Prop := Claim7.holds Tryd.pinned (.plain (OpenSpec.ofChange isaBackSpec)) isaBackCard

/-- THE TIED CARD OF 'tandemlaw4.IsaOwn'. -/
def isaOwnCard : Claim7 := { stood := { row := isaOwnRow, standIns := [], harness := (true, "8ddffb1ba74ba6ad8fe0588b6d134ea24210855f3d779d1dc112afc720f6d6df"), looks := false }, kinds := [], alts := [], laidByText := true, laidKinds := [.data, .data, .data], laidTests := true, laidLooks := .later }
def IsaOwnCardSaid : Prop := Claim7.holds Tryd.pinned (.plain (OpenSpec.ofChange isaOwnSpec)) isaOwnCard

/-- THE TIED CARD OF 'tandemlaw4.IsaCut'. -/
def isaCutCard : Claim7 := { stood := { row := isaCutRow, standIns := [], harness := (true, "8ddffb1ba74ba6ad8fe0588b6d134ea24210855f3d779d1dc112afc720f6d6df"), looks := false }, kinds := [], alts := [], laidByText := true, laidKinds := [.data, .data, .data], laidTests := true, laidLooks := .later }
def IsaCutCardSaid : Prop := Claim7.holds Tryd.pinned (.plain (OpenSpec.ofChange isaCutSpec)) isaCutCard

/-- THE SECOND FORM's CARD OF 'tandemlaw4.IsaEncodes'. -/
def isaEncodesUptoCard : Claim7 := { stood := { row := isaEncodesUptoRow, standIns := [], harness := (true, "8ddffb1ba74ba6ad8fe0588b6d134ea24210855f3d779d1dc112afc720f6d6df"), looks := false }, kinds := [], alts := [], laidByText := true, laidKinds := [.data, .data], laidTests := true, laidLooks := .later }
def IsaEncodesUptoCardSaid : Prop := Claim7.holds Tryd.pinned (.plain (OpenSpec.upto isaEncodesSpec)) isaEncodesUptoCard

/-- THE SECOND FORM's CARD OF 'tandemlaw4.IsaShapes'. -/
def isaShapesUptoCard : Claim7 := { stood := { row := isaShapesUptoRow, standIns := [], harness := (true, "8ddffb1ba74ba6ad8fe0588b6d134ea24210855f3d779d1dc112afc720f6d6df"), looks := false }, kinds := [], alts := [], laidByText := true, laidKinds := [.data, .data], laidTests := true, laidLooks := .later }
def IsaShapesUptoCardSaid : Prop := Claim7.holds Tryd.pinned (.plain (OpenSpec.upto isaShapesSpec)) isaShapesUptoCard

/-- THE SECOND FORM's CARD OF 'tandemlaw4.IsaBus'. -/
def isaBusUptoCard : Claim7 := { stood := { row := isaBusUptoRow, standIns := [], harness := (true, "8ddffb1ba74ba6ad8fe0588b6d134ea24210855f3d779d1dc112afc720f6d6df"), looks := false }, kinds := [], alts := [], laidByText := true, laidKinds := [.data, .data], laidTests := true, laidLooks := .later }
def IsaBusUptoCardSaid : Prop := Claim7.holds Tryd.pinned (.plain (OpenSpec.upto isaBusSpec)) isaBusUptoCard

/-- THE SECOND FORM's CARD OF 'tandemlaw4.IsaDecodes'. -/
def isaDecodesUptoCard : Claim7 := { stood := { row := isaDecodesUptoRow, standIns := [], harness := (true, "8ddffb1ba74ba6ad8fe0588b6d134ea24210855f3d779d1dc112afc720f6d6df"), looks := false }, kinds := [], alts := [], laidByText := true, laidKinds := [.data, .data, .data, .data], laidTests := true, laidLooks := .later }
def IsaDecodesUptoCardSaid : Prop := Claim7.holds Tryd.pinned (.plain (OpenSpec.upto isaDecodesSpec)) isaDecodesUptoCard

/-- THE SECOND FORM's CARD OF 'tandemlaw4.IsaCounts'. -/
def isaCountsUptoCard : Claim7 := { stood := { row := isaCountsUptoRow, standIns := [], harness := (true, "8ddffb1ba74ba6ad8fe0588b6d134ea24210855f3d779d1dc112afc720f6d6df"), looks := false }, kinds := [], alts := [], laidByText := true, laidKinds := [.data, .data], laidTests := true, laidLooks := .later }
def IsaCountsUptoCardSaid : Prop := Claim7.holds Tryd.pinned (.plain (OpenSpec.upto isaCountsSpec)) isaCountsUptoCard

/-- THE SECOND FORM's CARD OF 'tandemlaw4.IsaReads'. -/
def isaReadsUptoCard : Claim7 := { stood := { row := isaReadsUptoRow, standIns := [], harness := (true, "8ddffb1ba74ba6ad8fe0588b6d134ea24210855f3d779d1dc112afc720f6d6df"), looks := false }, kinds := [], alts := [], laidByText := true, laidKinds := [.data, .data, .data, .data, .data], laidTests := true, laidLooks := .later }
def IsaReadsUptoCardSaid : Prop := Claim7.holds Tryd.pinned (.plain (OpenSpec.upto isaReadsSpec)) isaReadsUptoCard

/-- THE SECOND FORM's CARD OF 'tandemlaw4.IsaLines'. -/
def isaLinesUptoCard : Claim7 := { stood := { row := isaLinesUptoRow, standIns := [], harness := (true, "8ddffb1ba74ba6ad8fe0588b6d134ea24210855f3d779d1dc112afc720f6d6df"), looks := false }, kinds := [], alts := [], laidByText := true, laidKinds := [.data, .data, .data, .data, .data], laidTests := true, laidLooks := .later }
def IsaLinesUptoCardSaid : Prop := Claim7.holds Tryd.pinned (.plain (OpenSpec.upto isaLinesSpec)) isaLinesUptoCard

/-- THE SECOND FORM's CARD OF 'tandemlaw4.IsaBack'. -/
def isaBackUptoCard : Claim7 := { stood := { row := isaBackUptoRow, standIns := [], harness := (true, "8ddffb1ba74ba6ad8fe0588b6d134ea24210855f3d779d1dc112afc720f6d6df"), looks := false }, kinds := [], alts := [], laidByText := true, laidKinds := [.data, .data, .data], laidTests := true, laidLooks := .later }
def IsaBackUptoCardSaid : Prop := Claim7.holds Tryd.pinned (.plain (OpenSpec.upto isaBackSpec)) isaBackUptoCard

/-- THE SECOND FORM's CARD OF 'tandemlaw4.IsaOwn'. -/
def isaOwnUptoCard : Claim7 := { stood := { row := isaOwnUptoRow, standIns := [], harness := (true, "8ddffb1ba74ba6ad8fe0588b6d134ea24210855f3d779d1dc112afc720f6d6df"), looks := false }, kinds := [], alts := [], laidByText := true, laidKinds := [.data, .data, .data], laidTests := true, laidLooks := .later }
def IsaOwnUptoCardSaid : Prop := Claim7.holds Tryd.pinned (.plain (OpenSpec.upto isaOwnSpec)) isaOwnUptoCard

/-- THE SECOND FORM's CARD OF 'tandemlaw4.IsaCut'. -/
def isaCutUptoCard : Claim7 := { stood := { row := isaCutUptoRow, standIns := [], harness := (true, "8ddffb1ba74ba6ad8fe0588b6d134ea24210855f3d779d1dc112afc720f6d6df"), looks := false }, kinds := [], alts := [], laidByText := true, laidKinds := [.data, .data, .data], laidTests := true, laidLooks := .later }
def IsaCutUptoCardSaid : Prop := Claim7.holds Tryd.pinned (.plain (OpenSpec.upto isaCutSpec)) isaCutUptoCard
end Rows
end Go.Proofs.YtknfphgncoojeaaDoor

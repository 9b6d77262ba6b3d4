/- The variables of package isa and of tandemref4: from the listed data to rows of cells. -/
import Derived.Test.YtknfphgncoojeaaDoorLaid
import Derived.Test.YtknfphgncoojeaaDoorIsaEnc
import Derived.Test.YtknfphgncoojeaaDoorRefTab
namespace Go.Proofs.YtknfphgncoojeaaDoor
theorem fill_laid {l : List (String × DataW Unit)} {W : World} (h : laidMetH Tryd.prog l W) (hp : (l.all fun x => x.2.handleName?.isNone) = true) (hm : ("tandem/isa.fillers", Rows.laid_tandem_isa_fillers) ∈ l) :
    ∃ T fr, W.heap[3]? = some (.cells fillA T fr) := by
  rw [MakeChecks.laidMetH_plain _ _ _ hp] at h
  obtain ⟨ps, hv, _, _⟩ := h
  obtain ⟨g, t, cs, fuel, p, h1, h2, h3, h4⟩ := laid_at hv hm
  obtain rfl := Option.some.inj ((show Tryd.prog.globalNamed "tandem/isa.fillers" = some 3 by kernel_rfl).symm.trans h1)
  obtain rfl := Option.some.inj ((show (Tryd.prog.globals[3]?).map (·.type) = some 100 by kernel_rfl).symm.trans h2)
  have hc := Lib.cells_of_tab (k := .u8) (zs := [139, 147, 155, 156, 158, 159, 171]) Tryd.underlying100 Tryd.underlying5 (by kernel_rfl) (by kernel_rfl) h4
  obtain ⟨T, fr, hr⟩ := row_of_var h1 h3
  refine ⟨T, fr, hr.trans ?_⟩
  rw [show cs = fillA from by apply Array.toList_inj.1; rw [hc]; rfl]
theorem letters_laid {l : List (String × DataW Unit)} {W : World} (h : laidMetH Tryd.prog l W) (hp : (l.all fun x => x.2.handleName?.isNone) = true) (hm : ("tandem/tandemref4.letters", Rows.laid_tandem_tandemref4_letters) ∈ l) :
    ∃ T fr, W.heap[4]? = some (.cells lettersA T fr) := by
  rw [MakeChecks.laidMetH_plain _ _ _ hp] at h
  obtain ⟨ps, hv, _, _⟩ := h
  obtain ⟨g, t, cs, fuel, p, h1, h2, h3, h4⟩ := laid_at hv hm
  obtain rfl := Option.some.inj ((show Tryd.prog.globalNamed "tandem/tandemref4.letters" = some 4 by kernel_rfl).symm.trans h1)
  obtain rfl := Option.some.inj ((show (Tryd.prog.globals[4]?).map (·.type) = some 94 by kernel_rfl).symm.trans h2)
  have hc := cells_of_strs (ss := [[], [97], [105], [122], [122, 120], [122, 121], [105, 120], [105, 121], [119], [119, 120], [119, 121], [110], [114]]) Tryd.underlying94 Tryd.underlying9 (by kernel_rfl) (by kernel_rfl) h4
  obtain ⟨T, fr, hr⟩ := row_of_var h1 h3
  refine ⟨T, fr, hr.trans ?_⟩
  rw [show cs = lettersA from by apply Array.toList_inj.1; rw [hc]; rfl]
end Go.Proofs.YtknfphgncoojeaaDoor

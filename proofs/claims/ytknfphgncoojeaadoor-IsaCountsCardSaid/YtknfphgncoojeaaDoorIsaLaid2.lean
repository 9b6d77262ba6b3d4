/- The variables that IsaDecodes reads besides: lengths, flags. -/
import Derived.Test.YtknfphgncoojeaaDoorIsaLaid
import Derived.Test.YtknfphgncoojeaaDoorIsaDecLaw
namespace Go.Proofs.YtknfphgncoojeaaDoor
theorem len_laid {l : List (String × DataW Unit)} {W : World} (h : laidMetH Tryd.prog l W) (hp : (l.all fun x => x.2.handleName?.isNone) = true) (hm : ("tandem/isa.lengths", Rows.laid_tandem_isa_lengths) ∈ l) :
    ∃ T fr, W.heap[0]? = some (.cells lenA T fr) := by
  rw [MakeChecks.laidMetH_plain _ _ _ hp] at h
  obtain ⟨ps, hv, _, _⟩ := h
  obtain ⟨g, t, cs, fuel, p, h1, h2, h3, h4⟩ := laid_at hv hm
  obtain rfl := Option.some.inj ((show Tryd.prog.globalNamed "tandem/isa.lengths" = some 0 by kernel_rfl).symm.trans h1)
  obtain rfl := Option.some.inj ((show (Tryd.prog.globals[0]?).map (·.type) = some 44 by kernel_rfl).symm.trans h2)
  have hc := Lib.cells_of_tab (k := .i64) (zs := [1, 1, 2, 2, 2, 2, 2, 2, 3, 3, 3, 3, 2]) Tryd.underlying44 Tryd.underlying3 (by kernel_rfl) (by kernel_rfl) h4
  obtain ⟨T, fr, hr⟩ := row_of_var h1 h3
  refine ⟨T, fr, hr.trans ?_⟩
  rw [show cs = lenA from by apply Array.toList_inj.1; rw [hc]; rfl]
theorem flags_laid {l : List (String × DataW Unit)} {W : World} (h : laidMetH Tryd.prog l W) (hp : (l.all fun x => x.2.handleName?.isNone) = true) (hm : ("tandem/alu.flags", Rows.laid_tandem_alu_flags) ∈ l) :
    ∃ T fr, W.heap[5]? = some (.cells flagA T fr) := by
  rw [MakeChecks.laidMetH_plain _ _ _ hp] at h
  obtain ⟨ps, hv, _, _⟩ := h
  obtain ⟨g, t, cs, fuel, p, h1, h2, h3, h4⟩ := laid_at hv hm
  obtain rfl := Option.some.inj ((show Tryd.prog.globalNamed "tandem/alu.flags" = some 5 by kernel_rfl).symm.trans h1)
  obtain rfl := Option.some.inj ((show (Tryd.prog.globals[5]?).map (·.type) = some 108 by kernel_rfl).symm.trans h2)
  have hc := cells_of_pairs (k := .u8) (ps := flagL) Tryd.underlying108 Tryd.underlying107 Tryd.underlying5 (by kernel_rfl) (by kernel_rfl) (by kernel_rfl) h4
  obtain ⟨T, fr, hr⟩ := row_of_var h1 h3
  refine ⟨T, fr, hr.trans ?_⟩
  rw [show cs = flagA from by apply Array.toList_inj.1; rw [hc]; rfl]
end Go.Proofs.YtknfphgncoojeaaDoor

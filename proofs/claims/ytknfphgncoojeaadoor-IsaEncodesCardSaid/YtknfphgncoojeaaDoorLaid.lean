/- From 'the listed variables read as listed' to the rows of cells that the walks ask. -/
import Derived.Test.YtknfphgncoojeaaDoorRows
import Derived.Lib.LaidTab
import Derived.OpenShut
import Derived.LaidMore
import Derived.MakeChecks
namespace Go.Proofs.YtknfphgncoojeaaDoor
theorem row_of_var {P : Program} {w : World} {n : String} {g : Nat} {cs : Array Value} (hg : P.globalNamed n = some g) (h : w.var? P n = some cs) : ∃ T fr, w.heap[g]? = some (.cells cs T fr) := by
  simp only [World.var?, hg, Option.bind_some] at h
  split at h
  · rename_i cs' T fr he
    cases h
    exact ⟨T, fr, he⟩
  · cases h
theorem laid_at {P : Program} {W : World} {n : String} {d : DataW Unit} : ∀ {l : List (String × DataW Unit)} {ps : List MemPlace}, DataW.LaidVars P W l ps → (n, d) ∈ l →
    ∃ g t cs fuel p, P.globalNamed n = some g ∧ (P.globals[g]?).map (·.type) = some t ∧ W.var? P n = some cs ∧ DataW.trod (fun _ => ()) P W 0 (fun _ => true) false fuel t cs.toList = some (d, p)
  | [], _, _, hm => by cases hm
  | x :: r, ps, h, hm => by
    obtain ⟨g, t, cs, fuel, p, q, h1, h2, h3, h4, h5, _⟩ := h
    cases hm with
    | head => exact ⟨g, t, cs, fuel, p, h1, h2, h3, h4⟩
    | tail _ hm' => exact laid_at h5 hm'
theorem cells_of_strs {H : Type} {enc : TypeId × Value → H} {P : Program} {w : World} {base : Nat} {sp : Nat → Bool} {held : Bool} {fuel : Nat} {t e : TypeId} {n : Nat} {cs : List Value} {ss : List (List UInt8)} {p : List MemPlace}
    (ht : P.underlying t = some (.array n e)) (he : P.underlying e = some .string) (hce : P.cellsOf e = 1) (hct : P.cellsOf t = n)
    (h : DataW.trod enc P w base sp held fuel t cs = some (.agg (ss.map fun s => .lit (.string s)), p)) : cs = ss.map fun s => Value.string ⟨s.toArray⟩ := by
  obtain ⟨xs, m, rfl, hx, hl, hxl, hat⟩ := DataW.trod_array ht h
  rw [hct] at hl
  rw [hce] at hat
  have hxs : xs.map (·.1) = ss.map fun s => (DataW.lit (.string s) : DataW H) := by
    have := congrArg Prod.fst hx
    simpa using this.symm
  apply List.ext_getElem?
  intro i
  have hsl : ss.length = n := by
    have := congrArg List.length hxs
    simp at this
    omega
  by_cases hi : i < n
  · have hat' := hat i hi
    rw [List.getElem?_eq_getElem (by omega)] at hat'
    obtain ⟨s, hc, hv, _⟩ := DataW.trod_string he hat'
    have h1 : cs[i]? = some (.string s) := by
      have := congrArg (·[0]?) hc
      simpa [List.getElem?_take, List.getElem?_drop] using this
    have h2 : (xs.map (·.1))[i]? = some (DataW.lit (.string s.data.toList) : DataW H) := by
      rw [List.getElem?_map, List.getElem?_eq_getElem (by omega), Option.map_some, hv]
    rw [hxs, List.getElem?_map] at h2
    rw [h1, List.getElem?_map]
    cases hq : ss[i]? with
    | none => rw [hq] at h2; cases h2
    | some z =>
      rw [hq] at h2
      simp only [Option.map_some, Option.some.injEq, DataW.lit.injEq, Lit.string.injEq] at h2
      subst h2
      simp
  · rw [List.getElem?_eq_none (by omega), List.getElem?_eq_none (by simp; omega)]
end Go.Proofs.YtknfphgncoojeaaDoor

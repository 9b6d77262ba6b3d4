/- From 'the listed variables read as listed' to the rows of cells that the walks ask. -/
import Derived.Test.YtknfphgncoojeaaDoorRows
import Derived.Lib.LaidTab
import Derived.OpenShut
import Derived.LaidMore
import Derived.MakeChecks
namespace Go.Proofs.YtknfphgncoojeaaDoor
theorem row_of_var {P : Program} {w : World} {n : String} {g : Nat} {cs : Array Value} (hg : P.globalNamed n = some g) (h : w.var? P n = some cs) : ∃ T fr, w.heap[g]? = some (.cells cs T fr) := by
  simp only [World.var?, hg, Option.bind_some] at h
  split at h
  · rename_i cs' T fr he
    cases h
    exact ⟨T, fr, he⟩
  · cases h
theorem laid_at {P : Program} {W : World} {n : String} {d : DataW Unit} : ∀ {l : List (String × DataW Unit)} {ps : List MemPlace}, DataW.LaidVars P W l ps → (n, d) ∈ l →
    ∃ g t cs fuel p, P.globalNamed n = some g ∧ (P.globals[g]?).map (·.type) = some t ∧ W.var? P n = some cs ∧ DataW.trod (fun _ => ()) P W 0 (fun _ => true) false fuel t cs.toList = some (d, p)
  | [], _, _, hm => by cases hm
  | x :: r, ps, h, hm => by
    obtain ⟨g, t, cs, fuel, p, q, h1, h2, h3, h4, h5, _⟩ := h
    cases hm with
    | head => exact ⟨g, t, cs, fuel, p, h1, h2, h3, h4⟩
    | tail _ hm' => exact laid_at h5 hm'
theorem cells_of_strs {H : Type} {enc : TypeId × Value → H} {P : Program} {w : World} {base : Nat} {sp : Nat → Bool} {held : Bool} {fuel : Nat} {t e : TypeId} {n : Nat} {cs : List Value} {ss : List (List UInt8)} {p : List MemPlace}
    (ht : P.underlying t = some (.array n e)) (he : P.underlying e = some .string) (hce : P.cellsOf e = 1) (hct : P.cellsOf t = n)
    (h : DataW.trod enc P w base sp held fuel t cs = some (.agg (ss.map fun s => .lit (.string s)), p)) : cs = ss.map fun s => Value.string ⟨s.toArray⟩ := by
  obtain ⟨xs, m, rfl, hx, hl, hxl, hat⟩ := DataW.trod_array ht h
  rw [hct] at hl
  rw [hce] at hat
  have hxs : xs.map (·.1) = ss.map fun s => (DataW.lit (.string s) : DataW H) := by
    have := congrArg Prod.fst hx
    simpa using this.symm
  apply List.ext_getElem?
  intro i
  have hsl : ss.length = n := by
    have := congrArg List.length hxs
    simp at this
    omega
  by_cases hi : i < n
  · have hat' := hat i hi
    rw [List.getElem?_eq_getElem (by omega)] at hat'
    obtain ⟨s, hc, hv, _⟩ := DataW.trod_string he hat'
    have h1 : cs[i]? = some (.string s) := by
      have := congrArg (·[0]?) hc
      simpa [List.getElem?_take, List.getElem?_drop] using this
    have h2 : (xs.map (·.1))[i]? = some (DataW.lit (.string s.data.toList) : DataW H) := by
      rw [List.getElem?_map, List.getElem?_eq_getElem (by omega), Option.map_some, hv]
    rw [hxs, List.getElem?_map] at h2
    rw [h1, List.getElem?_map]
    cases hq : ss[i]? with
    | none => rw [hq] at h2; cases h2
    | some z =>
      rw [hq] at h2
      simp only [Option.map_some, Option.some.injEq, DataW.lit.injEq, Lit.string.injEq] at h2
      subst h2
      simp
  · rw [List.getElem?_eq_none (by omega), List.getElem?_eq_none (by simp; omega)]
theorem chunks {α : Type} (f : α → List Value) (hf : ∀ x, (f x).length = 2) : ∀ (ps : List α) (cs : List Value), cs.length = ps.length * 2 → (∀ i (h : i < ps.length), (cs.drop (i * 2)).take 2 = f ps[i]) → cs = ps.flatMap f
  | [], cs, hl, _ => by simp at hl; simp [hl]
  | x :: ps, cs, hl, h => by
    have h0 := h 0 (by simp)
    simp only [Nat.zero_mul, List.drop_zero, List.getElem_cons_zero] at h0
    have ih := chunks f hf ps (cs.drop 2) (by simp at hl ⊢; omega) (fun i hi => by
      have := h (i + 1) (by simp; omega)
      rw [show (i + 1) * 2 = 2 + i * 2 from by omega] at this
      simpa [List.drop_drop] using this)
    rw [List.flatMap_cons, ← ih, ← h0]
    exact (List.take_append_drop 2 cs).symm
theorem cells_of_pairs {H : Type} {enc : TypeId × Value → H} {P : Program} {w : World} {base : Nat} {sp : Nat → Bool} {held : Bool} {fuel : Nat} {t e u : TypeId} {n : Nat} {k : IntKind} {cs : List Value} {ps : List (Nat × Nat)} {q : List MemPlace}
    (ht : P.underlying t = some (.array n e)) (he : P.underlying e = some (.array 2 u)) (hu : P.underlying u = some (.int k)) (hcu : P.cellsOf u = 1) (hce : P.cellsOf e = 2) (hct : P.cellsOf t = n * 2)
    (h : DataW.trod enc P w base sp held fuel t cs = some (.agg (ps.map fun p => .agg [.lit (.int k (p.1 : Int)), .lit (.int k (p.2 : Int))]), q)) : cs = ps.flatMap fun p => [Value.int k (p.1 : Int), Value.int k (p.2 : Int)] := by
  obtain ⟨xs, m, rfl, hx, hl, hxl, hat⟩ := DataW.trod_array ht h
  rw [hct] at hl
  rw [hce] at hat
  have hxs : xs.map (·.1) = ps.map fun p => (DataW.agg [.lit (.int k (p.1 : Int)), .lit (.int k (p.2 : Int))] : DataW H) := by
    have := congrArg Prod.fst hx
    simpa using this.symm
  have hpl : ps.length = n := by
    have := congrArg List.length hxs
    simp at this
    omega
  refine chunks (fun p : Nat × Nat => [Value.int k (p.1 : Int), Value.int k (p.2 : Int)]) (fun _ => rfl) ps cs (by omega) (fun i hi => ?_)
  have hat' := hat i (by omega)
  rw [List.getElem?_eq_getElem (by omega)] at hat'
  have h2 : (xs.map (·.1))[i]? = some (xs[i]'(by omega)).1 := by rw [List.getElem?_map, List.getElem?_eq_getElem (by omega), Option.map_some]
  rw [hxs, List.getElem?_map, List.getElem?_eq_getElem hi, Option.map_some] at h2
  have h3 := Option.some.inj h2
  obtain ⟨d, hd⟩ : ∃ d, (xs[i]'(by omega)) = d := ⟨_, rfl⟩
  rw [hd] at hat' h3
  obtain ⟨d1, d2⟩ := d
  subst h3
  exact Lib.cells_of_tab (k := k) (zs := [((ps[i]).1 : Int), ((ps[i]).2 : Int)]) he hu hcu hce hat'
end Go.Proofs.YtknfphgncoojeaaDoor

/- From a row's reading of a slice of bytes to what the walks ask. -/
import Derived.Test.YthbommecihnndaaProg
import Derived.WalkKit
namespace Go.Proofs.Ythbommecihnndaa
open Go.RowKit
theorem bytes_row {A : Option Addr} {len cap : Nat} {zs : List Int} {w : World}
    (h : (A = none ∧ len = 0 ∧ cap = 0 ∧ zs = []) ∨ ∃ x, A = some x ∧ len ≤ cap ∧ cap ≤ maxLen ∧ zs.length = cap ∧ (∀ i, i < zs.length → w.cell? (x.add i) = some (.int .u8 (zs.getD i 0))) ∧ ∀ n ∈ zs, (Lit.int .u8 n).wf = true) :
    len ≤ zs.length ∧ (∀ x ∈ zs, 0 ≤ x ∧ x < 256) ∧ (∀ k, k < len → ∃ ad, A = some ad ∧ w.cell? (ad.add k) = some (.int .u8 (zs.getD k 0))) := by
  have hmin : IntKind.u8.min = 0 := rfl
  have hmax : IntKind.u8.max = 255 := rfl
  simp only [Lit.wf, Bool.and_eq_true, decide_eq_true_eq] at h
  rcases h with ⟨rfl, rfl, rfl, rfl⟩ | ⟨x, rfl, hl, _, hz, hc, hb⟩
  · exact ⟨by simp, by simp, fun k hk => by omega⟩
  · exact ⟨by omega, fun n hn => by have := hb n hn; omega, fun k hk => ⟨x, rfl, hc k (by omega)⟩⟩
theorem u8_bounds {a : Int} (h : (Lit.int .u8 a).wf = true) : 0 ≤ a ∧ a < 256 := by
  have hmin : IntKind.u8.min = 0 := rfl
  have hmax : IntKind.u8.max = 255 := rfl
  simp only [Lit.wf, Bool.and_eq_true, decide_eq_true_eq] at h
  omega
end Go.Proofs.Ythbommecihnndaa

/- The arguments of PadsPort, opened to cells. -/
import Derived.Test.YthbommecihnndaaProg
import Derived.WalkKit
import Derived.ProofKit
import Derived.OpenShut
import Derived.Deep.Slices
import Derived.SizedLaws
import Derived.KernelRfl
namespace Go.Proofs.Ythbommecihnndaa
open Go.RowKit Go.ChangeShapes Go.WideShapes Go.Deep

section
variable {H : Type} {enc : TypeId × Value → H} {W : World} {base : Nat} {spare : Nat → Bool} {held : Bool}
theorem open_byte {n : Nat} {c : Value} {x : DataW H × List MemPlace} (h : DataW.trod enc Try.prog W base spare held n 5 [c] = some x) : ∃ a : Int, c = .int .u8 a ∧ 0 ≤ a ∧ a < 256 := by
  obtain ⟨a, e1, _, wa⟩ := DataW.trod_int Try.underlying5 h
  have hmin : IntKind.u8.min = 0 := rfl
  have hmax : IntKind.u8.max = 255 := rfl
  simp only [Lit.wf, Bool.and_eq_true, decide_eq_true_eq] at wa
  simp at e1
  exact ⟨a, e1, by omega, by omega⟩
theorem open_two {n : Nat} {c d : Value} {x : DataW H × List MemPlace} (h : DataW.trod enc Try.prog W base spare held n 22 [c, d] = some x) :
    ∃ a b : Int, c = .int .u8 a ∧ d = .int .u8 b ∧ (0 ≤ a ∧ a < 256) ∧ (0 ≤ b ∧ b < 256) := by
  obtain ⟨xs, m, _, _, _, hl, hel⟩ := DataW.trod_array Try.underlying22 h
  have c5 : Try.prog.cellsOf 5 = 1 := by kernel_rfl
  match xs, hl with
  | [x0, x1], _ =>
    have h0 := hel 0 (by decide)
    have h1 := hel 1 (by decide)
    simp [c5] at h0 h1
    obtain ⟨a, rfl, ha⟩ := open_byte (show DataW.trod enc Try.prog W base spare held m 5 [c] = some x0 from h0)
    obtain ⟨b, rfl, hb⟩ := open_byte (show DataW.trod enc Try.prog W base spare held m 5 [d] = some x1 from h1)
    exact ⟨a, b, rfl, rfl, ha, hb⟩
theorem open_pads {r : Reach} {b0 : Nat} {v : Value} {d : DataW H} {p : List MemPlace} (hv : Value.okWide Try.prog W r b0 24 v) (h : DataW.Trod enc Try.prog W base spare held 24 v d p) :
    ∃ (s : Bool) (h0 h1 t0 t1 : Int), v = .agg #[.bool s, .int .u8 h0, .int .u8 h1, .int .u8 t0, .int .u8 t1] ∧ (0 ≤ h0 ∧ h0 < 256) ∧ (0 ≤ h1 ∧ h1 < 256) ∧ (0 ≤ t0 ∧ t0 < 256) ∧ (0 ≤ t1 ∧ t1 < 256) := by
  have hC : Try.prog.cellsOf 24 = 5 := by kernel_rfl
  obtain ⟨cs, rfl, hsz⟩ := okWide_struct Try.underlying24 hv
  obtain ⟨l⟩ := cs
  match l, hsz.trans hC with
  | [c0, c1, c2, c3, c4], _ =>
    obtain ⟨fuel, hf⟩ := h
    obtain ⟨xs, n, _, _, _, hlen, hg⟩ := DataW.trod_struct Try.underlying24 hf
    have k4 : Try.prog.cellsOf 4 = 1 := by kernel_rfl
    have k22 : Try.prog.cellsOf 22 = 2 := by kernel_rfl
    match xs, hlen with
    | [y0, y1, y2], _ =>
      have g0 := hg 0 _ rfl
      have g1 := hg 1 _ rfl
      have g2 := hg 2 _ rfl
      simp [k4, k22, Value.cells] at g0 g1 g2
      obtain ⟨s, e0, _⟩ := DataW.trod_bool Try.underlying4 (show DataW.trod enc Try.prog W base spare held n 4 [c0] = some y0 from g0)
      obtain ⟨a, b, rfl, rfl, ha, hb⟩ := open_two (show DataW.trod enc Try.prog W base spare held n 22 [c1, c2] = some y1 from g1)
      obtain ⟨a', b', rfl, rfl, ha', hb'⟩ := open_two (show DataW.trod enc Try.prog W base spare held n 22 [c3, c4] = some y2 from g2)
      simp at e0
      exact ⟨s, a, b, a', b', by rw [e0], ha, hb, ha', hb'⟩
theorem open_moves {A : Option Addr} {len cap : Nat} {d : DataW H} {p : List MemPlace} {ts : List TypeId} {ds : List (DataW H)} {j : Nat} (hsz : (DataW.weightsEach Try.prog ts ds).all (· ≤ reachBytes) = true) (ht : ts[j]? = some 25) (hd : ds[j]? = some d)
    (h : DataW.Trod enc Try.prog W 0 (fun _ => true) true 25 (.slice A len cap) d p) :
    len ≤ 140737488351232 ∧ ∀ k, k < len → ∃ ad kd a b pt, A = some ad ∧ W.cell? (ad.add (k * 4)) = some (.int .i64 kd) ∧ W.cell? ⟨(ad.add (k * 4)).block, (ad.add (k * 4)).off + 1, none⟩ = some (.int .u8 a) ∧ W.cell? ⟨(ad.add (k * 4)).block, (ad.add (k * 4)).off + 2, none⟩ = some (.int .u8 b) ∧ W.cell? ⟨(ad.add (k * 4)).block, (ad.add (k * 4)).off + 3, none⟩ = some (.int .i64 pt) ∧ (0 ≤ a ∧ a < 256) ∧ (0 ≤ b ∧ b < 256) := by
  have k27 : Try.prog.cellsOf 27 = 4 := by kernel_rfl
  have k3 : Try.prog.cellsOf 3 = 1 := by kernel_rfl
  have k5 : Try.prog.cellsOf 5 = 1 := by kernel_rfl
  obtain ⟨fuel, hf⟩ := h
  rcases open_slice Try.underlying25 hf with ⟨hcs, _⟩ | ⟨a, l, c, m, n, D, Pl, hcs, _, hl, _, hm, hx, hi⟩
  · simp [Value.cells] at hcs
    obtain ⟨rfl, rfl, rfl⟩ := hcs
    exact ⟨by omega, fun k hk => by omega⟩
  · simp [Value.cells] at hcs
    obtain ⟨rfl, rfl, rfl⟩ := hcs
    obtain ⟨hx, _⟩ := Prod.mk.inj hx
    subst hx
    have z := sized_slice hsz ht hd Try.underlying25
    have b24 : Try.prog.bytesOf 27 = 24 := by kernel_rfl
    rw [b24] at z
    simp only [List.length_map, List.length_range, reachBytes] at z
    refine ⟨by omega, fun k hk => ?_⟩
    obtain ⟨cs', hc, ht'⟩ := hi k (by rw [hm]; simp; omega)
    rw [k27] at hc
    obtain ⟨ys, n', _, _, hlen, hyl, hfl⟩ := DataW.trod_struct Try.underlying27 ht'
    obtain ⟨_, hcl, hat⟩ := World.cells?_some hc
    match cs', hlen.trans k27, ys, hyl with
    | [c0, c1, c2, c3], _, [y0, y1, y2, y3], _ =>
      have g0 := hfl 0 _ rfl
      have g1 := hfl 1 _ rfl
      have g2 := hfl 2 _ rfl
      have g3 := hfl 3 _ rfl
      simp [k3, k5] at g0 g1 g2 g3
      obtain ⟨kd, e0, _, _⟩ := DataW.trod_int Try.underlying3 (show DataW.trod enc Try.prog W 0 (fun _ => true) true n' 3 [c0] = some y0 from g0)
      obtain ⟨b1, rfl, hb1⟩ := open_byte (show DataW.trod enc Try.prog W 0 (fun _ => true) true n' 5 [c1] = some y1 from g1)
      obtain ⟨b2, rfl, hb2⟩ := open_byte (show DataW.trod enc Try.prog W 0 (fun _ => true) true n' 5 [c2] = some y2 from g2)
      obtain ⟨pt, e3, _, _⟩ := DataW.trod_int Try.underlying3 (show DataW.trod enc Try.prog W 0 (fun _ => true) true n' 3 [c3] = some y3 from g3)
      simp at e0 e3
      subst e0 e3
      have q0 := hat 0 (by decide)
      have q1 := hat 1 (by decide)
      have q2 := hat 2 (by decide)
      have q3 := hat 3 (by decide)
      refine ⟨a, kd, b1, b2, pt, rfl, ?_, ?_, ?_, ?_, hb1, hb2⟩
      · simpa [Addr.add] using q0
      · simpa [Addr.add] using q1
      · simpa [Addr.add] using q2
      · simpa [Addr.add] using q3
end
end Go.Proofs.Ythbommecihnndaa

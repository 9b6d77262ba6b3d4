/- tandemref4.cell: the contract. -/
import Derived.Test.YtknfphgncoojeaaDoorRefLine
import Derived.Lib.Hide
import Derived.Laws.BitsLemmas
import Derived.WalkLawsBesides
namespace Go.Proofs.YtknfphgncoojeaaDoor
open Go.RowKit

/-- the bounds of the k-th piece between bars, n bytes from the end, the piece begun at fr -/
def cellN (b : ByteArray) : Nat → Nat → Nat → Nat × Nat
  | 0, fr, _ => (fr, b.size)
  | n + 1, fr, k => if b[b.size - (n + 1)]! = 124 then (if k = 0 then (fr, b.size - (n + 1)) else cellN b n (b.size - n) (k - 1)) else cellN b n fr k
def cellOf (b : ByteArray) (k : Nat) : ByteArray := b.extract (cellN b b.size 0 k).1 (cellN b b.size 0 k).2
theorem refB_size (k : Nat) (hk : k < 16) : (refB k).size < 1000 := by
  have h : k = 0 ∨ k = 1 ∨ k = 2 ∨ k = 3 ∨ k = 4 ∨ k = 5 ∨ k = 6 ∨ k = 7 ∨ k = 8 ∨ k = 9 ∨ k = 10 ∨ k = 11 ∨ k = 12 ∨ k = 13 ∨ k = 14 ∨ k = 15 := by omega
  rcases h with rfl | rfl | rfl | rfl | rfl | rfl | rfl | rfl | rfl | rfl | rfl | rfl | rfl | rfl | rfl | rfl <;> decide +kernel
theorem index_at (b : ByteArray) (i : Nat) (h : i < b.size) (w : World) : (Instr.index 9 (.string b) (.int .i64 (i : Int))).run Tryd.prog w = .ok (.int .u8 ((b[i]!.toNat : Nat) : Int)) w := by
  rw [run_index_string w 9 b .i64 _ Tryd.underlying9, dif_pos ⟨by omega, by omega⟩]
  have e : ((i : Int).toNat) = i := by omega
  simp only [e]
  rw [getElem!_pos b i h]
theorem cellN_le (b : ByteArray) : ∀ (n fr k : Nat), n ≤ b.size → fr ≤ b.size - n → (cellN b n fr k).1 ≤ (cellN b n fr k).2 ∧ (cellN b n fr k).2 ≤ b.size
  | 0, fr, k, h, h1 => by simp [cellN]; omega
  | n + 1, fr, k, h, h1 => by
    unfold cellN
    split
    · split
      · simp; omega
      · exact cellN_le b n _ _ (by omega) (by omega)
    · exact cellN_le b n _ _ (by omega) (by omega)
set_option maxRecDepth 100000 in
set_option maxHeartbeats 2000000 in
theorem cell_any (c : Nat) (h : c < 256) (w : World) : Calls Tryd.prog 67 #[.int .u8 (c : Int)] w fun e w' => e = .returned (.string (cellOf (refB (c / 16)) (c % 16))) ∧ w = w' := by
  have ha := u8_and15 (c : Int) (by omega) (by omega)
  have hd : (c : Int) / 16 = ((c / 16 : Nat) : Int) := by omega
  have HD := Lib.hid hd; clear hd
  have hm : (c : Int) % 16 = ((c % 16 : Nat) : Int) := by omega
  rw [hm] at ha
  have hz := refB_size (c / 16) (by omega)
  have hl := refline_any (c / 16) (by omega)
  obtain ⟨b, hb⟩ : ∃ b, refB (c / 16) = b := ⟨_, rfl⟩
  obtain ⟨q, hq⟩ : ∃ q, c % 16 = q := ⟨_, rfl⟩
  have hq16 : q < 16 := by omega
  rw [hb] at hz hl ⊢
  rw [hq] at ha ⊢
  clear hb hm
  obtain ⟨r, hr⟩ : ∃ r, cellOf b q = r := ⟨_, rfl⟩
  rw [hr]
  have HR := Lib.hid hr; clear hr
  go_enter Tryd.func67, Tryd.ntmps67
  go_wp2_with fail
  rw [HD.out]
  refine (hl _).mono ?_
  rintro e w1 ⟨rfl, rfl⟩
  go_wp2_with fail
  go_loop [4, 5, 6] (fun kk fr i => ∃ (k f n : Nat), n ≤ b.size ∧ f ≤ b.size - n ∧ k < 16 ∧ kk = .int .i64 k ∧ fr = .int .i64 f ∧ i = .int .i64 ((b.size - n : Nat) : Int) ∧ cellN b n f k = cellN b b.size 0 q) (fun _ _ i => b.size - (intOf i).toNat)
  case atStart => exact ⟨q, 0, b.size, by omega, by omega, by omega, rfl, rfl, by simp, rfl⟩
  case round =>
    obtain ⟨k, f, n, hn, hf, hk, rfl, rfl, rfl, hc⟩ := hrel
    have HC := Lib.hid hc; clear hc
    cases n with
    | zero =>
      have hres : b.extract f b.size = r := by rw [← HR.out]; unfold cellOf; rw [← HC.out]; rfl
      have HS := Lib.hid hres; clear hres
      go_wp2_with fail
      go_ret
      exact ⟨by rw [← HS.out]; rfl, rfl⟩
    | succ n =>
      have hi := index_at b (b.size - (n + 1)) (by omega)
      by_cases hx : b[b.size - (n + 1)]! = 124
      · rw [hx] at hi
        by_cases h0 : k = 0
        · subst h0
          have hres : b.extract f (b.size - (n + 1)) = r := by rw [← HR.out]; unfold cellOf; rw [← HC.out]; unfold cellN; rw [if_pos hx]; rfl
          have HS := Lib.hid hres; clear hres
          clear hx
          go_wp2_with fail
          go_ret
          exact ⟨by rw [← HS.out]; rfl, rfl⟩
        · have hk0 : ((k : Int) == 0) = false := by rw [beq_eq_false_iff_ne]; omega
          have hk1 : 1 ≤ k := by omega
          have HC2 : Hid (cellN b n (b.size - n) (k - 1) = cellN b b.size 0 q) := Lib.hid (by rw [← HC.out]; conv => rhs; unfold cellN; rw [if_pos hx, if_neg h0])
          clear hx h0
          go_wp2_with fail
          go_round
          case rel => exact ⟨k - 1, b.size - n, n, by omega, by omega, by omega, by go_num, by go_num, by go_num, HC2.out⟩
          case measure => simp [intOf]; omega
      · obtain ⟨x, hxx⟩ : ∃ x, b[b.size - (n + 1)]!.toNat = x := ⟨_, rfl⟩
        rw [hxx] at hi
        have hne : ((x : Int) == 124) = false := by
          rw [beq_eq_false_iff_ne]
          intro hh
          exact hx (by apply UInt8.toNat_inj.1; rw [hxx]; show x = 124; omega)
        have HC2 : Hid (cellN b n f k = cellN b b.size 0 q) := Lib.hid (by rw [← HC.out]; conv => rhs; unfold cellN; rw [if_neg hx])
        clear hx hxx
        go_wp2_with fail
        go_round
        case rel => exact ⟨k, f, n, by omega, by omega, by omega, by go_num, by go_num, by go_num, HC2.out⟩
        case measure => simp [intOf]; omega
end Go.Proofs.YtknfphgncoojeaaDoor

/- The port's six functions (pads and the document's own): their contracts, by one plain model. -/
import Derived.Test.YthbommecihnndaaProg
import Derived.WalkKit
import Derived.WalkLawsBesides
import Derived.KernelRfl
import Derived.BigRegion
import Derived.BigQuiet
import Derived.Deep.QuietTactic
import Derived.Laws.BitsAllLaws
namespace Go.Proofs.Ythbommecihnndaa
open Go.RowKit

structure Pd where
  s : Bool
  h0 : Int
  h1 : Int
  t0 : Int
  t1 : Int
abbrev Pd.cells (p : Pd) : Array Value := #[.bool p.s, .int .u8 p.h0, .int .u8 p.h1, .int .u8 p.t0, .int .u8 p.t1]
abbrev Pd.v (p : Pd) : Value := .agg p.cells
def Pd.ok (p : Pd) : Prop := (0 ≤ p.h0 ∧ p.h0 < 256) ∧ (0 ≤ p.h1 ∧ p.h1 < 256) ∧ (0 ≤ p.t0 ∧ p.t0 < 256) ∧ (0 ≤ p.t1 ∧ p.t1 < 256)
def Pd.set (p : Pd) (a b : Int) : Pd := ⟨p.s, a, b, if p.s then a else p.t0, if p.s then b else p.t1⟩
def Pd.write (p : Pd) (v : Int) : Pd := if p.s = true ∨ v % 2 = 1 then ⟨decide (v % 2 = 1), p.h0, p.h1, p.h0, p.h1⟩ else ⟨decide (v % 2 = 1), p.h0, p.h1, p.t0, p.t1⟩
def Pd.bit (p : Pd) (k : Int) : Int := if k = 0 then (if p.s then p.h0 % 2 else p.t0 % 2) else if k = 1 then (if p.s then p.h1 % 2 else p.t1 % 2) else 0
def Pd.read (p : Pd) (k : Int) : Pd := if p.s = true then p else if k = 0 then { p with t0 := p.t0 / 2 + 128 } else if k = 1 then { p with t1 := p.t1 / 2 + 128 } else p

theorem and1 (v : Int) (h0 : 0 ≤ v) (h1 : v < 256) : bits .and .u8 v 1 = v % 2 := by
  obtain ⟨n, rfl⟩ := Int.eq_ofNat_of_zero_le h0
  have := u8_and_nat n 1 (by omega) (by omega)
  rw [Nat.and_one_is_mod] at this
  simpa using this
theorem or128 (v : Int) (h0 : 0 ≤ v) (h1 : v < 256) : bits .or .u8 (v / 2) 128 = v / 2 + 128 := by
  have h : ∀ n : Fin 256, bits .or .u8 ((n.val : Int) / 2) 128 = (n.val : Int) / 2 + 128 := by decide +kernel
  obtain ⟨n, rfl⟩ := Int.eq_ofNat_of_zero_le h0
  exact h ⟨n, by omega⟩

set_option maxHeartbeats 4000000 in
theorem pset_any (s : Bool) (h0 h1 t0 t1 a b : Int) (w : World) :
    Calls Try.prog 6 #[.agg #[.bool s, .int .u8 h0, .int .u8 h1, .int .u8 t0, .int .u8 t1], .int .u8 a, .int .u8 b] w fun e w' => e = .returned (Pd.set ⟨s, h0, h1, t0, t1⟩ a b).v ∧ Below w.heap.size w w' := by
  cases s
  all_goals
    go_enter Try.func6, Try.ntmps6
    go_wp2
  · exact bodyPost_ret (v := (Pd.set ⟨false, h0, h1, t0, t1⟩ a b).v) (by simp [results, Try.results6, go_sem, Pd.set]) rfl ⟨rfl, (by repeat (first | exact Below.refl _ _ | (with_reducible refine Below.drew ?_) | (with_reducible refine Below.alloc ?_ (by simp) _)))⟩
  · exact bodyPost_ret (v := (Pd.set ⟨true, h0, h1, t0, t1⟩ a b).v) (by simp [results, Try.results6, go_sem, Pd.set]) rfl ⟨rfl, (by repeat (first | exact Below.refl _ _ | (with_reducible refine Below.drew ?_) | (with_reducible refine Below.alloc ?_ (by simp) _)))⟩
set_option maxHeartbeats 4000000 in
theorem pwrite_any (s : Bool) (h0 h1 t0 t1 v : Int) (hv0 : 0 ≤ v) (hv1 : v < 256) (w : World) :
    Calls Try.prog 8 #[.agg #[.bool s, .int .u8 h0, .int .u8 h1, .int .u8 t0, .int .u8 t1], .int .u8 v] w fun e w' => e = .returned (Pd.write ⟨s, h0, h1, t0, t1⟩ v).v ∧ Below w.heap.size w w' := by
  have ha := and1 v hv0 hv1
  rcases Int.emod_two_eq v with h2 | h2
  · rw [h2] at ha
    have W : Pd.write ⟨s, h0, h1, t0, t1⟩ v = ⟨false, h0, h1, if s then h0 else t0, if s then h1 else t1⟩ := by unfold Pd.write; cases s <;> simp [h2]
    rw [W]
    clear W h2
    cases s
    all_goals
      go_enter Try.func8, Try.ntmps8
      go_wp2
    · exact bodyPost_ret (v := Pd.v ⟨false, h0, h1, t0, t1⟩) (by simp [results, Try.results8, go_sem]) rfl ⟨rfl, (by repeat (first | exact Below.refl _ _ | (with_reducible refine Below.drew ?_) | (with_reducible refine Below.alloc ?_ (by simp) _)))⟩
    · exact bodyPost_ret (v := Pd.v ⟨false, h0, h1, h0, h1⟩) (by simp [results, Try.results8, go_sem]) rfl ⟨rfl, (by repeat (first | exact Below.refl _ _ | (with_reducible refine Below.drew ?_) | (with_reducible refine Below.alloc ?_ (by simp) _)))⟩
  · rw [h2] at ha
    have W : Pd.write ⟨s, h0, h1, t0, t1⟩ v = ⟨true, h0, h1, h0, h1⟩ := by unfold Pd.write; cases s <;> simp [h2]
    rw [W]
    clear W h2
    cases s
    all_goals
      go_enter Try.func8, Try.ntmps8
      go_wp2
    · exact bodyPost_ret (v := Pd.v ⟨true, h0, h1, h0, h1⟩) (by simp [results, Try.results8, go_sem]) rfl ⟨rfl, (by repeat (first | exact Below.refl _ _ | (with_reducible refine Below.drew ?_) | (with_reducible refine Below.alloc ?_ (by simp) _)))⟩
    · exact bodyPost_ret (v := Pd.v ⟨true, h0, h1, h0, h1⟩) (by simp [results, Try.results8, go_sem]) rfl ⟨rfl, (by repeat (first | exact Below.refl _ _ | (with_reducible refine Below.drew ?_) | (with_reducible refine Below.alloc ?_ (by simp) _)))⟩
set_option maxHeartbeats 4000000 in
theorem rset_any (s : Bool) (h0 h1 t0 t1 a b : Int) (w : World) :
    Calls Try.prog 7 #[.agg #[.bool s, .int .u8 h0, .int .u8 h1, .int .u8 t0, .int .u8 t1], .int .u8 a, .int .u8 b] w fun e w' => e = .returned (Pd.set ⟨s, h0, h1, t0, t1⟩ a b).v ∧ Below w.heap.size w w' := by
  cases s
  all_goals
    go_enter Try.func7, Try.ntmps7
    go_wp2
  · exact bodyPost_ret (v := (Pd.set ⟨false, h0, h1, t0, t1⟩ a b).v) (by simp [results, Try.results7, go_sem, Pd.set]) rfl ⟨rfl, (by repeat (first | exact Below.refl _ _ | (with_reducible refine Below.drew ?_) | (with_reducible refine Below.alloc ?_ (by simp) _)))⟩
  · exact bodyPost_ret (v := (Pd.set ⟨true, h0, h1, t0, t1⟩ a b).v) (by simp [results, Try.results7, go_sem, Pd.set]) rfl ⟨rfl, (by repeat (first | exact Below.refl _ _ | (with_reducible refine Below.drew ?_) | (with_reducible refine Below.alloc ?_ (by simp) _)))⟩
set_option maxHeartbeats 4000000 in
theorem rwrite_any (s : Bool) (h0 h1 t0 t1 v : Int) (hv0 : 0 ≤ v) (hv1 : v < 256) (w : World) :
    Calls Try.prog 9 #[.agg #[.bool s, .int .u8 h0, .int .u8 h1, .int .u8 t0, .int .u8 t1], .int .u8 v] w fun e w' => e = .returned (Pd.write ⟨s, h0, h1, t0, t1⟩ v).v ∧ Below w.heap.size w w' := by
  rcases Int.emod_two_eq v with h2 | h2
  · have W : Pd.write ⟨s, h0, h1, t0, t1⟩ v = ⟨false, h0, h1, if s then h0 else t0, if s then h1 else t1⟩ := by unfold Pd.write; cases s <;> simp [h2]
    rw [W]
    clear W
    cases s
    all_goals
      go_enter Try.func9, Try.ntmps9
      go_wp2
    · exact bodyPost_ret (v := Pd.v ⟨false, h0, h1, t0, t1⟩) (by simp [results, Try.results9, go_sem]) rfl ⟨rfl, (by repeat (first | exact Below.refl _ _ | (with_reducible refine Below.drew ?_) | (with_reducible refine Below.alloc ?_ (by simp) _)))⟩
    · exact bodyPost_ret (v := Pd.v ⟨false, h0, h1, h0, h1⟩) (by simp [results, Try.results9, go_sem]) rfl ⟨rfl, (by repeat (first | exact Below.refl _ _ | (with_reducible refine Below.drew ?_) | (with_reducible refine Below.alloc ?_ (by simp) _)))⟩
  · have W : Pd.write ⟨s, h0, h1, t0, t1⟩ v = ⟨true, h0, h1, h0, h1⟩ := by unfold Pd.write; cases s <;> simp [h2]
    rw [W]
    clear W
    cases s
    all_goals
      go_enter Try.func9, Try.ntmps9
      go_wp2
    · exact bodyPost_ret (v := Pd.v ⟨true, h0, h1, h0, h1⟩) (by simp [results, Try.results9, go_sem]) rfl ⟨rfl, (by repeat (first | exact Below.refl _ _ | (with_reducible refine Below.drew ?_) | (with_reducible refine Below.alloc ?_ (by simp) _)))⟩
    · exact bodyPost_ret (v := Pd.v ⟨true, h0, h1, h0, h1⟩) (by simp [results, Try.results9, go_sem]) rfl ⟨rfl, (by repeat (first | exact Below.refl _ _ | (with_reducible refine Below.drew ?_) | (with_reducible refine Below.alloc ?_ (by simp) _)))⟩
set_option maxHeartbeats 4000000 in
theorem pread_no (s : Bool) (h0 h1 t0 t1 k : Int) (k0 : ¬ k = 0) (k1 : ¬ k = 1) (w : World) :
    Calls Try.prog 10 #[.agg #[.bool s, .int .u8 h0, .int .u8 h1, .int .u8 t0, .int .u8 t1], .int .i64 k] w fun e w' => e = .returned (.tuple #[.int .u8 (Pd.bit ⟨s, h0, h1, t0, t1⟩ k), (Pd.read ⟨s, h0, h1, t0, t1⟩ k).v]) ∧ Below w.heap.size w w' := by
  have hb : Pd.bit ⟨s, h0, h1, t0, t1⟩ k = 0 := by unfold Pd.bit; rw [if_neg k0, if_neg k1]
  have hr : Pd.read ⟨s, h0, h1, t0, t1⟩ k = ⟨s, h0, h1, t0, t1⟩ := by unfold Pd.read; cases s <;> simp [k0, k1]
  rw [hb, hr]
  clear hb hr
  have e0 : (k != 0) = true := by simp [k0]
  have e1 : (k != 1) = true := by simp [k1]
  clear k0 k1
  go_enter Try.func10, Try.ntmps10
  go_wp2
  go_region
  go_wp2
  exact bodyPost_ret (v := .tuple #[.int .u8 0, Pd.v ⟨s, h0, h1, t0, t1⟩]) (by simp [results, Try.results10, go_sem]) rfl ⟨rfl, (by repeat (first | exact Below.refl _ _ | (with_reducible refine Below.drew ?_) | (with_reducible refine Below.alloc ?_ (by simp) _)))⟩
set_option maxHeartbeats 4000000 in
theorem pread_up0 (h0 h1 t0 t1 : Int) (b0 : 0 ≤ h0) (b1 : h0 < 256) (w : World) :
    Calls Try.prog 10 #[.agg #[.bool true, .int .u8 h0, .int .u8 h1, .int .u8 t0, .int .u8 t1], .int .i64 0] w fun e w' => e = .returned (.tuple #[.int .u8 (Pd.bit ⟨true, h0, h1, t0, t1⟩ 0), (Pd.read ⟨true, h0, h1, t0, t1⟩ 0).v]) ∧ Below w.heap.size w w' := by
  have ha := and1 h0 b0 b1
  have hb : Pd.bit ⟨true, h0, h1, t0, t1⟩ 0 = h0 % 2 := by simp [Pd.bit]
  have hr : Pd.read ⟨true, h0, h1, t0, t1⟩ 0 = ⟨true, h0, h1, t0, t1⟩ := by simp [Pd.read]
  rw [hb, hr]
  clear hb hr
  go_enter Try.func10, Try.ntmps10
  go_wp2
  go_region
  go_wp2
  exact bodyPost_ret (v := .tuple #[.int .u8 (h0 % 2), Pd.v ⟨true, h0, h1, t0, t1⟩]) (by simp [results, Try.results10, go_sem]) rfl ⟨rfl, (by repeat (first | exact Below.refl _ _ | (with_reducible refine Below.drew ?_) | (with_reducible refine Below.alloc ?_ (by simp) _)))⟩
set_option maxHeartbeats 4000000 in
theorem pread_dn0 (h0 h1 t0 t1 : Int) (b0 : 0 ≤ t0) (b1 : t0 < 256) (w : World) :
    Calls Try.prog 10 #[.agg #[.bool false, .int .u8 h0, .int .u8 h1, .int .u8 t0, .int .u8 t1], .int .i64 0] w fun e w' => e = .returned (.tuple #[.int .u8 (Pd.bit ⟨false, h0, h1, t0, t1⟩ 0), (Pd.read ⟨false, h0, h1, t0, t1⟩ 0).v]) ∧ Below w.heap.size w w' := by
  have ha := and1 t0 b0 b1
  have ho := or128 t0 b0 b1
  have hb : Pd.bit ⟨false, h0, h1, t0, t1⟩ 0 = t0 % 2 := by simp [Pd.bit]
  have hr : Pd.read ⟨false, h0, h1, t0, t1⟩ 0 = ⟨false, h0, h1, t0 / 2 + 128, t1⟩ := by simp [Pd.read]
  rw [hb, hr]
  clear hb hr
  go_enter Try.func10, Try.ntmps10
  go_wp2
  go_region
  go_wp2
  exact bodyPost_ret (v := .tuple #[.int .u8 (t0 % 2), Pd.v ⟨false, h0, h1, t0 / 2 + 128, t1⟩]) (by simp [results, Try.results10, go_sem]) rfl ⟨rfl, (by repeat (first | exact Below.refl _ _ | (with_reducible refine Below.drew ?_) | (with_reducible refine Below.alloc ?_ (by simp) _)))⟩
set_option maxHeartbeats 4000000 in
theorem pread_up1 (h0 h1 t0 t1 : Int) (b0 : 0 ≤ h1) (b1 : h1 < 256) (w : World) :
    Calls Try.prog 10 #[.agg #[.bool true, .int .u8 h0, .int .u8 h1, .int .u8 t0, .int .u8 t1], .int .i64 1] w fun e w' => e = .returned (.tuple #[.int .u8 (Pd.bit ⟨true, h0, h1, t0, t1⟩ 1), (Pd.read ⟨true, h0, h1, t0, t1⟩ 1).v]) ∧ Below w.heap.size w w' := by
  have ha := and1 h1 b0 b1
  have hb : Pd.bit ⟨true, h0, h1, t0, t1⟩ 1 = h1 % 2 := by simp [Pd.bit]
  have hr : Pd.read ⟨true, h0, h1, t0, t1⟩ 1 = ⟨true, h0, h1, t0, t1⟩ := by simp [Pd.read]
  rw [hb, hr]
  clear hb hr
  go_enter Try.func10, Try.ntmps10
  go_wp2
  go_region
  go_wp2
  exact bodyPost_ret (v := .tuple #[.int .u8 (h1 % 2), Pd.v ⟨true, h0, h1, t0, t1⟩]) (by simp [results, Try.results10, go_sem]) rfl ⟨rfl, (by repeat (first | exact Below.refl _ _ | (with_reducible refine Below.drew ?_) | (with_reducible refine Below.alloc ?_ (by simp) _)))⟩
set_option maxHeartbeats 4000000 in
theorem pread_dn1 (h0 h1 t0 t1 : Int) (b0 : 0 ≤ t1) (b1 : t1 < 256) (w : World) :
    Calls Try.prog 10 #[.agg #[.bool false, .int .u8 h0, .int .u8 h1, .int .u8 t0, .int .u8 t1], .int .i64 1] w fun e w' => e = .returned (.tuple #[.int .u8 (Pd.bit ⟨false, h0, h1, t0, t1⟩ 1), (Pd.read ⟨false, h0, h1, t0, t1⟩ 1).v]) ∧ Below w.heap.size w w' := by
  have ha := and1 t1 b0 b1
  have ho := or128 t1 b0 b1
  have hb : Pd.bit ⟨false, h0, h1, t0, t1⟩ 1 = t1 % 2 := by simp [Pd.bit]
  have hr : Pd.read ⟨false, h0, h1, t0, t1⟩ 1 = ⟨false, h0, h1, t0, t1 / 2 + 128⟩ := by simp [Pd.read]
  rw [hb, hr]
  clear hb hr
  go_enter Try.func10, Try.ntmps10
  go_wp2
  go_region
  go_wp2
  exact bodyPost_ret (v := .tuple #[.int .u8 (t1 % 2), Pd.v ⟨false, h0, h1, t0, t1 / 2 + 128⟩]) (by simp [results, Try.results10, go_sem]) rfl ⟨rfl, (by repeat (first | exact Below.refl _ _ | (with_reducible refine Below.drew ?_) | (with_reducible refine Below.alloc ?_ (by simp) _)))⟩
set_option maxHeartbeats 4000000 in
theorem rread_no (s : Bool) (h0 h1 t0 t1 k : Int) (k0 : ¬ k = 0) (k1 : ¬ k = 1) (w : World) :
    Calls Try.prog 11 #[.agg #[.bool s, .int .u8 h0, .int .u8 h1, .int .u8 t0, .int .u8 t1], .int .i64 k] w fun e w' => e = .returned (.tuple #[.int .u8 (Pd.bit ⟨s, h0, h1, t0, t1⟩ k), (Pd.read ⟨s, h0, h1, t0, t1⟩ k).v]) ∧ Below w.heap.size w w' := by
  have hb : Pd.bit ⟨s, h0, h1, t0, t1⟩ k = 0 := by unfold Pd.bit; rw [if_neg k0, if_neg k1]
  have hr : Pd.read ⟨s, h0, h1, t0, t1⟩ k = ⟨s, h0, h1, t0, t1⟩ := by unfold Pd.read; cases s <;> simp [k0, k1]
  rw [hb, hr]
  clear hb hr
  have e0 : (k != 0) = true := by simp [k0]
  have e1 : (k != 1) = true := by simp [k1]
  clear k0 k1
  go_enter Try.func11, Try.ntmps11
  go_wp2
  go_region
  go_wp2
  exact bodyPost_ret (v := .tuple #[.int .u8 0, Pd.v ⟨s, h0, h1, t0, t1⟩]) (by simp [results, Try.results11, go_sem]) rfl ⟨rfl, (by repeat (first | exact Below.refl _ _ | (with_reducible refine Below.drew ?_) | (with_reducible refine Below.alloc ?_ (by simp) _)))⟩
set_option maxHeartbeats 4000000 in
theorem rread_up0 (h0 h1 t0 t1 : Int) (b0 : 0 ≤ h0) (b1 : h0 < 256) (w : World) :
    Calls Try.prog 11 #[.agg #[.bool true, .int .u8 h0, .int .u8 h1, .int .u8 t0, .int .u8 t1], .int .i64 0] w fun e w' => e = .returned (.tuple #[.int .u8 (Pd.bit ⟨true, h0, h1, t0, t1⟩ 0), (Pd.read ⟨true, h0, h1, t0, t1⟩ 0).v]) ∧ Below w.heap.size w w' := by
  have hb : Pd.bit ⟨true, h0, h1, t0, t1⟩ 0 = h0 % 2 := by simp [Pd.bit]
  have hr : Pd.read ⟨true, h0, h1, t0, t1⟩ 0 = ⟨true, h0, h1, t0, t1⟩ := by simp [Pd.read]
  rw [hb, hr]
  clear hb hr
  go_enter Try.func11, Try.ntmps11
  go_wp2
  go_region
  go_wp2
  exact bodyPost_ret (v := .tuple #[.int .u8 (h0 % 2), Pd.v ⟨true, h0, h1, t0, t1⟩]) (by simp [results, Try.results11, go_sem]) rfl ⟨rfl, (by repeat (first | exact Below.refl _ _ | (with_reducible refine Below.drew ?_) | (with_reducible refine Below.alloc ?_ (by simp) _)))⟩
set_option maxHeartbeats 4000000 in
theorem rread_dn0 (h0 h1 t0 t1 : Int) (b0 : 0 ≤ t0) (b1 : t0 < 256) (w : World) :
    Calls Try.prog 11 #[.agg #[.bool false, .int .u8 h0, .int .u8 h1, .int .u8 t0, .int .u8 t1], .int .i64 0] w fun e w' => e = .returned (.tuple #[.int .u8 (Pd.bit ⟨false, h0, h1, t0, t1⟩ 0), (Pd.read ⟨false, h0, h1, t0, t1⟩ 0).v]) ∧ Below w.heap.size w w' := by
  have hb : Pd.bit ⟨false, h0, h1, t0, t1⟩ 0 = t0 % 2 := by simp [Pd.bit]
  have hr : Pd.read ⟨false, h0, h1, t0, t1⟩ 0 = ⟨false, h0, h1, t0 / 2 + 128, t1⟩ := by simp [Pd.read]
  rw [hb, hr]
  clear hb hr
  go_enter Try.func11, Try.ntmps11
  go_wp2
  go_region
  go_wp2
  exact bodyPost_ret (v := .tuple #[.int .u8 (t0 % 2), Pd.v ⟨false, h0, h1, t0 / 2 + 128, t1⟩]) (by simp [results, Try.results11, go_sem]) rfl ⟨rfl, (by repeat (first | exact Below.refl _ _ | (with_reducible refine Below.drew ?_) | (with_reducible refine Below.alloc ?_ (by simp) _)))⟩
set_option maxHeartbeats 4000000 in
theorem rread_up1 (h0 h1 t0 t1 : Int) (b0 : 0 ≤ h1) (b1 : h1 < 256) (w : World) :
    Calls Try.prog 11 #[.agg #[.bool true, .int .u8 h0, .int .u8 h1, .int .u8 t0, .int .u8 t1], .int .i64 1] w fun e w' => e = .returned (.tuple #[.int .u8 (Pd.bit ⟨true, h0, h1, t0, t1⟩ 1), (Pd.read ⟨true, h0, h1, t0, t1⟩ 1).v]) ∧ Below w.heap.size w w' := by
  have hb : Pd.bit ⟨true, h0, h1, t0, t1⟩ 1 = h1 % 2 := by simp [Pd.bit]
  have hr : Pd.read ⟨true, h0, h1, t0, t1⟩ 1 = ⟨true, h0, h1, t0, t1⟩ := by simp [Pd.read]
  rw [hb, hr]
  clear hb hr
  go_enter Try.func11, Try.ntmps11
  go_wp2
  go_region
  go_wp2
  exact bodyPost_ret (v := .tuple #[.int .u8 (h1 % 2), Pd.v ⟨true, h0, h1, t0, t1⟩]) (by simp [results, Try.results11, go_sem]) rfl ⟨rfl, (by repeat (first | exact Below.refl _ _ | (with_reducible refine Below.drew ?_) | (with_reducible refine Below.alloc ?_ (by simp) _)))⟩
set_option maxHeartbeats 4000000 in
theorem rread_dn1 (h0 h1 t0 t1 : Int) (b0 : 0 ≤ t1) (b1 : t1 < 256) (w : World) :
    Calls Try.prog 11 #[.agg #[.bool false, .int .u8 h0, .int .u8 h1, .int .u8 t0, .int .u8 t1], .int .i64 1] w fun e w' => e = .returned (.tuple #[.int .u8 (Pd.bit ⟨false, h0, h1, t0, t1⟩ 1), (Pd.read ⟨false, h0, h1, t0, t1⟩ 1).v]) ∧ Below w.heap.size w w' := by
  have hb : Pd.bit ⟨false, h0, h1, t0, t1⟩ 1 = t1 % 2 := by simp [Pd.bit]
  have hr : Pd.read ⟨false, h0, h1, t0, t1⟩ 1 = ⟨false, h0, h1, t0, t1 / 2 + 128⟩ := by simp [Pd.read]
  rw [hb, hr]
  clear hb hr
  go_enter Try.func11, Try.ntmps11
  go_wp2
  go_region
  go_wp2
  exact bodyPost_ret (v := .tuple #[.int .u8 (t1 % 2), Pd.v ⟨false, h0, h1, t0, t1 / 2 + 128⟩]) (by simp [results, Try.results11, go_sem]) rfl ⟨rfl, (by repeat (first | exact Below.refl _ _ | (with_reducible refine Below.drew ?_) | (with_reducible refine Below.alloc ?_ (by simp) _)))⟩
end Go.Proofs.Ythbommecihnndaa

/- tandemref4.has, named, length, kind, class: the contracts. -/
import Derived.Test.YtknfphgncoojeaaDoorRefCell
import Derived.Test.YtknfphgncoojeaaDoorNames
namespace Go.Proofs.YtknfphgncoojeaaDoor
open Go.RowKit

/-- two strings, byte by byte -/
def eqS (a : ByteArray) (l : List UInt8) : Bool := a.data.toList == l
theorem eqS_l (a : ByteArray) (l : List UInt8) : eqS a l = (a.toList == l) := by unfold eqS; rw [ByteArray.toList_eq]
theorem eqS_b (a b : ByteArray) : eqS a b.data.toList = (a.toList == b.toList) := by unfold eqS; rw [ByteArray.toList_eq, ByteArray.toList_eq]
def hasR (l s : ByteArray) (n : Nat) : Bool := (List.range n).any fun j => eqS (l.extract (4 * j) (4 * j + 3)) s.data.toList
set_option maxRecDepth 100000 in
set_option maxHeartbeats 2000000 in
theorem has_any (l s : ByteArray) (n : Nat) (hn : l.size + 1 = 4 * n) (h1 : n < 100) (w : World) : Calls Tryd.prog 83 #[.string l, .string s] w fun e w' => e = .returned (.bool (hasR l s n)) ∧ w = w' := by
  obtain ⟨r, hr⟩ : ∃ r, hasR l s n = r := ⟨_, rfl⟩
  rw [hr]
  have HR := Lib.hid hr; clear hr
  go_enter Tryd.func83, Tryd.ntmps83
  go_wp2_with fail
  go_loop [5] (fun i => ∃ k : Nat, k ≤ n ∧ i = .int .i64 (4 * (k : Int)) ∧ ∀ j, j < k → eqS (l.extract (4 * j) (4 * j + 3)) s.data.toList = false) (fun i => 4 * n - (intOf i).toNat)
  case atStart => exact ⟨0, by omega, rfl, fun j hj => by omega⟩
  case round =>
    obtain ⟨k, hk, rfl, hno⟩ := hrel
    have HN := Lib.hid hno; clear hno
    by_cases hlt : k < n
    · have hle : decide ((4 * (k : Int)) + 3 ≤ (l.size : Int)) = true := by rw [decide_eq_true_iff]; omega
      have hs := fun wx : World => run_slice_string (P := Tryd.prog) wx 9 l .i64 .i64 (4 * (k : Int)) (4 * (k : Int) + 3) Tryd.underlying9 (by omega) (by omega) (by omega)
      have e1 : (4 * (k : Int)).toNat = 4 * k := by omega
      have e2 : (4 * (k : Int) + 3).toNat = 4 * k + 3 := by omega
      rw [e1, e2] at hs
      obtain ⟨x, hx⟩ : ∃ x, l.extract (4 * k) (4 * k + 3) = x := ⟨_, rfl⟩
      rw [hx] at hs
      have HX := Lib.hid hx; clear hx e1 e2
      cases he : (x.toList == s.toList) with
      | true =>
        have hy : r = true := by
          rw [← HR.out]
          unfold hasR
          rw [List.any_eq_true]
          exact ⟨k, by simpa using hlt, by rw [HX.out, eqS_b, he]⟩
        have HY := Lib.hid hy; clear hy
        go_wp2_with fail
        go_ret
        exact ⟨by rw [HY.out]; rfl, rfl⟩
      | false =>
        go_wp2_with fail
        go_round
        case rel =>
          refine ⟨k + 1, by omega, by go_num, fun j hj => ?_⟩
          rcases Nat.lt_or_ge j k with h | h
          · exact HN.out j h
          · have e : j = k := by omega
            rw [e, HX.out, eqS_b]
            exact he
        case measure => simp [intOf]; omega
    · obtain rfl : k = n := by omega
      have hle : decide ((4 * (k : Int)) + 3 ≤ (l.size : Int)) = false := by rw [decide_eq_false_iff_not]; omega
      have hy : r = false := by
        rw [← HR.out]
        unfold hasR
        rw [List.any_eq_false]
        intro j hj
        rw [HN.out j (by simpa using hj)]
        simp
      have HY := Lib.hid hy; clear hy
      go_wp2_with fail
      go_ret
      exact ⟨by rw [HY.out]; rfl, rfl⟩

def namedO (s : ByteArray) : Option Nat := (List.range 70).find? fun j => eqS (nameOf (j : Int)) s.data.toList
def namedV (s : ByteArray) : Int := match namedO s with | some j => (j : Int) | none => -1
set_option maxRecDepth 100000 in
set_option maxHeartbeats 2000000 in
theorem named_any (s : ByteArray) (w : World) : Calls Tryd.prog 54 #[.string s] w fun e w' => e = .returned (.int .i64 (namedV s)) ∧ w = w' := by
  obtain ⟨r, hr⟩ : ∃ r, namedV s = r := ⟨_, rfl⟩
  rw [hr]
  have HR := Lib.hid hr; clear hr
  have hsz := namesB_size
  go_enter Tryd.func54, Tryd.ntmps54
  go_wp2_with fail
  go_loop [3] (fun i => ∃ k : Nat, k ≤ 70 ∧ i = .int .i64 (k : Int) ∧ ∀ j, j < k → eqS (nameOf (j : Int)) s.data.toList = false) (fun i => 70 - (intOf i).toNat)
  case atStart => exact ⟨0, by omega, rfl, fun j hj => by omega⟩
  case round =>
    obtain ⟨k, hk, rfl, hno⟩ := hrel
    have HN := Lib.hid hno; clear hno
    by_cases hlt : k < 70
    · have hs := fun wx : World => run_slice_string (P := Tryd.prog) wx 9 namesB .i64 .i64 (3 * (k : Int)) (3 * (k : Int) + 3) Tryd.underlying9 (by omega) (by omega) (by omega)
      obtain ⟨x, hx⟩ : ∃ x, nameOf (k : Int) = x := ⟨_, rfl⟩
      have hx' : namesB.extract (3 * (k : Int)).toNat (3 * (k : Int) + 3).toNat = x := hx
      rw [hx'] at hs
      unfold namesB at hs
      have HX := Lib.hid hx; clear hx hx'
      have HS := Lib.hid hs; clear hs
      cases he : (x.toList == s.toList) with
      | true =>
        have hy : r = (k : Int) := by
          rw [← HR.out]
          unfold namedV
          have : namedO s = some k := by
            unfold namedO
            rw [List.find?_range_eq_some]
            exact ⟨by rw [HX.out, eqS_b, he], by simpa using hlt, fun j hj => by simp [HN.out j hj]⟩
          rw [this]
        have HY := Lib.hid hy; clear hy
        go_wp2_with (rw [HS.out])
        go_ret
        exact ⟨by rw [HY.out]; rfl, rfl⟩
      | false =>
        go_wp2_with (rw [HS.out])
        go_round
        case rel =>
          refine ⟨k + 1, by omega, by go_num, fun j hj => ?_⟩
          rcases Nat.lt_or_ge j k with h | h
          · exact HN.out j h
          · have e : j = k := by omega
            rw [e, HX.out, eqS_b]
            exact he
        case measure => simp [intOf]; omega
    · obtain rfl : k = 70 := by omega
      have hy : r = -1 := by
        rw [← HR.out]
        unfold namedV
        have : namedO s = none := by
          unfold namedO
          rw [List.find?_eq_none]
          intro j hj
          rw [HN.out j (by simpa using hj)]
          simp
        rw [this]
      have HY := Lib.hid hy; clear hy
      go_wp2_with fail
      go_ret
      exact ⟨by rw [HY.out]; rfl, rfl⟩

def lenR (m : Nat) : Nat := if m ≤ 1 then 1 else if 8 ≤ m ∧ m ≤ 11 then 3 else 2
set_option maxRecDepth 100000 in
set_option maxHeartbeats 4000000 in
theorem length_any (m : Nat) (h : m < 13) (w : World) : Calls Tryd.prog 69 #[.int .i64 (m : Int)] w fun e w' => e = .returned (.int .i64 (lenR m : Int)) ∧ w = w' := by
  have hm : m = 0 ∨ m = 1 ∨ m = 2 ∨ m = 3 ∨ m = 4 ∨ m = 5 ∨ m = 6 ∨ m = 7 ∨ m = 8 ∨ m = 9 ∨ m = 10 ∨ m = 11 ∨ m = 12 := by omega
  rcases hm with rfl | rfl | rfl | rfl | rfl | rfl | rfl | rfl | rfl | rfl | rfl | rfl | rfl
  all_goals (go_enter Tryd.func69, Tryd.ntmps69; go_wp2_with fail; go_ret; exact ⟨rfl, rfl⟩)

def wordsW : ByteArray := ⟨#[83, 84, 65, 32, 83, 84, 88, 32, 83, 84, 89, 32, 83, 65, 88]⟩
def wordsR : ByteArray := ⟨#[65, 83, 76, 32, 76, 83, 82, 32, 82, 79, 76, 32, 82, 79, 82, 32, 68, 69, 67, 32, 73, 78, 67, 32, 83, 76, 79, 32, 82, 76, 65, 32, 83, 82, 69, 32, 82, 82, 65, 32, 68, 67, 80, 32, 73, 83, 67]⟩
def kindN (t0 t1 t2 t3 t4 t5 t6 t7 t8 t9 t10 t11 t12 t13 t14 t15 t16 : Bool) : Nat := if t0 then 5 else if t1 then 6 else if t2 then 7 else if t3 then 8 else if t4 then 8 else if t5 then 11 else if t6 then 9 else if t7 then 9 else if t8 then 10 else if t9 then 10 else if t10 then 12 else if t11 then 0 else if t12 then 0 else if t13 then 0 else if t14 then 4 else if t15 then 2 else if t16 then 3 else 1
def kindR (s : ByteArray) (m : Nat) (f : Bool) : Nat := kindN (m == 12) (eqS s [74, 77, 80]) (eqS s [74, 83, 82]) (eqS s [82, 84, 83]) (eqS s [82, 84, 73]) (eqS s [66, 82, 75]) (eqS s [80, 72, 65]) (eqS s [80, 72, 80]) (eqS s [80, 76, 65]) (eqS s [80, 76, 80]) (eqS s [74, 65, 77]) (m == 0) (m == 1) (m == 2) (f) (hasR wordsW s 4) (hasR wordsR s 12)
theorem cast_beq (m k : Nat) : ((m : Int) == (k : Int)) = (m == k) := by rw [Bool.eq_iff_iff, beq_iff_eq, beq_iff_eq]; omega
set_option maxRecDepth 100000 in
set_option maxHeartbeats 8000000 in
theorem refkind_any (s : ByteArray) (m : Nat) (f : Bool) (w : World) : Calls Tryd.prog 68 #[.string s, .int .i64 (m : Int), .bool f] w fun e w' => e = .returned (.int .i64 (kindR s m f : Int)) ∧ w = w' := by
  unfold kindR
  have hW := has_any wordsW s 4 (by decide +kernel) (by omega)
  have hR := has_any wordsR s 12 (by decide +kernel) (by omega)
  obtain ⟨t0, h0⟩ : ∃ t, (m == 12) = t := ⟨_, rfl⟩
  obtain ⟨t1, h1⟩ : ∃ t, (eqS s [74, 77, 80]) = t := ⟨_, rfl⟩
  obtain ⟨t2, h2⟩ : ∃ t, (eqS s [74, 83, 82]) = t := ⟨_, rfl⟩
  obtain ⟨t3, h3⟩ : ∃ t, (eqS s [82, 84, 83]) = t := ⟨_, rfl⟩
  obtain ⟨t4, h4⟩ : ∃ t, (eqS s [82, 84, 73]) = t := ⟨_, rfl⟩
  obtain ⟨t5, h5⟩ : ∃ t, (eqS s [66, 82, 75]) = t := ⟨_, rfl⟩
  obtain ⟨t6, h6⟩ : ∃ t, (eqS s [80, 72, 65]) = t := ⟨_, rfl⟩
  obtain ⟨t7, h7⟩ : ∃ t, (eqS s [80, 72, 80]) = t := ⟨_, rfl⟩
  obtain ⟨t8, h8⟩ : ∃ t, (eqS s [80, 76, 65]) = t := ⟨_, rfl⟩
  obtain ⟨t9, h9⟩ : ∃ t, (eqS s [80, 76, 80]) = t := ⟨_, rfl⟩
  obtain ⟨t10, h10⟩ : ∃ t, (eqS s [74, 65, 77]) = t := ⟨_, rfl⟩
  obtain ⟨t11, h11⟩ : ∃ t, (m == 0) = t := ⟨_, rfl⟩
  obtain ⟨t12, h12⟩ : ∃ t, (m == 1) = t := ⟨_, rfl⟩
  obtain ⟨t13, h13⟩ : ∃ t, (m == 2) = t := ⟨_, rfl⟩
  obtain ⟨t15, h15⟩ : ∃ t, (hasR wordsW s 4) = t := ⟨_, rfl⟩
  obtain ⟨t16, h16⟩ : ∃ t, (hasR wordsR s 12) = t := ⟨_, rfl⟩
  rw [h0, h1, h2, h3, h4, h5, h6, h7, h8, h9, h10, h11, h12, h13, h15, h16]
  rw [h15] at hW
  rw [h16] at hR
  have g0 : ((m : Int) == 12) = t0 := (cast_beq m 12).trans h0
  have g1 : (s.toList == [74, 77, 80]) = t1 := (eqS_l _ _).symm.trans h1
  have g2 : (s.toList == [74, 83, 82]) = t2 := (eqS_l _ _).symm.trans h2
  have g3 : (s.toList == [82, 84, 83]) = t3 := (eqS_l _ _).symm.trans h3
  have g4 : (s.toList == [82, 84, 73]) = t4 := (eqS_l _ _).symm.trans h4
  have g5 : (s.toList == [66, 82, 75]) = t5 := (eqS_l _ _).symm.trans h5
  have g6 : (s.toList == [80, 72, 65]) = t6 := (eqS_l _ _).symm.trans h6
  have g7 : (s.toList == [80, 72, 80]) = t7 := (eqS_l _ _).symm.trans h7
  have g8 : (s.toList == [80, 76, 65]) = t8 := (eqS_l _ _).symm.trans h8
  have g9 : (s.toList == [80, 76, 80]) = t9 := (eqS_l _ _).symm.trans h9
  have g10 : (s.toList == [74, 65, 77]) = t10 := (eqS_l _ _).symm.trans h10
  have g11 : ((m : Int) == 0) = t11 := (cast_beq m 0).trans h11
  have g12 : ((m : Int) == 1) = t12 := (cast_beq m 1).trans h12
  have g13 : ((m : Int) == 2) = t13 := (cast_beq m 2).trans h13
  clear h0 h1 h2 h3 h4 h5 h6 h7 h8 h9 h10 h11 h12 h13 h15 h16
  have HW := Lib.hid hW; have HR := Lib.hid hR; clear hW hR
  cases t0 with
  | true =>
    go_enter Tryd.func68, Tryd.ntmps68
    go_wp2_with fail
    go_ret
    exact ⟨rfl, rfl⟩
  | false =>
    cases t1 with
    | true =>
      go_enter Tryd.func68, Tryd.ntmps68
      go_wp2_with fail
      go_ret
      exact ⟨rfl, rfl⟩
    | false =>
      cases t2 with
      | true =>
        go_enter Tryd.func68, Tryd.ntmps68
        go_wp2_with fail
        go_ret
        exact ⟨rfl, rfl⟩
      | false =>
        cases t3 with
        | true =>
          go_enter Tryd.func68, Tryd.ntmps68
          go_wp2_with fail
          go_ret
          exact ⟨rfl, rfl⟩
        | false =>
          cases t4 with
          | true =>
            go_enter Tryd.func68, Tryd.ntmps68
            go_wp2_with fail
            go_ret
            exact ⟨rfl, rfl⟩
          | false =>
            cases t5 with
            | true =>
              go_enter Tryd.func68, Tryd.ntmps68
              go_wp2_with fail
              go_ret
              exact ⟨rfl, rfl⟩
            | false =>
              cases t6 with
              | true =>
                go_enter Tryd.func68, Tryd.ntmps68
                go_wp2_with fail
                go_ret
                exact ⟨rfl, rfl⟩
              | false =>
                cases t7 with
                | true =>
                  go_enter Tryd.func68, Tryd.ntmps68
                  go_wp2_with fail
                  go_ret
                  exact ⟨rfl, rfl⟩
                | false =>
                  cases t8 with
                  | true =>
                    go_enter Tryd.func68, Tryd.ntmps68
                    go_wp2_with fail
                    go_ret
                    exact ⟨rfl, rfl⟩
                  | false =>
                    cases t9 with
                    | true =>
                      go_enter Tryd.func68, Tryd.ntmps68
                      go_wp2_with fail
                      go_ret
                      exact ⟨rfl, rfl⟩
                    | false =>
                      cases t10 with
                      | true =>
                        go_enter Tryd.func68, Tryd.ntmps68
                        go_wp2_with fail
                        go_ret
                        exact ⟨rfl, rfl⟩
                      | false =>
                        cases t11 with
                        | true =>
                          go_enter Tryd.func68, Tryd.ntmps68
                          go_wp2_with fail
                          go_ret
                          exact ⟨rfl, rfl⟩
                        | false =>
                          cases t12 with
                          | true =>
                            go_enter Tryd.func68, Tryd.ntmps68
                            go_wp2_with fail
                            go_ret
                            exact ⟨rfl, rfl⟩
                          | false =>
                            cases t13 with
                            | true =>
                              go_enter Tryd.func68, Tryd.ntmps68
                              go_wp2_with fail
                              go_ret
                              exact ⟨rfl, rfl⟩
                            | false =>
                              cases f with
                              | true =>
                                go_enter Tryd.func68, Tryd.ntmps68
                                go_wp2_with fail
                                go_ret
                                exact ⟨rfl, rfl⟩
                              | false =>
                                cases t15 with
                                | true =>
                                  go_enter Tryd.func68, Tryd.ntmps68
                                  go_wp2_with fail
                                  refine (HW.out _).mono ?_
                                  rintro e w1 ⟨rfl, rfl⟩
                                  go_wp2_with fail
                                  go_ret
                                  exact ⟨rfl, rfl⟩
                                | false =>
                                  cases t16 with
                                  | true =>
                                    go_enter Tryd.func68, Tryd.ntmps68
                                    go_wp2_with fail
                                    refine (HW.out _).mono ?_
                                    rintro e w1 ⟨rfl, rfl⟩
                                    go_wp2_with fail
                                    refine (HR.out _).mono ?_
                                    rintro e w1 ⟨rfl, rfl⟩
                                    go_wp2_with fail
                                    go_ret
                                    exact ⟨rfl, rfl⟩
                                  | false =>
                                    go_enter Tryd.func68, Tryd.ntmps68
                                    go_wp2_with fail
                                    refine (HW.out _).mono ?_
                                    rintro e w1 ⟨rfl, rfl⟩
                                    go_wp2_with fail
                                    refine (HR.out _).mono ?_
                                    rintro e w1 ⟨rfl, rfl⟩
                                    go_wp2_with fail
                                    go_ret
                                    exact ⟨rfl, rfl⟩

def classR (c : Nat) (s : ByteArray) (f : Bool) : Nat := if eqS s [74, 65, 77] then 2 else if f then 3 else if 55 < namedV s ∨ (eqS s [78, 79, 80] = true ∧ c ≠ 234) ∨ c = 235 then 1 else 0
set_option maxRecDepth 100000 in
set_option maxHeartbeats 8000000 in
theorem refclass_any (c : Nat) (s : ByteArray) (f : Bool) (w : World) : Calls Tryd.prog 70 #[.int .u8 (c : Int), .string s, .bool f] w fun e w' => e = .returned (.int .i64 (classR c s f : Int)) ∧ w = w' := by
  have hN := named_any s
  obtain ⟨n, hn⟩ : ∃ n, namedV s = n := ⟨_, rfl⟩
  obtain ⟨t0, h0⟩ : ∃ t, eqS s [74, 65, 77] = t := ⟨_, rfl⟩
  obtain ⟨t1, h1⟩ : ∃ t, eqS s [78, 79, 80] = t := ⟨_, rfl⟩
  obtain ⟨r, hr⟩ : ∃ r, classR c s f = r := ⟨_, rfl⟩
  have hT : r = if t0 then 2 else if f then 3 else if 55 < n ∨ (t1 = true ∧ c ≠ 234) ∨ c = 235 then 1 else 0 := by rw [← hr]; unfold classR; rw [hn, h0, h1]
  have g0 : (s.toList == [74, 65, 77]) = t0 := (eqS_l _ _).symm.trans h0
  have g1 : (s.toList == [78, 79, 80]) = t1 := (eqS_l _ _).symm.trans h1
  rw [hn] at hN
  rw [hr]
  have HN := Lib.hid hN; have HT := Lib.hid hT
  clear hN hT hr hn h0 h1
  go_enter Tryd.func70, Tryd.ntmps70
  cases t0 with
  | true =>
    go_wp2_with fail
    go_ret
    exact ⟨by rw [HT.out]; rfl, rfl⟩
  | false =>
    cases f with
    | true =>
      go_wp2_with fail
      go_ret
      exact ⟨by rw [HT.out]; rfl, rfl⟩
    | false =>
      have HT1 : Hid (r = if 55 < n ∨ (t1 = true ∧ c ≠ 234) ∨ c = 235 then 1 else 0) := Lib.hid (by rw [HT.out]; rfl)
      clear HT
      have HT := HT1; clear HT1
      go_wp2_with fail
      refine (HN.out _).mono ?_
      rintro e w2 ⟨rfl, rfl⟩
      by_cases h2 : 55 < n
      · have b2 : decide ((55 : Int) < n) = true := by simp; omega
        go_wp2_with fail
        go_ret
        exact ⟨by rw [HT.out, if_pos (.inl h2)]; rfl, rfl⟩
      · have b2 : decide ((55 : Int) < n) = false := by simp; omega
        have H2 := Lib.hid h2; clear h2
        cases t1 with
        | true =>
          by_cases h4 : c = 234
          · have b4 : ((c : Int) != 234) = false := by rw [bne_eq_false_iff_eq]; omega
            have b5 : ((c : Int) == 235) = false := by rw [beq_eq_false_iff_ne]; omega
            have H4 := Lib.hid h4; clear h4
            go_wp2_with fail
            go_ret
            exact ⟨by rw [HT.out, if_neg (by have := H4.out; have := H2.out; omega)]; rfl, rfl⟩
          · have b4 : ((c : Int) != 234) = true := by rw [bne_iff_ne]; omega
            go_wp2_with fail
            go_ret
            exact ⟨by rw [HT.out, if_pos (.inr (.inl ⟨by trivial, h4⟩))]; rfl, rfl⟩
        | false =>
          by_cases h4 : c = 235
          · have b4 : ((c : Int) == 235) = true := by rw [beq_iff_eq]; omega
            have H4 := Lib.hid h4; clear h4
            go_wp2_with fail
            go_ret
            exact ⟨by rw [HT.out, if_pos (.inr (.inr H4.out))]; rfl, rfl⟩
          · have b4 : ((c : Int) == 235) = false := by rw [beq_eq_false_iff_ne]; omega
            go_wp2_with fail
            go_ret
            exact ⟨by rw [HT.out, if_neg (by have := H2.out; simp [h4]; omega)]; rfl, rfl⟩
end Go.Proofs.YtknfphgncoojeaaDoor

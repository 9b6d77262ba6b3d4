/- What the printed functions of the CRC come to, from some number of rounds on. -/
import Derived.Test.YtlhbolejnjbfdaaPCartCrcx1
import Derived.Test.YtlhbolejnjbfdaaCrcMath
import Derived.Laws.BitsAllLaws
namespace Go.Proofs.Ytlhbolejnjbfdaa.PureCartCrc
open Go.RowKit Go.Proofs.Ytlhbolejnjbfdaa.PCartCrc Go.Proofs.YtlhbolejnjbfdaaW.PrintWords Go.Proofs.YtlhbolejnjbfdaaW.PrintLast Go.Proofs.Ytlhbolejnjbfdaa.Crcm

def upl (l : List Nat) : List Int := l.map (fun n : Nat => (n : Int))
theorem upl_length (l : List Nat) : (upl l).length = l.length := by simp [upl]
theorem rd_upl (l : List Nat) (i : Nat) (h : i < l.length) : rd (upl l) (i : Int) = ((l[i] : Nat) : Int) := by simp [rd, upl, h]
theorem upl_of (l : List Int) (h : ∀ x ∈ l, (Lit.int .u8 x).wf = true) : ∃ n : List Nat, l = upl n ∧ ∀ d ∈ n, d < 256 := by
  refine ⟨l.map Int.toNat, ?_, ?_⟩
  · unfold upl
    rw [List.map_map]
    conv => lhs; rw [← List.map_id l]
    refine List.map_congr_left fun x hx => ?_
    have := h x hx
    simp only [Lit.wf, Bool.and_eq_true, decide_eq_true_eq] at this
    have hmin : IntKind.u8.min = 0 := rfl
    simp only [Function.comp_apply, id_eq]
    omega
  · intro d hd
    obtain ⟨x, hx, rfl⟩ := List.mem_map.1 hd
    have := h x hx
    simp only [Lit.wf, Bool.and_eq_true, decide_eq_true_eq] at this
    have hmin : IntKind.u8.min = 0 := rfl
    have hmax : IntKind.u8.max = 255 := rfl
    omega
theorem wrap_succ {i n : Nat} (h : i < n) (hn : n ≤ 281474976710656) : wrap64 ((i : Int) + 1) = ((i + 1 : Nat) : Int) := by unfold wrap64; omega

def it : Nat → Nat → Nat
  | 0, r => r
  | m + 1, r => it m (stp r)
theorem it8 (r : Nat) : it 8 r = stp8 r := rfl

theorem and_one (r : Nat) (h : r < 2 ^ 32) : Go.bits .and .u32 (r : Int) 1 = ((r % 2 : Nat) : Int) := by
  have := u32_and_nat r 1 (by omega) (by omega)
  rw [Nat.and_one_is_mod] at this
  exact this
theorem xor_poly (r : Nat) (h : r < 2 ^ 32) : Go.bits .xor .u32 ((r : Int) / 2) 3988292384 = ((r / 2 ^^^ poly : Nat) : Int) := by
  have := u32_xor_nat (r / 2) 3988292384 (by omega) (by omega)
  unfold poly
  rw [← this]; simp

theorem crcOn_in (xs : List Int) (n : Int) (i : Int) (res : Int) : ∀ (m j r : Nat), j + m = 8 → r < 2 ^ 32 →
    Ev (fun k => cart_crcOn.l0 k ((it m r : Nat) : Int) xs n (wrap64 (i + 1))) res → Ev (fun k => cart_crcOn.l1 k (r : Int) xs n i (j : Int)) res := by
  intro m
  induction m with
  | zero =>
    intro j r hj hr h
    refine Ev.step (f := fun k => cart_crcOn.l0 k (r : Int) xs n (wrap64 (i + 1))) (fun k => ?_) h
    simp only [cart_crcOn.l1]
    rw [if_neg (by omega)]
  | succ m ih =>
    intro j r hj hr h
    have hs := ih (j + 1) (stp r) (by omega) (stp_lt hr) h
    refine Ev.step (f := fun k => cart_crcOn.l1 k ((stp r : Nat) : Int) xs n i ((j + 1 : Nat) : Int)) (fun k => ?_) hs
    simp only [cart_crcOn.l1]
    rw [if_pos (by omega), and_one r hr, wrap_succ (n := 8) (by omega) (by omega), xor_poly r hr]
    unfold stp
    by_cases h2 : r % 2 = 1
    · rw [if_neg (by omega), if_pos h2]
    · rw [if_pos (by omega), if_neg h2]; simp

theorem crcOn_ev (l : List Nat) (hl : ∀ d ∈ l, d < 256) (hn : l.length ≤ 281474976710655) : ∀ (m i r : Nat), i + m = l.length → r < 2 ^ 32 →
    Ev (fun k => cart_crcOn.l0 k (r : Int) (upl l) (l.length : Int) (i : Int)) ((on r (l.drop i) : Nat) : Int) := by
  intro m
  induction m with
  | zero =>
    intro i r hi hr
    refine Ev.step (f := fun _ => some ((on r (l.drop i) : Nat) : Int)) (fun k => ?_) (Ev.now _)
    simp only [cart_crcOn.l0]
    rw [if_neg (by omega), List.drop_eq_nil_of_le (by omega)]
    rfl
  | succ m ih =>
    intro i r hi hr
    have hlt : i < l.length := by omega
    have hd : l[i] < 256 := hl _ (List.getElem_mem hlt)
    have hb : byt r l[i] < 2 ^ 32 := byt_lt hr (by omega)
    have hs := ih (i + 1) (byt r l[i]) (by omega) hb
    have hx : r ^^^ l[i] < 2 ^ 32 := Nat.xor_lt_two_pow hr (by omega)
    have := crcOn_in (upl l) (l.length : Int) (i : Int) _ 8 0 (r ^^^ l[i]) (by omega) hx (by rw [it8, wrap_succ (n := l.length) hlt (by omega)]; exact hs)
    rw [List.drop_eq_getElem_cons hlt]
    refine Ev.step (fun k => ?_) this
    simp only [cart_crcOn.l0]
    rw [if_pos (by omega), if_pos (by omega), if_pos (by rw [upl_length]; omega), rd_upl l i hlt]
    have e : (((l[i] : Nat) : Int) % 4294967296) = ((l[i] : Nat) : Int) := by omega
    rw [e, u32_xor_nat r l[i] (by omega) (by omega)]
    rfl
theorem crcOn_all (l : List Nat) (hl : ∀ d ∈ l, d < 256) (hn : l.length ≤ 281474976710655) (r : Nat) (hr : r < 2 ^ 32) :
    Ev (fun k => cart_crcOn.f k (r : Int) (upl l)) ((on r l : Nat) : Int) := by
  have := crcOn_ev l hl hn l.length 0 r (by omega) hr
  rw [List.drop_zero] at this
  refine Ev.congr (fun k => ?_) this
  unfold cart_crcOn.f
  rw [upl_length]; rfl

def crc (l : List Nat) : Nat := on 4294967295 l ^^^ 4294967295
theorem on_lt8 (l : List Nat) (hl : ∀ d ∈ l, d < 256) (r : Nat) (hr : r < 2 ^ 32) : on r l < 2 ^ 32 := on_lt hr (fun d hd => by have := hl d hd; omega)
theorem cartCrc_ev (l : List Nat) (hl : ∀ d ∈ l, d < 256) (hn : l.length ≤ 281474976710655) : Ev (fun k => cart_Crc.f k (upl l)) ((crc l : Nat) : Int) := by
  unfold cart_Crc.f
  refine Ev.bind (f := fun _ t => some (Go.bits .xor .u32 4294967295 t)) (crcOn_all l hl hn 4294967295 (by omega)) ?_
  have := u32_xor_nat 4294967295 (on 4294967295 l) (by omega) (on_lt8 l hl _ (by omega))
  refine Ev.congr (fun k => ?_) (Ev.now _)
  show some (Go.bits .xor .u32 ((4294967295 : Nat) : Int) _) = _
  rw [this]
  unfold crc
  rw [Nat.xor_comm]

theorem copied_ev (l : List Int) (hn : l.length ≤ 281474976710655) : ∀ (m i : Nat), i + m = l.length →
    Ev (fun k => tandemlaw1_copied.l0 k l (l.take i ++ List.replicate m 0) (i : Int)) l := by
  intro m
  induction m with
  | zero =>
    intro i hi
    refine Ev.step (f := fun _ => some l) (fun k => ?_) (Ev.now _)
    simp only [tandemlaw1_copied.l0]
    rw [if_neg (by omega), List.take_of_length_le (by omega)]
    simp
  | succ m ih =>
    intro i hi
    have hlt : i < l.length := by omega
    refine Ev.step (fun k => ?_) (ih (i + 1) (by omega))
    simp only [tandemlaw1_copied.l0]
    rw [if_pos (by omega), if_pos (by omega), if_pos (by simp; omega), wrap_succ (n := l.length) hlt (by omega)]
    congr 1
    have e : rd l (i : Int) = l[i] := by simp [rd, hlt]
    rw [e, Int.toNat_natCast, List.set_append_right _ _ (by simp; omega)]
    have z : i - (l.take i).length = 0 := by simp; omega
    rw [z, List.replicate_succ, List.set_cons_zero, List.take_succ_eq_append_getElem hlt, List.append_assoc]
    rfl
theorem copied_all (l : List Int) (hn : l.length ≤ 281474976710655) : Ev (fun k => tandemlaw1_copied.f k l) l := by
  refine Ev.congr (fun k => ?_) (copied_ev l hn l.length 0 (by omega))
  unfold tandemlaw1_copied.f
  rw [if_pos (by omega), if_pos (by simp; omega)]
  simp
end Go.Proofs.Ytlhbolejnjbfdaa.PureCartCrc

/- CartCrc holds of the given program: three known sums; the sum of a XOR b is affine over lists of one length; a byte turned turns it. For every input. -/
import Derived.Test.YtlhbolejnjbfdaaPCartCrcx2
import Derived.Test.YtlhbolejnjbfdaaCrcEvCartCrc
namespace Go.Proofs.Ytlhbolejnjbfdaa.Pure
open Go.RowKit Go.Proofs.Ytlhbolejnjbfdaa.PCartCrc Go.Proofs.YtlhbolejnjbfdaaW.PrintWords Go.Proofs.YtlhbolejnjbfdaaW.PrintLast Go.Proofs.Ytlhbolejnjbfdaa.Crcm Go.Proofs.Ytlhbolejnjbfdaa.PureCartCrc

theorem span_some (a n : Int) (h : (Lit.int .i64 a).wf = true) (hn : 0 < n) (hm : n ≤ 281474976710655) :
    ∃ i : Nat, tandemlaw1_span.f a 0 (wrap64 (n - 1)) = some (i : Int) ∧ (i : Int) < n := by
  have hmin : IntKind.i64.min = -9223372036854775808 := rfl
  have hmax : IntKind.i64.max = 9223372036854775807 := rfl
  simp only [Lit.wf, Bool.and_eq_true, decide_eq_true_eq] at h
  have e1 : wrap64 (n - 1) = n - 1 := by unfold wrap64; omega
  have e2 : wrap64 (n - 1 - 0) = n - 1 := by unfold wrap64; omega
  have e3 : wrap64 (n - 1 + 1) = n := by unfold wrap64; omega
  have key : ∀ b : Int, 0 ≤ b → ∃ i : Nat, wrap64 (0 + Int.tmod b n) = (i : Int) ∧ (i : Int) < n := by
    intro b hb
    have h1 := Int.tmod_nonneg n hb
    have h2 := Int.tmod_lt_of_pos b hn
    refine ⟨(Int.tmod b n).toNat, ?_, by omega⟩
    have e : (0 : Int) + Int.tmod b n = Int.tmod b n := by omega
    rw [e]
    unfold wrap64
    omega
  unfold tandemlaw1_span.f
  by_cases hc : a < 0
  · rw [if_pos hc, e1, e2, e3, if_neg (by omega)]
    have e4 : wrap64 (a + 1) = a + 1 := by unfold wrap64; omega
    have e5 : wrap64 (-(a + 1)) = -(a + 1) := by unfold wrap64; omega
    rw [e4, e5]
    obtain ⟨i, hi, hlt⟩ := key (-(a + 1)) (by omega)
    exact ⟨i, by rw [hi], hlt⟩
  · rw [if_neg hc, e1, e2, e3, if_neg (by omega)]
    obtain ⟨i, hi, hlt⟩ := key a (by omega)
    exact ⟨i, by rw [hi], hlt⟩

theorem upl_take (l : List Nat) (n : Nat) : (upl l).take n = upl (l.take n) := List.map_take.symm
theorem upl_set (l : List Nat) (i v : Nat) : (upl l).set i (v : Int) = upl (l.set i v) := by simp [upl, List.map_set]
theorem upl_zeros (n : Nat) : List.replicate n (0 : Int) = upl (List.replicate n 0) := by simp [upl]

/-- the lists XORed, one by one: what the loop lays -/
theorem zip_ev (a b : List Nat) (a2 a3 : Int) (n : Nat) (ha : ∀ d ∈ a, d < 256) (hb : ∀ d ∈ b, d < 256) (h1 : n ≤ a.length) (h2 : n ≤ b.length) (hn : a.length ≤ 281474976710655) (res : Bool) :
    ∀ (m i : Nat), i + m = n →
    Ev (fun k => tandemlaw1_CartCrc.l0 k (upl a) (upl b) a2 a3 (n : Int) (upl (List.zipWith (· ^^^ ·) (a.take n) (b.take n))) (n : Int)) res →
    Ev (fun k => tandemlaw1_CartCrc.l0 k (upl a) (upl b) a2 a3 (n : Int) (upl (List.zipWith (· ^^^ ·) (a.take i) (b.take i) ++ List.replicate m 0)) (i : Int)) res := by
  intro m
  induction m with
  | zero =>
    intro i hi h
    obtain rfl : i = n := by omega
    simpa using h
  | succ m ih =>
    intro i hi h
    have la : i < a.length := by omega
    have lb : i < b.length := by omega
    have hs := ih (i + 1) (by omega) h
    have da := ha _ (List.getElem_mem la)
    have db := hb _ (List.getElem_mem lb)
    refine Ev.step (fun k => ?_) hs
    simp only [tandemlaw1_CartCrc.l0]
    rw [if_pos (by omega), if_pos (by omega), if_pos (by rw [upl_length]; omega), if_pos (by rw [upl_length]; omega), if_pos (by rw [upl_length]; simp; omega)]
    rw [rd_upl a i la, rd_upl b i lb, u8_xor_nat _ _ da db, wrap_succ (n := a.length) la (by omega), Int.toNat_natCast, upl_set]
    congr 2
    rw [List.set_append_right _ _ (by simp; omega)]
    have z : i - (List.zipWith (· ^^^ ·) (a.take i) (b.take i)).length = 0 := by simp; omega
    rw [z, List.replicate_succ, List.set_cons_zero, List.take_succ_eq_append_getElem la, List.take_succ_eq_append_getElem lb, List.zipWith_append (by simp; omega), List.append_assoc]
    rfl

theorem xor_cancel (P Q O F : Nat) : ((P ^^^ F) ^^^ (Q ^^^ F)) ^^^ (O ^^^ F) = (P ^^^ Q ^^^ O) ^^^ F := by
  have : ((P ^^^ F) ^^^ (Q ^^^ F)) ^^^ (O ^^^ F) = (P ^^^ Q ^^^ O ^^^ F) ^^^ (F ^^^ F) := by ac_rfl
  rw [this, Nat.xor_self, Nat.xor_zero]

/-- of lists of one length the sum of a XOR b is that of a, that of b and that of zeros -/
theorem crc_affine (a b : List Nat) (h : a.length = b.length) : crc (List.zipWith (· ^^^ ·) a b) = (crc a ^^^ crc b) ^^^ crc (List.replicate a.length 0) := by
  unfold crc
  rw [xor_cancel]
  congr 1
  have h1 := on_zip a b 4294967295 4294967295 h
  have h2 := on_zip (List.zipWith (· ^^^ ·) a b) (List.replicate a.length 0) (4294967295 ^^^ 4294967295) 4294967295 (by simp; omega)
  rw [h1] at h2
  rw [← h2]
  have e : (4294967295 ^^^ 4294967295) ^^^ 4294967295 = 4294967295 := by decide
  rw [e]
  congr 1
  refine List.ext_getElem (by simp [h]) ?_
  intro i hi hi'
  simp

theorem crc_lt (l : List Nat) (hl : ∀ d ∈ l, d < 256) : crc l < 4294967296 :=
  Nat.xor_lt_two_pow (n := 32) (on_lt8 l hl _ (by omega)) (by omega)
theorem zip_small (a b : List Nat) (ha : ∀ d ∈ a, d < 256) (hb : ∀ d ∈ b, d < 256) : ∀ d ∈ List.zipWith (· ^^^ ·) a b, d < 256 := by
  intro d hd
  obtain ⟨i, hi, rfl⟩ := List.mem_iff_getElem.1 hd
  rw [List.getElem_zipWith]
  have hi' := hi
  rw [List.length_zipWith] at hi'
  exact Nat.xor_lt_two_pow (n := 8) (ha _ (List.getElem_mem (by omega))) (hb _ (List.getElem_mem (by omega)))
theorem zeros_small (n : Nat) : ∀ d ∈ List.replicate n 0, d < 256 := by
  intro d hd
  obtain ⟨_, rfl⟩ := List.mem_replicate.1 hd
  omega

/-- the end: a byte turned -/
theorem end_ev (x : List Nat) (hx : ∀ d ∈ x, d < 256) (a2 : Int) (t : Nat) (ht : t < 256) (h2 : (Lit.int .i64 a2).wf = true) (hn : x.length ≤ 281474976710655)
    (q : Bool) (hq : q = true ∨ (0 < x.length ∧ t ≠ 0)) :
    Ev (fun k => tandemlaw1_CartCrc.j3 k a2 (t : Int) (x.length : Int) (upl x) ((crc x : Nat) : Int) q) true := by
  cases q with
  | true =>
    refine Ev.step (f := fun _ => some true) (fun k => ?_) (Ev.now _)
    simp only [tandemlaw1_CartCrc.j3]
    rw [if_pos (by simp)]
  | false =>
    have hq' : 0 < x.length ∧ t ≠ 0 := by rcases hq with h | h; cases h; exact h
    obtain ⟨i, hi, hlt⟩ := span_some a2 (x.length : Int) h2 (by omega) (by omega)
    have hlt' : i < x.length := by omega
    have hy : ∀ d ∈ x.set i (x[i] ^^^ t), d < 256 := by
      intro d hd
      rcases List.mem_or_eq_of_mem_set hd with h | rfl
      · exact hx d h
      · exact Nat.xor_lt_two_pow (n := 8) (hx _ (List.getElem_mem hlt')) ht
    have hc := cartCrc_ev (x.set i (x[i] ^^^ t)) hy (by simpa using hn)
    have hne : crc (x.set i (x[i] ^^^ t)) ≠ crc x := by
      intro h
      unfold crc at h
      have h' : on 4294967295 (x.set i (x[i] ^^^ t)) = on 4294967295 x := by
        have := congrArg (· ^^^ 4294967295) h
        simpa [Nat.xor_assoc] using this
      refine on_set x 4294967295 i (x[i] ^^^ t) (by omega) (fun d hd => by have := hx d hd; omega) ?_ hlt' ?_ h'
      · exact Nat.lt_trans (Nat.xor_lt_two_pow (n := 8) (hx _ (List.getElem_mem hlt')) ht) (by decide)
      · intro e
        apply hq'.2
        have := congrArg (x[i] ^^^ ·) e
        simpa [← Nat.xor_assoc] using this
    refine Ev.step (fun k => ?_) (Ev.bind (f := fun _ (t141 : Int) => some (t141 != ((crc x : Nat) : Int))) hc (Ev.congr (fun k => ?_) (Ev.now true)))
    · simp only [tandemlaw1_CartCrc.j3]
      rw [if_neg (by simp), hi]
      simp only [Option.bind_some]
      rw [if_pos (by omega), if_pos (by rw [upl_length]; exact hlt), rd_upl x i hlt', u8_xor_nat _ _ (hx _ (List.getElem_mem hlt')) ht, Int.toNat_natCast, upl_set]
    · simp only [Option.some.injEq, bne_iff_ne, ne_eq]
      omega

theorem CartCrc : tandemlaw1_CartCrc.Pure := by
  intro l0 l1 a2 a3 hm0 hs0 hw0 hm1 hs1 hw1 h2 h3
  obtain ⟨a, rfl, ha⟩ := upl_of l0 hw0
  obtain ⟨b, rfl, hb⟩ := upl_of l1 hw1
  rw [upl_length] at hs0 hs1
  obtain ⟨t, rfl, ht⟩ : ∃ t : Nat, a3 = (t : Int) ∧ t < 256 := by
    have h := h3
    simp only [Lit.wf, Bool.and_eq_true, decide_eq_true_eq] at h
    have hmin : IntKind.u8.min = 0 := rfl
    have hmax : IntKind.u8.max = 255 := rfl
    exact ⟨a3.toNat, by omega, by omega⟩
  have k1 := cartCrc_ev [49, 50, 51, 52, 53, 54, 55, 56, 57] (by decide) (by decide)
  have k2 := cartCrc_ev [] (by decide) (by decide)
  have k3 := cartCrc_ev [0] (by decide) (by decide)
  have e1 : crc [49, 50, 51, 52, 53, 54, 55, 56, 57] = 3421780262 := by decide +kernel
  have e2 : crc [] = 0 := by decide +kernel
  have e3 : crc [0] = 3523407757 := by decide +kernel
  rw [e1] at k1
  rw [e2] at k2
  rw [e3] at k3
  have main : ∀ n : Nat, n ≤ a.length → n ≤ b.length → Ev (fun k => tandemlaw1_CartCrc.j1 k (upl a) (upl b) a2 (t : Int) (n : Int)) true := by
    intro n na nb
    have hta : ∀ d ∈ a.take n, d < 256 := fun d hd => ha d (List.mem_of_mem_take hd)
    have htb : ∀ d ∈ b.take n, d < 256 := fun d hd => hb d (List.mem_of_mem_take hd)
    have hz := zip_small _ _ hta htb
    have lz : (List.zipWith (· ^^^ ·) (a.take n) (b.take n)).length = n := by simp; omega
    have la : (a.take n).length = n := by simp; omega
    refine Ev.step (f := fun k => tandemlaw1_CartCrc.l0 k (upl a) (upl b) a2 (t : Int) (n : Int) (upl (List.replicate n 0)) 0) (fun k => ?_) ?_
    · simp only [tandemlaw1_CartCrc.j1]
      rw [if_pos (by omega), if_pos (by omega), Int.toNat_natCast, upl_zeros]
    have z := zip_ev a b a2 (t : Int) n ha hb na nb (by omega) true n 0 (by omega)
    simp only [List.take_zero, List.zipWith_nil_left, List.nil_append] at z
    refine z ?_
    -- behind the loop
    have ca := copied_all (upl (a.take n)) (by rw [upl_length]; simp; omega)
    have cb := copied_all (upl (b.take n)) (by rw [upl_length]; simp; omega)
    have qa := cartCrc_ev (a.take n) hta (by simp; omega)
    have qb := cartCrc_ev (b.take n) htb (by simp; omega)
    have qx := cartCrc_ev _ hz (by rw [lz]; omega)
    have qo := cartCrc_ev (List.replicate n 0) (zeros_small n) (by simp; omega)
    have haff := crc_affine (a.take n) (b.take n) (by simp; omega)
    rw [la] at haff
    have tail : ∀ q : Bool, (q = true ∨ (0 < n ∧ t ≠ 0)) → Ev (fun k => tandemlaw1_CartCrc.j3 k a2 (t : Int) (n : Int) (upl (List.zipWith (· ^^^ ·) (a.take n) (b.take n))) ((crc (List.zipWith (· ^^^ ·) (a.take n) (b.take n)) : Nat) : Int) q) true := by
      intro q hq
      have := end_ev _ hz a2 t ht h2 (by rw [lz]; omega) q (by rw [lz]; exact hq)
      rw [lz] at this
      exact this
    generalize hX : List.zipWith (· ^^^ ·) (a.take n) (b.take n) = X at *
    obtain ⟨K1, c1⟩ : ∃ K, ∀ k, K ≤ k → tandemlaw1_copied.f k (upl (a.take n)) = some (upl (a.take n)) := ca
    obtain ⟨K2, c2⟩ : ∃ K, ∀ k, K ≤ k → cart_Crc.f k (upl (a.take n)) = some ((crc (a.take n) : Nat) : Int) := qa
    obtain ⟨K3, c3⟩ : ∃ K, ∀ k, K ≤ k → tandemlaw1_copied.f k (upl (b.take n)) = some (upl (b.take n)) := cb
    obtain ⟨K4, c4⟩ : ∃ K, ∀ k, K ≤ k → cart_Crc.f k (upl (b.take n)) = some ((crc (b.take n) : Nat) : Int) := qb
    obtain ⟨K5, c5⟩ : ∃ K, ∀ k, K ≤ k → cart_Crc.f k (upl X) = some ((crc X : Nat) : Int) := qx
    obtain ⟨K6, c6⟩ : ∃ K, ∀ k, K ≤ k → cart_Crc.f k (upl (List.replicate n 0)) = some ((crc (List.replicate n 0) : Nat) : Int) := qo
    obtain ⟨K7, c7⟩ := tail (if n = 0 then true else (t : Int) == 0) (by by_cases h0 : n = 0 <;> by_cases ht0 : t = 0 <;> simp [h0, ht0] <;> omega)
    have lA := crc_lt _ hta
    have lB := crc_lt _ htb
    have lX := crc_lt _ hz
    have lO := crc_lt _ (zeros_small n)
    refine ⟨K1 + K2 + K3 + K4 + K5 + K6 + K7 + 1, fun k hk => ?_⟩
    obtain ⟨m, rfl⟩ : ∃ m, k = m + 1 := ⟨k - 1, by omega⟩
    simp only [tandemlaw1_CartCrc.l0]
    rw [if_neg (by omega), if_pos (by omega), if_pos (by rw [upl_length]; omega), Int.toNat_natCast, upl_take, upl_take, c1 m (by omega)]
    simp only [Option.bind_some]
    rw [c2 m (by omega)]
    simp only [Option.bind_some]
    rw [if_pos (by rw [upl_length]; omega), c3 m (by omega)]
    simp only [Option.bind_some]
    rw [c4 m (by omega)]
    simp only [Option.bind_some]
    rw [c5 m (by omega)]
    simp only [Option.bind_some]
    rw [if_pos (by omega), upl_zeros, c6 m (by omega)]
    simp only [Option.bind_some]
    rw [u32_xor_nat _ _ lA lB, u32_xor_nat _ _ (Nat.xor_lt_two_pow (n := 32) lA lB) lO, ← haff, if_pos rfl]
    have h7 := c7 m (by omega)
    by_cases h0 : n = 0
    · rw [if_pos (by omega)]
      rw [if_pos h0] at h7
      exact h7
    · rw [if_neg (by omega)]
      rw [if_neg h0] at h7
      exact h7
  have j0 : Ev (fun k => tandemlaw1_CartCrc.j0 k (upl a) (upl b) a2 (t : Int) false) true := by
    by_cases hlt : b.length < a.length
    · refine Ev.step (fun k => ?_) (main b.length (by omega) (by omega))
      simp only [tandemlaw1_CartCrc.j0]
      rw [if_neg (by simp), if_pos (by rw [upl_length, upl_length]; omega), upl_length]
    · refine Ev.step (fun k => ?_) (main a.length (by omega) (by omega))
      simp only [tandemlaw1_CartCrc.j0]
      rw [if_neg (by simp), if_neg (by rw [upl_length, upl_length]; omega), upl_length]
  obtain ⟨K1, c1⟩ := k1
  obtain ⟨K2, c2⟩ := k2
  obtain ⟨K3, c3⟩ := k3
  obtain ⟨K4, c4⟩ := j0
  refine ⟨K1 + K2 + K3 + K4, ?_⟩
  unfold tandemlaw1_CartCrc.f
  have c1' := c1 (K1 + K2 + K3 + K4) (by omega)
  have c2' := c2 (K1 + K2 + K3 + K4) (by omega)
  have c3' := c3 (K1 + K2 + K3 + K4) (by omega)
  simp only [upl, List.map_cons, List.map_nil] at c1' c2' c3'
  rw [show cart_Crc.f (K1 + K2 + K3 + K4) [49, 50, 51, 52, 53, 54, 55, 56, 57] = some ((3421780262 : Nat) : Int) from c1']
  simp only [Option.bind_some]
  rw [show cart_Crc.f (K1 + K2 + K3 + K4) [] = some ((0 : Nat) : Int) from c2']
  simp only [Option.bind_some]
  rw [show cart_Crc.f (K1 + K2 + K3 + K4) [0] = some ((3523407757 : Nat) : Int) from c3']
  simp only [Option.bind_some]
  rw [if_pos (by decide), if_pos (by decide)]
  exact c4 _ (by omega)
end Go.Proofs.Ytlhbolejnjbfdaa.Pure

/- Plain mathematics of the CRC register, over Nat: it is affine, and one byte turned turns it. -/
import Derived.Test.YtlhbolejnjbfdaaProg
namespace Go.Proofs.Ytlhbolejnjbfdaa.Crcm

def poly : Nat := 0xedb88320
def stp (n : Nat) : Nat := if n % 2 = 1 then (n / 2) ^^^ poly else n / 2

theorem stp_lt {n : Nat} (h : n < 2 ^ 32) : stp n < 2 ^ 32 := by
  unfold stp
  split
  · exact Nat.xor_lt_two_pow (by omega) (by decide)
  · omega

theorem xor_mod (a b : Nat) : (a ^^^ b) % 2 = (a + b) % 2 := by
  have h := @Nat.xor_mod_two_eq_one a b
  by_cases ha : a % 2 = 1 <;> by_cases hb : b % 2 = 1
  · have : ¬ (a ^^^ b) % 2 = 1 := by rw [h]; simp [ha, hb]
    omega
  · have : (a ^^^ b) % 2 = 1 := by rw [h]; simp [ha, hb]
    omega
  · have : (a ^^^ b) % 2 = 1 := by rw [h]; simp [ha, hb]
    omega
  · have : ¬ (a ^^^ b) % 2 = 1 := by rw [h]; simp [ha, hb]
    omega

theorem stp_xor (a b : Nat) : stp (a ^^^ b) = stp a ^^^ stp b := by
  unfold stp
  have h1 : (a ^^^ b) / 2 = a / 2 ^^^ b / 2 := Nat.xor_div_two
  have h2 : (a ^^^ b) % 2 = (a + b) % 2 := xor_mod a b
  rcases Nat.mod_two_eq_zero_or_one a with ha | ha <;> rcases Nat.mod_two_eq_zero_or_one b with hb | hb
  · rw [if_neg (by omega), if_neg (by omega), if_neg (by omega), h1]
  · rw [if_pos (by omega), if_neg (by omega), if_pos (by omega), h1, Nat.xor_assoc]
  · rw [if_pos (by omega), if_pos (by omega), if_neg (by omega), h1, Nat.xor_assoc, Nat.xor_assoc, Nat.xor_comm (b/2)]
  · rw [if_neg (by omega), if_pos (by omega), if_pos (by omega), h1]
    have : (a / 2 ^^^ poly) ^^^ (b / 2 ^^^ poly) = (a / 2 ^^^ b / 2) ^^^ (poly ^^^ poly) := by ac_rfl
    rw [this, Nat.xor_self, Nat.xor_zero]

theorem stp_zero {n : Nat} (h : n < 2 ^ 32) (e : stp n = 0) : n = 0 := by
  unfold stp at e
  split at e
  · have : n / 2 = poly := by
      have := congrArg (· ^^^ poly) e
      simpa [Nat.xor_assoc] using this
    unfold poly at this
    omega
  · omega

def stp8 (n : Nat) : Nat := stp (stp (stp (stp (stp (stp (stp (stp n)))))))
theorem stp8_lt {n : Nat} (h : n < 2 ^ 32) : stp8 n < 2 ^ 32 := by
  unfold stp8; exact stp_lt (stp_lt (stp_lt (stp_lt (stp_lt (stp_lt (stp_lt (stp_lt h)))))))
theorem stp8_xor (a b : Nat) : stp8 (a ^^^ b) = stp8 a ^^^ stp8 b := by unfold stp8; simp only [stp_xor]
theorem stp8_zero {n : Nat} (h : n < 2 ^ 32) (e : stp8 n = 0) : n = 0 := by
  unfold stp8 at e
  have h1 := stp_lt h; have h2 := stp_lt h1; have h3 := stp_lt h2; have h4 := stp_lt h3
  have h5 := stp_lt h4; have h6 := stp_lt h5; have h7 := stp_lt h6
  exact stp_zero h (stp_zero h1 (stp_zero h2 (stp_zero h3 (stp_zero h4 (stp_zero h5 (stp_zero h6 (stp_zero h7 e)))))))

def byt (r d : Nat) : Nat := stp8 (r ^^^ d)
theorem byt_lt {r d : Nat} (hr : r < 2 ^ 32) (hd : d < 2 ^ 32) : byt r d < 2 ^ 32 := stp8_lt (Nat.xor_lt_two_pow hr hd)
theorem byt_xor (r d s e : Nat) : byt (r ^^^ s) (d ^^^ e) = byt r d ^^^ byt s e := by
  unfold byt
  rw [← stp8_xor]
  congr 1
  ac_rfl

def on (r : Nat) (l : List Nat) : Nat := l.foldl byt r
theorem on_lt {l : List Nat} : ∀ {r : Nat}, r < 2 ^ 32 → (∀ d ∈ l, d < 2 ^ 32) → on r l < 2 ^ 32 := by
  induction l with
  | nil => intro r h _; exact h
  | cons d l ih =>
    intro r h hl
    exact ih (byt_lt h (hl d (by simp))) (fun e he => hl e (by simp [he]))
theorem on_append (r : Nat) (a b : List Nat) : on r (a ++ b) = on (on r a) b := List.foldl_append
theorem on_zip : ∀ (a b : List Nat) (r s : Nat), a.length = b.length → on (r ^^^ s) (List.zipWith (· ^^^ ·) a b) = on r a ^^^ on s b
  | [], [], r, s, _ => rfl
  | d :: a, e :: b, r, s, h => by
    show on (byt (r ^^^ s) (d ^^^ e)) _ = _
    rw [byt_xor]
    exact on_zip a b _ _ (by simpa using h)
theorem xor_eq_zero {a b : Nat} (h : a ^^^ b = 0) : a = b := by
  have := congrArg (· ^^^ b) h
  simpa [Nat.xor_assoc] using this
theorem byt_inj {r s d : Nat} (hr : r < 2 ^ 32) (hs : s < 2 ^ 32) (h : byt r d = byt s d) : r = s := by
  apply xor_eq_zero
  apply stp8_zero (Nat.xor_lt_two_pow hr hs)
  have := byt_xor r d s d
  rw [Nat.xor_self] at this
  unfold byt at this h
  rw [Nat.xor_zero] at this
  rw [this, h, Nat.xor_self]
theorem byt_inj2 {r d e : Nat} (hd : d < 2 ^ 32) (he : e < 2 ^ 32) (h : byt r d = byt r e) : d = e := by
  apply xor_eq_zero
  apply stp8_zero (Nat.xor_lt_two_pow hd he)
  have := byt_xor r d r e
  rw [Nat.xor_self] at this
  unfold byt at this h
  rw [Nat.zero_xor] at this
  rw [this, h, Nat.xor_self]
theorem on_inj : ∀ (l : List Nat) (r s : Nat), r < 2 ^ 32 → s < 2 ^ 32 → (∀ d ∈ l, d < 2 ^ 32) → on r l = on s l → r = s
  | [], _, _, _, _, _, h => h
  | d :: l, r, s, hr, hs, hl, h => by
    have hd := hl d (by simp)
    exact byt_inj hr hs (on_inj l _ _ (byt_lt hr hd) (byt_lt hs hd) (fun e he => hl e (by simp [he])) h)
/-- one byte turned turns the register -/
theorem on_set : ∀ (l : List Nat) (r i v : Nat), r < 2 ^ 32 → (∀ d ∈ l, d < 2 ^ 32) → v < 2 ^ 32 → (h : i < l.length) → v ≠ l[i] → on r (l.set i v) ≠ on r l
  | d :: l, r, 0, v, hr, hl, hv, _, hne => by
    intro h
    have hd := hl d (by simp)
    have := on_inj l (byt r v) (byt r d) (byt_lt hr hv) (byt_lt hr hd) (fun e he => hl e (by simp [he])) h
    exact hne (byt_inj2 hv hd this)
  | d :: l, r, i + 1, v, hr, hl, hv, h, hne => by
    have hd := hl d (by simp)
    exact on_set l (byt r d) i v (byt_lt hr hd) (fun e he => hl e (by simp [he])) hv (by simpa using h) (by simpa using hne)
end Go.Proofs.Ytlhbolejnjbfdaa.Crcm

/- IsaCounts: the law's walk. -/
import Derived.Test.YtknfphgncoojeaaDoorIsaDec
import Derived.Test.YtknfphgncoojeaaDoorIsaEnc
namespace Go.Proofs.YtknfphgncoojeaaDoor
open Go.RowKit
def sumT (f : Nat → Nat) : Nat → Nat
  | 0 => 0
  | k + 1 => sumT f k + f k
def cntT (f : Nat → Nat) (v k : Nat) : Nat := sumT (fun c => if f c = v then 1 else 0) k
def arrT (f : Nat → Nat) (n k : Nat) : Array Value := ((List.range n).map fun v => Value.int .i64 (cntT f v k : Int)).toArray
def ownT (c : Nat) : Nat := if encT (opT c : Int) (modeT c : Int) = (c, 0) then 1 else 0
def cyT (c : Nat) : Nat := (shapeC c false false).length
def lnT (c : Nat) : Nat := lenR (modeT c)
theorem sumT_le (f : Nat → Nat) (b : Nat) (h : ∀ c, f c ≤ b) : ∀ k, sumT f k ≤ b * k
  | 0 => by simp [sumT]
  | k + 1 => by have := sumT_le f b h k; have := h k; simp only [sumT, Nat.mul_add]; omega
theorem arrT_size (f : Nat → Nat) (n k : Nat) : (arrT f n k).size = n := by simp [arrT]
theorem arrT_at (f : Nat → Nat) (n k v : Nat) (h : v < n) : (arrT f n k)[v]? = some (.int .i64 (cntT f v k : Int)) := by
  simp [arrT, h]
theorem arrT_step (f : Nat → Nat) (n k : Nat) (h : f k < n) : (arrT f n k).setIfInBounds (f k) (.int .i64 ((cntT f (f k) k : Int) + 1)) = arrT f n (k + 1) := by
  apply Array.ext_getElem?
  intro i
  rw [Array.getElem?_setIfInBounds, arrT_size]
  by_cases hi : i < n
  · rw [arrT_at _ _ _ _ hi, arrT_at _ _ _ _ hi]
    by_cases he : f k = i
    · subst he
      simp [cntT, sumT, h]
    · simp [cntT, sumT, he]
  · have h1 : (arrT f n k)[i]? = none := Array.getElem?_eq_none (by rw [arrT_size]; omega)
    have h2 : (arrT f n (k + 1))[i]? = none := Array.getElem?_eq_none (by rw [arrT_size]; omega)
    rw [h1, h2]
    have : ¬ f k = i := by omega
    simp [this]
theorem arrT_zero4 (f : Nat → Nat) : #[Value.int .i64 0, .int .i64 0, .int .i64 0, .int .i64 0] = arrT f 4 0 := rfl
theorem arrT_zero13 (f : Nat → Nat) : #[Value.int .i64 0, .int .i64 0, .int .i64 0, .int .i64 0, .int .i64 0, .int .i64 0, .int .i64 0, .int .i64 0, .int .i64 0, .int .i64 0, .int .i64 0, .int .i64 0, .int .i64 0] = arrT f 13 0 := rfl
theorem cls_all : (List.range 256).all (fun c => decide (classT c < 4) && decide (cyT c < 10) && decide (lnT c < 10)) = true := by decide +kernel
theorem cls_lt (c : Nat) (h : c < 256) : classT c < 4 ∧ cyT c < 10 ∧ lnT c < 10 := by
  have := cls_all
  rw [List.all_eq_true] at this
  have := this c (by simpa using h)
  simpa [Bool.and_eq_true, and_assoc] using this
theorem tot_class : cntT classT 0 256 = 151 ∧ cntT classT 1 256 = 86 ∧ cntT classT 2 256 = 12 ∧ cntT classT 3 256 = 7 := by decide +kernel
theorem tot_mode : cntT modeT 12 256 = 8 ∧ cntT modeT 1 256 = 4 ∧ cntT modeT 11 256 = 1 := by decide +kernel
theorem tot_kind : cntT kindT 4 256 = 5 ∧ cntT kindT 5 256 = 8 ∧ cntT kindT 12 256 = 12 ∧ cntT kindT 2 256 = 17 ∧ cntT kindT 3 256 = 66 ∧ cntT kindT 1 256 = 86 ∧ cntT kindT 0 256 = 52 := by decide +kernel
theorem tot_len : sumT lnT 256 = 546 := by decide +kernel
theorem tot_cy : sumT cyT 256 = 1055 := by decide +kernel
theorem tot_own : sumT ownT 256 = 214 := by decide +kernel
end Go.Proofs.YtknfphgncoojeaaDoor

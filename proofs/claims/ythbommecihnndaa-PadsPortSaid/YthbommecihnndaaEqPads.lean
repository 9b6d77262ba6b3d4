/- '==' of two arrays of two bytes, and of two Pads. -/
import Derived.Test.YthbommecihnndaaProg
import Derived.WalkKit
import Derived.KernelRfl
namespace Go.Proofs.Ythbommecihnndaa
open Go.RowKit
theorem eqi_u8 (d : Nat) (a c : Int) (w : World) : (Op.equalIn (d + 1) 5 (.int .u8 a) (.int .u8 c)).run Try.prog w = .ok (a == c) w := by
  simp [Op.equalIn, run_underlying Try.underlying5]
theorem eqi_bool (d : Nat) (a c : Bool) (w : World) : (Op.equalIn (d + 1) 4 (.bool a) (.bool c)).run Try.prog w = .ok (a == c) w := by
  simp [Op.equalIn, run_underlying Try.underlying4]
theorem part_u8 (a b : Int) (w : World) : (part 5 #[.int .u8 a, .int .u8 b] 0).run Try.prog w = .ok (.int .u8 a) w ∧ (part 5 #[.int .u8 a, .int .u8 b] 1).run Try.prog w = .ok (.int .u8 b) w := ⟨by kernel_rfl, by kernel_rfl⟩
theorem eqi_arr (d : Nat) (a b a' b' : Int) (w : World) :
    (Op.equalIn (d + 2) 22 (.agg #[.int .u8 a, .int .u8 b]) (.agg #[.int .u8 a', .int .u8 b'])).run Try.prog w = .ok ((a == a') && (b == b')) w := by
  rw [Op.equalIn]
  simp only [Sem.run_bind, run_underlying Try.underlying22, Result.andThen_ok]
  simp [List.range', (part_u8 _ _ _).1, (part_u8 _ _ _).2, eqi_u8]
  by_cases h1 : a = a' <;> by_cases h2 : b = b' <;> simp [h1, h2]
theorem eql_arr (a b a' b' : Int) (w : World) :
    (binOp .eql 22 (.agg #[.int .u8 a, .int .u8 b]) (.agg #[.int .u8 a', .int .u8 b'])).run Try.prog w = .ok (.bool ((a == a') && (b == b'))) w := by
  simp only [binOp]
  simp [Op.equal, Op.maxDepth, eqi_arr]
theorem parts_pads (s : Bool) (h0 h1 t0 t1 : Int) (w : World) : (part 4 #[.bool s, .int .u8 h0, .int .u8 h1, .int .u8 t0, .int .u8 t1] 0).run Try.prog w = .ok (.bool s) w ∧
    (part 22 #[.bool s, .int .u8 h0, .int .u8 h1, .int .u8 t0, .int .u8 t1] 1).run Try.prog w = .ok (.agg #[.int .u8 h0, .int .u8 h1]) w ∧
    (part 22 #[.bool s, .int .u8 h0, .int .u8 h1, .int .u8 t0, .int .u8 t1] 3).run Try.prog w = .ok (.agg #[.int .u8 t0, .int .u8 t1]) w := ⟨by kernel_rfl, by kernel_rfl, by kernel_rfl⟩
/-- two Pads that are the same -/
theorem neq_pads_same (s : Bool) (h0 h1 t0 t1 : Int) (w : World) :
    (binOp .neq 24 (.agg #[.bool s, .int .u8 h0, .int .u8 h1, .int .u8 t0, .int .u8 t1]) (.agg #[.bool s, .int .u8 h0, .int .u8 h1, .int .u8 t0, .int .u8 t1])).run Try.prog w = .ok (.bool false) w := by
  have hu : Try.prog.underlying 24 = some (.struct (Try.prog.fieldsOf 24)) := by kernel_rfl
  have hp : Try.prog.stoodInHeld 24 = false := by kernel_rfl
  have hs : (Op.equalIn 10000 24 (.agg #[.bool s, .int .u8 h0, .int .u8 h1, .int .u8 t0, .int .u8 t1]) (.agg #[.bool s, .int .u8 h0, .int .u8 h1, .int .u8 t0, .int .u8 t1])).run Try.prog w = .ok true w := by
    refine (run_equalIn_struct (P := Try.prog) w 9999 24 #[.bool s, .int .u8 h0, .int .u8 h1, .int .u8 t0, .int .u8 t1] #[.bool s, .int .u8 h0, .int .u8 h1, .int .u8 t0, .int .u8 t1] hu hp).trans ?_
    obtain ⟨p1, p2, p3⟩ := parts_pads s h0 h1 t0 t1 w
    have e0 := eqi_bool 9998 s s w
    have e1 := eqi_arr 9997 h0 h1 h0 h1 w
    have e2 := eqi_arr 9997 t0 t1 t0 t1 w
    simp only [Nat.reduceAdd] at e0 e1 e2
    simp [Program.fieldsOf, Try.underlying24, Op.eqFields, p1, p2, p3, e0, e1, e2]
  simp only [binOp]
  simp [Op.equal, Op.maxDepth, hs]
end Go.Proofs.Ythbommecihnndaa

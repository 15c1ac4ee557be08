/-
  Chapter 17: RecordOnlyOnce.
-/
import Derived.Test.YtiholnebhmjbjaaM17W1
set_option linter.unusedSimpArgs false
set_option linter.unusedVariables false
set_option linter.unusedSectionVars false
namespace Go.Proofs.Ytiholnebhmjbjaa
open Go.RowKit
set_option maxRecDepth 1000000

theorem aggS {e nx : Int} {key salt : List UInt8} {K : Int → Int → List UInt8 → List UInt8 → Prop} (h : K e nx key salt) : ∃ (n0 n1 : Int) (s2 s3 : List UInt8), AV.agg [.int .i64 e, .int .i64 nx, .str key, .str salt] = AV.agg [.int .i64 n0, .int .i64 n1, .str s2, .str s3] ∧ K n0 n1 s2 s3 := ⟨_, _, _, _, rfl, h⟩
/-! ## the run -/
theorem ckNot {b : Bool} {A B : Prop} (h : b = true) (k : B) : (bif !b then A else B) := by rw [h]; exact k
end Go.Proofs.Ytiholnebhmjbjaa

/-
  Chapter 24: Same.
-/
import Derived.Test.YtafchcmemeinlaaDoorC24XS
set_option linter.unusedSimpArgs false
set_option linter.unusedVariables false
set_option linter.unusedSectionVars false
namespace Go.Proofs.YtafchcmemeinlaaDoor
open Go.RowKit
set_option maxRecDepth 1000000

theorem agC {cs : List AV} {c : Ctl} (e : cs = ctC c) {K : Int → Int → Int → Int → Int → Int → Int → Int → Nat → List AV → Nat → Nat → List AV → Nat → Int → Int → Nat → List AV → Nat → Prop} (h : K c.k c.f c.a c.s1 c.s2 c.s3 c.s4 c.s5 0 (cellsRM c.rs) c.rs.length 0 (cellsI c.lo) c.lo.length c.ba c.ro 0 (cellsI c.ti) c.ti.length) :
  ∃ (n0 n1 n2 n3 n4 n5 n6 n7 : Int) (t8 : Nat) (c8 : List AV) (l8 : Nat) (t9 : Nat) (c9 : List AV) (l9 : Nat) (n10 n11 : Int) (t12 : Nat) (c12 : List AV) (l12 : Nat), AV.agg cs = AV.agg [.int .i64 n0, .int .i64 n1, .int .i64 n2, .int .i64 n3, .int .i64 n4, .int .i64 n5, .int .i64 n6, .int .i64 n7, .lst t8 c8 l8 7, .lst t9 c9 l9 1, .int .i64 n10, .int .i64 n11, .lst t12 c12 l12 1] ∧ K n0 n1 n2 n3 n4 n5 n6 n7 t8 c8 l8 t9 c9 l9 n10 n11 t12 c12 l12 :=
 ⟨_, _, _, _, _, _, _, _, _, _, _, _, _, _, _, _, _, _, _, by rw [e]; rfl, h⟩
end Go.Proofs.YtafchcmemeinlaaDoor

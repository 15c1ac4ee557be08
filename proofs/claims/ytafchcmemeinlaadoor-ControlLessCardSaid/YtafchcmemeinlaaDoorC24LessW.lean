/-
  Chapter 24: the walk of ControlLess.
-/
import Derived.Test.YtafchcmemeinlaaDoorC24B
import Derived.Test.YtafchcmemeinlaaDoorC24C
namespace Go.Proofs.YtafchcmemeinlaaDoor
open Go.RowKit

theorem controlLess_walk (a b c : Int) (w : World) (hL : laidMetH Tryd.prog L24 w) (wa : (Lit.int .u32 a).wf = true) (wb : (Lit.int .u32 b).wf = true) (wc : (Lit.int .u16 c).wf = true) :
    Calls Tryd.prog 7 #[.int .u32 a, .int .u32 b, .int .u16 c] w fun e w' => e = .returned (.bool true) ∧ Below w.heap.size w w' := by
  obtain ⟨hv, hb, h⟩ := less_run a b c (by simp [Lit.wf, IntKind.min, IntKind.max, IntKind.signed, IntKind.bits] at wa; omega) (by simp [Lit.wf, IntKind.min, IntKind.max, IntKind.signed, IntKind.bits] at wb; omega) (by simp [Lit.wf, IntKind.min, IntKind.max, IntKind.signed, IntKind.bits] at wc; omega)
  exact call_true (envFor24 smLess_ok _ _ _) h w (glob24 hL) (by simp [VR])
end Go.Proofs.YtafchcmemeinlaaDoor

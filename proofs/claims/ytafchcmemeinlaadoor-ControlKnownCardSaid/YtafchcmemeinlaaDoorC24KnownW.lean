/-
  Chapter 24: the walk of ControlKnown.
-/
import Derived.Test.YtafchcmemeinlaaDoorC24V
import Derived.Test.YtafchcmemeinlaaDoorC24C
set_option linter.unusedSimpArgs false
set_option linter.unusedVariables false
namespace Go.Proofs.YtafchcmemeinlaaDoor
open Go.RowKit

theorem isTQ_isT (o : Out) (H : List Blk) (k : Gh) (h : isTQ o H k = true) : isT o H k := by
  unfold isTQ at h
  split at h
  · trivial
  · cases h
theorem walk_q {q : QE} (hE : EnvFor Tryd.prog (qenv q)) (n f : Nat) (hg : q.gl = glC) (h : callxQ q (wpQ q n) f [] [] {} isTQ = true) (w : World) (hL : laidMetH Tryd.prog L24 w) : Calls Tryd.prog f #[] w fun e w' => e = .returned (.bool true) ∧ Below w.heap.size w w' :=
  call_true hE (run_ok (ce_qenv q) isTQ_isT h) w (by show Glob q.gl w; rw [hg]; exact glob24 hL) (by simp [VRL_nil])
theorem controlKnown_walk (w : World) (hL : laidMetH Tryd.prog L24 w) : Calls Tryd.prog 8 #[] w fun e w' => e = .returned (.bool true) ∧ Below w.heap.size w w' := walk_q envForK 1000000 8 rfl known_run w hL
end Go.Proofs.YtafchcmemeinlaaDoor

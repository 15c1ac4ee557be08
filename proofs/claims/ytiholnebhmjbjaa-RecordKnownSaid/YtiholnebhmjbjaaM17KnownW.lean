/-
  Chapter 17: the walk of RecordKnown.
-/
import Derived.Test.YtiholnebhmjbjaaM17V
set_option linter.unusedSimpArgs false
set_option linter.unusedVariables false
namespace Go.Proofs.Ytiholnebhmjbjaa
open Go.RowKit
set_option maxRecDepth 1000000

theorem glob0 (w : World) : Glob gl0 w := fun g cs h => by cases h
theorem isTQ_isT (o : Out) (H : List Blk) (k : Gh) (h : isTQ o H k = true) : isT o H k := by
  unfold isTQ at h
  split at h
  · trivial
  · cases h
theorem walk_q {q : QE} (hE : EnvFor Try.prog (qenv q)) (n f : Nat) (hg : q.gl = gl0) (h : callxQ q (wpQ q n) f [] [] {} isTQ = true) (w : World) : Calls Try.prog f #[] w fun e w' => e = .returned (.bool true) ∧ Below w.heap.size w w' :=
  call_true hE (run_ok (ce_qenv q) isTQ_isT h) w (by show Glob q.gl w; rw [hg]; exact glob0 w) (by simp [VRL_nil])
theorem recordKnown_walk (w : World) : Calls Try.prog 8 #[] w fun e w' => e = .returned (.bool true) ∧ Below w.heap.size w w' := walk_q envForQK 1000000 8 rfl known_run w
end Go.Proofs.Ytiholnebhmjbjaa

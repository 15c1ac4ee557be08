/-
  Chapter 25: the walk of ShieldKnown.
-/
import Derived.Test.YtnhechnaemmdiaaGreatDoorK25X
import Derived.Test.YtnhechnaemmdiaaGreatDoorK25L
set_option linter.unusedSimpArgs false
set_option linter.unusedVariables false
namespace Go.Proofs.YtnhechnaemmdiaaGreatDoor
open Go.RowKit
set_option maxRecDepth 1000000

theorem isTQ_isT (o:Out) (H:List Blk) (k:Gh) (h:isTQ o H k=true):isT o H k:=by
 unfold isTQ at h
 split at h
 ·trivial
 ·cases h
theorem walk_q {q:QE} (hE:EnvFor Tryz.prog (qenv q)) (n f:Nat) (hg:q.gl=gl0) (h:callxQ q (wpQ q n) f [] [] {} isTQ=true) (w:World) (hL:laidMetH Tryz.prog L25 w):Calls Tryz.prog f #[] w fun e w'=>e=.returned (.bool true)∧Below w.heap.size w w':=
 call_true hE (run_ok (ce_qenv q) isTQ_isT h) w (by show Glob q.gl w;rw[hg];exact glob25 hL) (by simp[VRL_nil])
theorem shieldKnown_walk (w:World) (hL:laidMetH Tryz.prog L25 w):Calls Tryz.prog 11 #[] w fun e w'=>e=.returned (.bool true)∧Below w.heap.size w w':=walk_q envForK 10000000 11 rfl known_run w hL
end Go.Proofs.YtnhechnaemmdiaaGreatDoor

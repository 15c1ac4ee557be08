/-
  Chapter 25: ShieldKnown's run.
-/
import Derived.Test.YtnhechnaemmdiaaGreatDoorK25V
set_option linter.unusedSimpArgs false
set_option linter.unusedVariables false
namespace Go.Proofs.YtnhechnaemmdiaaGreatDoor
open Go.RowKit
set_option maxRecDepth 1000000

def qK:QE := { fn:=fun f=>lookF f tabA,sm:=lookQ [(20,cTrueQ),(48,cRepeatQ),(66,cSealQ),(82,cOpenQ),(129,cJoinQ)],gl:=gl0 }
theorem envForK:EnvFor Tryz.prog (qenv qK):=⟨mixed04,names04,tabA_ok,lookQ_ok _ (by simp only[List.mem_cons,List.not_mem_nil,or_false,forall_eq_or_imp,forall_eq];exact ⟨valid_trueQ works_ok,repeatQ_ok,sealQ_ok,openQ_ok,joinQ_ok⟩)⟩
theorem known_run:callxQ qK (wpQ qK 10000000) 11 [] [] {} isTQ=true:=by kernel_rfl
end Go.Proofs.YtnhechnaemmdiaaGreatDoor

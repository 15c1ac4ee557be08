/-
  Chapter 25: the chapter's examples hold.
-/
import Derived.Test.YtnhechnaemmdiaaGreatDoorK25C
set_option linter.unusedSimpArgs false
set_option linter.unusedVariables false
namespace Go.Proofs.YtnhechnaemmdiaaGreatDoor
open Go.RowKit
set_option maxRecDepth 1000000

noncomputable def qW:QE := { fn:=fun f=>fnOf Tryz.prog f,sm:=lookQ [(48,cRepeatQ),(66,cSealQ),(82,cOpenQ),(129,cJoinQ)],gl:=gl0 }
theorem envForQW:EnvFor Tryz.prog (qenv qW):=⟨mixed04,names04,tabA_ok,lookQ_ok _ (by simp only[List.mem_cons,List.not_mem_nil,or_false,forall_eq_or_imp,forall_eq];exact ⟨repeatQ_ok,sealQ_ok,openQ_ok,joinQ_ok⟩)⟩
theorem works_run:callxQ qW (wpQ qW 1000000) 20 [] [] {} isTQ=true:=by kernel_rfl
theorem works_ok:ValidF Tryz.prog gl0 20 cTrue:=valid_quick (q:=qW) (enters_of (by kernel_rfl)) gl0_noY envForQW works_run
end Go.Proofs.YtnhechnaemmdiaaGreatDoor

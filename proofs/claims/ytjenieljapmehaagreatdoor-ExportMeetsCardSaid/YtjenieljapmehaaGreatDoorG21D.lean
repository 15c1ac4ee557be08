/-
  Chapter 18: the program's digest.
-/
import Derived.Test.YtjenieljapmehaaGreatDoorG21C
set_option linter.unusedSimpArgs false
set_option linter.unusedVariables false
set_option linter.unusedSectionVars false
namespace Go.Proofs.YtjenieljapmehaaGreatDoor
open Go.RowKit
set_option maxRecDepth 1000000

def cConst:Con:=fun args H K=>match args with | []=>K (.ret constV) H | _=>False
theorem endC_ok {o:Out} {H:List Blk} {k:Gh} (h:endC o H k=true):H=[]∧o=.ret constV:=by
 unfold endC at h
 split at h
 ·rename_i v
  have e:=eqAVL_ok [v] [constV] (by rw[eqAVL,h];rfl)
  simp only[List.cons.injEq,and_true] at e
  rw[e]
  exact ⟨rfl,rfl⟩
 ·cases h
theorem constV_old:old 0 constV=true:=by kernel_rfl
theorem constV_noY:noY constV=true:=by kernel_rfl
theorem valid_const {P:Program} {f:FuncId} {q:QE} {v:AV} {n:Nat} {Qb:Out→List Blk→Gh→Bool} (he:Enters P f) (hgl:∀g cs,q.gl g=some cs→noYL cs=true) (hE:EnvFor P (qenv q)) (h1:old 0 v=true) (h2:noY v=true)
  (hQ:∀o H k,Qb o H k=true→H=[]∧o=.ret v) (h:callxQ q (wpQ q n) f [] [] {} Qb=true):ValidF P q.gl f (fun args H K=>match args with | []=>K (.ret v) H | _=>False):=by
 refine valid_flat he hgl fun args H Q hc => ?_
 split at hc
 ·refine ⟨rfl,rfl,qenv q,n,hE,rfl,run_ok (ce_qenv q) (fun o H' k hb => ?_) h⟩
  obtain ⟨e1,e2⟩:=hQ o H' k hb
  rw[e1,e2]
  exact ⟨rfl,⟨_,rfl,h1,h2⟩,hc⟩
 ·exact hc.elim
theorem const_ok:ValidF Tryz.prog gl0 91 cConst:=valid_const (q:=qC) (enters_of (by kernel_rfl)) gl0_noY envForQC constV_old constV_noY (fun _ _ _=>endC_ok) const_run
end Go.Proofs.YtjenieljapmehaaGreatDoor

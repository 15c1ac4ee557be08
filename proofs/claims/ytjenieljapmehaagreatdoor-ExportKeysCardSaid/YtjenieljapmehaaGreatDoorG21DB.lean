/-
  Chapter 18: the reference's table of constants: a closed run.
-/
import Derived.Test.YtjenieljapmehaaGreatDoorGmD
import Derived.Test.YtjenieljapmehaaGreatDoorGmB
import Derived.Test.YtjenieljapmehaaGreatDoorG21D
set_option linter.unusedSimpArgs false
set_option linter.unusedVariables false
set_option linter.unusedSectionVars false
namespace Go.Proofs.YtjenieljapmehaaGreatDoor
open Go.RowKit
set_option maxRecDepth 1000000

def cPrimQ:ConQ
 | [.int .i64 n],H=>bif decide (n=64) then some (.ret (.lst 0 (cells6M primL) 64 1),H) else none
 | _,_=>none
theorem primQ_ok:ValidF Tryz.prog gl0 21 (toP cPrimQ):=valid_to prim_ok fun args H o H' K ho hk=>by
 unfold cPrimQ at ho
 split at ho
 ·rename_i n
  show Lf (n=64)∧K (.ret (.lst 0 (cells6M primL) 64 1)) H
  cases hb:decide (n=64)<;>rw[hb] at ho
  ·cases ho
  ·cases ho;exact ⟨⟨of_decide_eq_true hb⟩,hk⟩
 ·cases ho
def qD:QE := { fn:=fun f=>lookF f tabA,sm:=lookQ [(22,cRootQ),(21,cPrimQ)],gl:=gl0 }
theorem envForQD:EnvFor Tryz.prog (qenv qD):=⟨mixed18,names18,tabA_ok,lookQ_ok _ (by simp only[List.mem_cons,List.not_mem_nil,or_false,forall_eq_or_imp,forall_eq];exact ⟨rootQ_ok,primQ_ok⟩)⟩
def tableV:AV:=.agg [.lst 0 (cells6M startM) 8 1,.lst 0 (cells6M kkM) 64 1]
def endD (o:Out) (H:List Blk) (_:Gh):Bool:=match o with
 | .ret v=>eqAV (frzV 0 H 9 v) tableV
 | _=>false
set_option maxHeartbeats 40000000 in
theorem table_run:callxQ qD (wpQ qD 1000000) 6 [] [] {} endD=true:=by kernel_rfl
def cTable:Con:=fun args H K=>match args with | []=>K (.ret tableV) H | _=>False
theorem endD_ok (o:Out) (H:List Blk) (k:Gh) (h:endD o H k=true):∃v,o=.ret v∧frzV 0 H 9 v=tableV:=by
 unfold endD at h
 split at h
 ·rename_i v
  exact ⟨v,rfl,eqAV_ok _ _ h⟩
 ·cases h
theorem valid_frzQ {P:Program} {f:FuncId} {q:QE} {tv:AV} {n:Nat} {Qb:Out→List Blk→Gh→Bool} (he:Enters P f) (hgl:∀g cs,q.gl g=some cs→noYL cs=true) (hE:EnvFor P (qenv q))
  (hQ:∀o H k,Qb o H k=true→∃v,o=.ret v∧frzV 0 H 9 v=tv) (h:callxQ q (wpQ q n) f [] [] {} Qb=true):ValidF P q.gl f (fun args H K=>match args with | []=>K (.ret tv) H | _=>False):=by
 refine valid_frz he hgl 9 id (fun a=>wk_refl a) fun args H Q hc => ?_
 split at hc
 ·refine ⟨rfl,rfl,qenv q,n,hE,rfl,run_ok (ce_qenv q) (fun o H' k hb => ?_) h⟩
  obtain ⟨v,e1,e2⟩:=hQ o H' k hb
  exact ⟨v,e1,by rw[id,e2];exact hc⟩
 ·exact hc.elim
theorem table_ok:ValidF Tryz.prog gl0 6 cTable:=valid_frzQ (q:=qD) (enters_of (by kernel_rfl)) gl0_noY envForQD endD_ok table_run
end Go.Proofs.YtjenieljapmehaaGreatDoor

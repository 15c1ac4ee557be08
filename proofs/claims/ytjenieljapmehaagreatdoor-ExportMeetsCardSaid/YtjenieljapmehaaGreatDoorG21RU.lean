/-
  Chapter 21: Records and Media, all results at once.
-/
import Derived.Test.YtjenieljapmehaaGreatDoorG21ZA
set_option linter.unusedSimpArgs false
set_option linter.unusedVariables false
set_option linter.unusedSectionVars false
namespace Go.Proofs.YtjenieljapmehaaGreatDoor
open Go.RowKit
set_option maxRecDepth 1000000

def recAM (m:List UInt8) (r:Int) (c:Bool):Int×List UInt8×List UInt8×List UInt8×List UInt8×Int×Int:=
 if okRndM m r=true then (r,(recM (recSM m r) c).1,(recM (recSM m r) c).2.1,(recM (recSM m r) c).2.2.1,(recM (recSM m r) c).2.2.2, -1,0) else (0,[],[],[],[],0,2)
def cRecU:Con
 | [.str m,.int .i64 r,.bool c],H,K=>∀ (p:Int) (k1 s1 k2 s2:List UInt8) (t e:Int),Lf (recAM m r c=(p,k1,s1,k2,s2,t,e))→K (.ret (.tup [.agg [.int .i64 p,.int .i64 0,.str k1,.str s1],.agg [.int .i64 p,.str k2,.str s2,.int .i64 t,.int .u64 0],.int .i64 e])) H
 | _,_,_=>False
theorem recu_ok:ValidF Tryz.prog gl0 13 cRecU:=by
 refine ⟨rec_ok13.1,fun args H Q hc=>rec_ok13.2 args H Q ?_⟩
 unfold cRecU at hc
 split at hc
 ·rename_i m r c
  show bif okRndM m r then _ else _
  cases h:okRndM m r with
  | true=>
   rintro k1 s1 k2 s2 ⟨e⟩
   exact hc r k1 s1 k2 s2 (-1) 0 ⟨by rw[recAM,if_pos h,e]⟩
  | false=>exact hc 0 [] [] [] [] 0 2 ⟨by rw[recAM,if_neg (by simp[h])]⟩
 ·exact hc.elim
def medAM (m:List UInt8) (r:Int) (c:Bool):List UInt8×List UInt8×List UInt8×List UInt8×List UInt8×List UInt8×Int:=
 if okRndM m r=true then ((medM (medSM m r) c).1,(medM (medSM m r) c).2.1,(medM (medSM m r) c).2.2.1,(medM (medSM m r) c).2.2.2.1,(medM (medSM m r) c).2.2.2.2.1,(medM (medSM m r) c).2.2.2.2.2,0) else ([],[],[],[],[],[],2)
def cMedU:Con
 | [.str m,.int .i64 r,.bool c],H,K=>∀ (k1 s1 x1 k2 s2 x2:List UInt8) (e:Int),Lf (medAM m r c=(k1,s1,x1,k2,s2,x2,e))→K (.ret (.tup [.agg [.str k1,.str s1,.str x1],.agg [.str k2,.str s2,.str x2],.int .i64 e])) H
 | _,_,_=>False
theorem medu_ok:ValidF Tryz.prog gl0 15 cMedU:=by
 refine ⟨med_ok14.1,fun args H Q hc=>med_ok14.2 args H Q ?_⟩
 unfold cMedU at hc
 split at hc
 ·rename_i m r c
  show bif okRndM m r then _ else _
  cases h:okRndM m r with
  | true=>
   rintro k1 s1 x1 k2 s2 x2 ⟨e⟩
   exact hc k1 s1 x1 k2 s2 x2 0 ⟨by rw[medAM,if_pos h,e]⟩
  | false=>exact hc [] [] [] [] [] [] 2 ⟨by rw[medAM,if_neg (by simp[h])]⟩
 ·exact hc.elim
theorem iminI (x k:Int) (h:0≤x) (hk:0≤k):0≤imin x k∧imin x k≤x∧imin x k≤k:=by
 unfold imin
 split<;>omega
theorem eqBs (s:List UInt8):eqB s s=true:=eqB_t.2 rfl
end Go.Proofs.YtjenieljapmehaaGreatDoor

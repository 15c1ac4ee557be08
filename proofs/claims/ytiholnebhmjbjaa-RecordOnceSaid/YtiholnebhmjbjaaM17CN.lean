/-
  Chapter 17: contracts that compute; the examples hold; RecordKnown's run.
-/
import Derived.Test.YtiholnebhmjbjaaM17B
import Derived.Test.YtiholnebhmjbjaaEnJ
set_option linter.unusedSimpArgs false
set_option linter.unusedVariables false
set_option linter.unusedSectionVars false
namespace Go.Proofs.Ytiholnebhmjbjaa
open Go.RowKit
set_option maxRecDepth 1000000

def cRepeatQ:ConQ
 | [.str s,.int .i64 c],H=>bif decide (0≤c)&&Nat.ble c.toNat 9223372036854775807&&Nat.ble (s.length*c.toNat) 140737488355328 then some (.ret (.str (repM s c.toNat)),H) else none
 | _,_=>none
theorem repeatQ_ok:ValidF Try.prog gl0 29 (toP cRepeatQ):=valid_to repeat_ok fun args H o H' K ho hk=>by
 unfold cRepeatQ at ho
 split at ho
 ·rename_i s c
  show (bif decide (0≤c)&&Nat.ble c.toNat 9223372036854775807&&Nat.ble (s.length*c.toNat) 140737488355328 then K (.ret (.str (repM s c.toNat))) H else False)
  cases hb:decide (0≤c)&&Nat.ble c.toNat 9223372036854775807&&Nat.ble (s.length*c.toNat) 140737488355328<;>rw[hb] at ho
  ·cases ho
  ·cases ho;exact hk
 ·cases ho
def cDecQ:ConQ
 | [.str s],H=>bif Nat.ble s.length 9223372036854775807 then (match decM s with | (l,e)=>some (.ret (.tup [.lst 0 (cellsRM l) l.length 4,.int .i64 e]),H)) else none
 | _,_=>none
theorem decQ_ok:ValidF Try.prog gl0 16 (toP cDecQ):=valid_to dec_ok fun args H o H' K ho hk=>by
 unfold cDecQ at ho
 split at ho
 ·rename_i s
  cases hb:Nat.ble s.length 9223372036854775807<;>rw[hb] at ho
  ·cases ho
  ·rw[Nat.ble_eq] at hb
   refine ⟨⟨hb⟩,fun l e he => ?_⟩
   rw[he.h] at ho
   cases ho;exact hk
 ·cases ho
def qW:QE := { fn:=fun f=>lookF f tabA,sm:=lookQ [(16,cDecQ),(29,cRepeatQ)],gl:=gl0 }
theorem envForQW:EnvFor Try.prog (qenv qW):=⟨mixed04,names04,tabA_ok,lookQ_ok _ (by simp only[List.mem_cons,List.not_mem_nil,or_false,forall_eq_or_imp,forall_eq];exact ⟨decQ_ok,repeatQ_ok⟩)⟩
theorem wakes_run:callxQ qW (wpQ qW 1000000) 10 [] [] {} isTQ=true:=by kernel_rfl
theorem wakes_ok:ValidF Try.prog gl0 10 cTrue:=valid_quick (q:=qW) (enters_of (by kernel_rfl)) gl0_noY envForQW wakes_run
end Go.Proofs.Ytiholnebhmjbjaa

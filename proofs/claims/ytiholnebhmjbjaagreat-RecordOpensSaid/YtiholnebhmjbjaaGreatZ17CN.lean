/-
  Chapter 17, second seat: contracts that compute; the examples hold.
-/
import Derived.Test.YtiholnebhmjbjaaGreatZ17B
set_option linter.unusedSimpArgs false
set_option linter.unusedVariables false
set_option linter.unusedSectionVars false
namespace Go.Proofs.YtiholnebhmjbjaaGreat
open Go.RowKit
set_option maxRecDepth 1000000

theorem valid_imp {P:Program} {gl:Nat→Option (List AV)} {f:FuncId} {c c':List AV→List Blk→(Out→List Blk→Prop)→Prop} (hc:ValidF P gl f c) (h:∀args H K,c' args H K→c args H K):ValidF P gl f c':=
 ⟨hc.1,fun args H Q hq=>hc.2 args H Q (h args H Q hq)⟩
def cSealC:Con
 | [.str a,.str b,.str c,.str d],H,K=>K (.ret (.tup [.str (sealM a b c d).1,.int .i64 (sealM a b c d).2])) H
 | _,_,_=>False
def cApplyC:Con
 | [.str a,.str b,.int .i64 c,.str d],H,K=>K (.ret (.tup [.str (applyM a b c d).1,.int .i64 (applyM a b c d).2])) H
 | _,_,_=>False
def cCheckedC:Con
 | [.str a,.str b,.str c,.str d],H,K=>bif rightM a b 0&&(Nat.blt c.length 65536&&Nat.blt d.length 65536) then K (.ret (.str (checkM a b c d))) H else False
 | _,_,_=>False
def cDecC:Con
 | [.str s],H,K=>bif Nat.ble s.length 9223372036854775807 then K (.ret (.tup [.lst 0 (cellsRM (decM s).1) (decM s).1.length 4,.int .i64 (decM s).2])) H else False
 | _,_,_=>False
theorem sealC_ok:ValidF Tryz.prog gl0 32 cSealC:=valid_imp seal_ok fun args H K h=>by
 unfold cSealC at h
 split at h
 ·exact fun t e he=>by rw[he.h] at h;exact h
 ·exact h.elim
theorem applyC_ok:ValidF Tryz.prog gl0 56 cApplyC:=valid_imp apply_ok fun args H K h=>by
 unfold cApplyC at h
 split at h
 ·exact fun t e he=>by rw[he.h] at h;exact h
 ·exact h.elim
theorem checkedC_ok:ValidF Tryz.prog gl0 57 cCheckedC:=valid_imp checked_ok fun args H K h=>by
 unfold cCheckedC at h
 split at h
 ·rename_i a b c d
  cases hb:rightM a b 0&&(Nat.blt c.length 65536&&Nat.blt d.length 65536)<;>rw[hb] at h
  ·exact h.elim
  ·simp only[Bool.and_eq_true,blt_iff] at hb
   exact ⟨⟨hb.1,hb.2.1,hb.2.2⟩,fun t he=>by rw[he.h];exact h⟩
 ·exact h.elim
theorem decC_ok:ValidF Tryz.prog gl0 24 cDecC:=valid_imp dec_ok fun args H K h=>by
 unfold cDecC at h
 split at h
 ·rename_i s
  cases hb:Nat.ble s.length 9223372036854775807<;>rw[hb] at h
  ·exact h.elim
  ·rw[Nat.ble_eq] at hb
   exact ⟨⟨hb⟩,fun l e he=>by rw[he.h] at h;exact h⟩
 ·exact h.elim
def smW0:SM:=lookS [(24,cDecC),(32,cSealC),(52,cRepeat),(56,cApplyC),(57,cCheckedC)]
theorem smW0_ok:∀f g,smW0 f=some g→ValidF Tryz.prog gl0 f g:=lookS_ok _ (by simp only[List.mem_cons,List.not_mem_nil,or_false,forall_eq_or_imp,forall_eq];exact ⟨decC_ok,sealC_ok,repeat_ok,applyC_ok,checkedC_ok⟩)
def eW0:Env := { fn:=fun f=>lookF f tabA,sm:=smW0,gl:=gl0 }
theorem envForW0:EnvFor Tryz.prog eW0:=⟨mixed04,names04,tabA_ok,smW0_ok⟩
theorem wakes_run:callx eW0 (wpx eW0 100000) 5 [] [] {} isT0=True:=by kernel_rfl
theorem wakes_ok:ValidF Tryz.prog gl0 5 cTrue:=valid_true (enters_of (by kernel_rfl)) gl0_noY envForW0 rfl wakes_run
end Go.Proofs.YtiholnebhmjbjaaGreat

/-
  Chapter 25: contracts of calls that do not fail.
-/
import Derived.Test.YtnhechnaemmdiaaGreatDoorKnO
set_option linter.unusedSimpArgs false
set_option linter.unusedVariables false
set_option linter.unusedSectionVars false
namespace Go.Proofs.YtnhechnaemmdiaaGreatDoor
open Go.RowKit
set_option maxRecDepth 1000000

theorem fB {f:FuncId} {g h:Con} (hg:aF Tryz.prog gl0 f g) (k:∀args H K,h args H K→g args H K):aF Tryz.prog gl0 f h:=⟨hg.1,fun args H Q hc=>hg.2 args H Q (k args H Q hc)⟩
def aJa (a b c:List UInt8) (h:List AV) (n:Nat) (tr:List AV) (m:Nat) (nx rs rt u:Int):Prop:=∃ (xs:List Int) (l:List Tr) (rk:Nat),(h=aB xs∧n=xs.length∧tr=trM l∧m=l.length∧u=(rk:Int)∧xs.length≤9223372036854775807∧bIp l∧(-9223372036854775808≤rt∧rt≤9223372036854775807)∧rk<18446744073709551616)∧bU a b c xs l nx rs rt rk=true
def aLl:Con
 | [.agg [.str a,.str b,.str c,.lst _ h n 1,.lst _ tr m 3,.int .i64 nx,.int .i64 rs,.int .i64 rt,.int .u64 u]],H,K=>Lf (aJa a b c h n tr m nx rs rt u)∧K (.ret (.int .i64 0)) H
 | _,_,_=>False
theorem aEo:aF Tryz.prog gl0 13 aLl:=fB zL fun args H K hc=>by
 unfold aLl at hc
 split at hc
 ·obtain ⟨⟨xs,l,rk,h,h2⟩,hq⟩:=hc
  refine ⟨xs,l,rk,⟨h⟩, ?_⟩
  rintro e ⟨he⟩
  rw[if_pos h2] at he
  subst he
  exact hq
 ·exact hc.elim
def aJ7 (mk:Bool) (ty sq ti ss:Int) (c5:List AV) (n5:Nat) (c6:List AV) (n6:Nat) (pad:Int) (pl:List UInt8) (cs:List Int) (ex:List Md.Xt):Prop:=(Md.medK c5 n5 c6 n6 cs ex∧pl.length≤1000000000)∧Md.rightM ty sq ti ss cs ex pad=true∧(Md.encM mk ty sq ti ss cs ex pad pl).length≤1200
def aRt:Con
 | [.agg [.bool mk,.int .i64 ty,.int .i64 sq,.int .i64 ti,.int .i64 ss,.lst _ c5 n5 1,.lst _ c6 n6 2,.int .i64 pad,.str pl]],H,K=>∃ (cs:List Int) (ex:List Md.Xt),Lf (aJ7 mk ty sq ti ss c5 n5 c6 n6 pad pl cs ex)∧∀s:List UInt8,Lf (s=Md.encM mk ty sq ti ss cs ex pad pl)→K (.ret (.tup [.str s,.int .i64 0])) H
 | _,_,_=>False
theorem aO0:aF Tryz.prog gl0 31 aRt:=fB Md.encode_ok fun args H K hc=>by
 unfold aRt at hc
 split at hc
 ·obtain ⟨cs,ex,⟨h1,h2,h3⟩,hq⟩:=hc
  refine ⟨cs,ex,⟨h1⟩, ?_⟩
  rintro s e ⟨he⟩
  rw[(aNy h2 h3).2] at he
  obtain ⟨rfl,rfl⟩:=bSh he
  exact hq _ ⟨rfl⟩
 ·exact hc.elim
def aHp:Con
 | [.agg [.bool mk,.int .i64 ty,.int .i64 sq,.int .i64 ti,.int .i64 ss,.lst _ c5 n5 1,.lst _ c6 n6 2,.int .i64 pad,.str pl]],H,K=>∃ (cs:List Int) (ex:List Md.Xt),Lf (aJ7 mk ty sq ti ss c5 n5 c6 n6 pad pl cs ex)∧∀s:List UInt8,Lf (s=Md.headM mk ty sq ti ss cs ex pad)→K (.ret (.tup [.str s,.int .i64 0])) H
 | _,_,_=>False
theorem aGe:aF Tryz.prog gl0 34 aHp:=fB Md.head_ok fun args H K hc=>by
 unfold aHp at hc
 split at hc
 ·obtain ⟨cs,ex,⟨h1,h2,h3⟩,hq⟩:=hc
  refine ⟨cs,ex,⟨h1⟩, ?_⟩
  rintro s e ⟨he⟩
  rw[(aNy h2 h3).1] at he
  obtain ⟨rfl,rfl⟩:=bSh he
  exact hq _ ⟨rfl⟩
 ·exact hc.elim
def bAl:Con
 | [.str s],H,K=>∃ (mk:Bool) (ty sq ti:Int) (cs:List Int) (ex:List Md.Xt) (n:Nat),Lf (s.length≤700000∧aEw s=((mk,ty,sq,ti,1,cs,ex,0,[],0),n,0)) ∧
   K (.ret (.tup [.agg [.bool mk,.int .i64 ty,.int .i64 sq,.int .i64 ti,.int .i64 1,.lst 0 (aB cs) cs.length 1,.lst 0 (Md.cellsXM ex) ex.length 2,.int .i64 0,.str []],.int .i64 (n:Nat),.int .i64 0])) H
 | _,_,_=>False
theorem aXq:aF Tryz.prog gl0 80 bAl:=fB aWs fun args H K hc=>by
 unfold bAl at hc
 split at hc
 ·obtain ⟨mk,ty,sq,ti,cs,ex,n,⟨h1,h2⟩,hq⟩:=hc
  refine ⟨⟨h1⟩, ?_⟩
  rintro mk' ty' sq' ti' ss' cs' ex' pad' pl' x' n' e' ⟨he⟩
  rw[h2] at he
  cases he
  exact hq
 ·exact hc.elim
def aZz:Con
 | [.str s],H,K=>∃ (mk:Bool) (ty sq ti ss:Int) (cs:List Int) (ex:List Md.Xt) (p:Int) (y:List UInt8),Lf (s.length≤700000∧Md.decM s=(mk,ty,sq,ti,ss,cs,ex,p,y,0)) ∧
   K (.ret (.tup [.agg [.bool mk,.int .i64 ty,.int .i64 sq,.int .i64 ti,.int .i64 ss,.lst 0 (aB cs) cs.length 1,.lst 0 (Md.cellsXM ex) ex.length 2,.int .i64 p,.str y],.int .i64 0])) H
 | _,_,_=>False
theorem aY0:aF Tryz.prog gl0 35 aZz:=fB Md.decode_ok fun args H K hc=>by
 unfold aZz at hc
 split at hc
 ·obtain ⟨mk,ty,sq,ti,ss,cs,ex,p,y,⟨h1,h2⟩,hq⟩:=hc
  refine ckI (by simp;omega) ?_
  rintro mk' ty' sq' ti' ss' cs' ex' p' y' e' ⟨he⟩
  rw[h2] at he
  cases he
  exact hq
 ·exact hc.elim
def aLu:Con
 | [.str key,.str nonce,.str extra,.str box],H,K=>∃t,Lf (kX key nonce extra box=(t,0))∧K (.ret (.tup [.str t,.int .i64 0])) H
 | _,_,_=>False
theorem aT4:aF Tryz.prog gl0 82 aLu:=fB aOn fun args H K hc=>by
 unfold aLu at hc
 split at hc
 ·obtain ⟨t,⟨h1⟩,hq⟩:=hc
  rintro t' e' h2
  rw[h1] at h2
  obtain ⟨rfl,rfl⟩:=bSh h2.1
  exact hq
 ·exact hc.elim
end Go.Proofs.YtnhechnaemmdiaaGreatDoor

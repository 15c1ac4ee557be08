/-
  Chapter 25: contracts of calls that do not fail.
-/
import Derived.Test.YtnhechnaemmdiaaGreatDoorKnO
set_option linter.unusedSimpArgs false
set_option linter.unusedVariables false
set_option linter.unusedSectionVars false
namespace Go.Proofs.YtnhechnaemmdiaaGreatDoor
open Go.RowKit
set_option maxRecDepth 1000000

theorem lQ{f:FuncId}{g h:Con}(hg:aI Tryz.prog gl0 f g)(k:∀args H K,h args H K->g args H K):aI Tryz.prog gl0 f h:=⟨hg.1,λargs H Q hc=>hg.2 args H Q (k args H Q hc)⟩
def aV2(a b c:LA)(h:HB)(n:Nat)(tr:HB)(m:Nat)(nx rs rt u:Int):Prop:=∃ (xs:QT) (l:List Tr) (rk:Nat),(h=aA xs∧n=xs.length∧tr=trM l∧m=l.length∧u=(rk:Int)∧xs.length<=9223372036854775807∧aWa l∧(-9223372036854775808<=rt∧rt<=9223372036854775807)∧rk<18446744073709551616)∧dQ a b c xs l nx rs rt rk=true
def aUt:Con
 | [.agg [.str a,.str b,.str c,.lst _ h n 1,.lst _ tr m 3,.int .i64 nx,.int .i64 rs,.int .i64 rt,.int .u64 u]],H,K=>Lf (aV2 a b c h n tr m nx rs rt u)∧K (.ret (.int .i64 0)) H
 | _,_,_=>False
theorem aI8:aI Tryz.prog gl0 13 aUt:=lQ aWn λargs H K hc=>by
 unfold aUt at hc
 split at hc
 ·obtain⟨⟨xs,l,rk,h,h2⟩,hq⟩:=hc
  refine⟨xs,l,rk,⟨h⟩, ?_⟩
  rintro e ⟨he⟩
  rw[if_pos h2]at he
  subst he
  exact hq
 ·exact hc.elim
def bPs(mk:Bool)(ty sq ti ss:Int)(c5:HB)(n5:Nat)(c6:HB)(n6:Nat)(pad:Int)(pl:LA)(cs:QT)(ex:List Md.Xt):Prop:=(Md.medK c5 n5 c6 n6 cs ex∧pl.length<=1000000000)∧Md.rightMMd ty sq ti ss cs ex pad=true∧(Md.encM mk ty sq ti ss cs ex pad pl).length<=1200
def bDx:Con
 | [.agg [.bool mk,.int .i64 ty,.int .i64 sq,.int .i64 ti,.int .i64 ss,.lst _ c5 n5 1,.lst _ c6 n6 2,.int .i64 pad,.str pl]],H,K=>∃ (cs:QT) (ex:List Md.Xt),Lf (bPs mk ty sq ti ss c5 n5 c6 n6 pad pl cs ex)∧∀s:LA,Lf (s=Md.encM mk ty sq ti ss cs ex pad pl)->K (.ret (.tup [.str s,.int .i64 0])) H
 | _,_,_=>False
theorem bEj:aI Tryz.prog gl0 31 bDx:=lQ Md.encode_ok λargs H K hc=>by
 unfold bDx at hc
 split at hc
 ·obtain⟨cs,ex,⟨h1,h2,h3⟩,hq⟩:=hc
  refine⟨cs,ex,⟨h1⟩, ?_⟩
  rintro s e ⟨he⟩
  rw[(aS7 h2 h3).2]at he
  obtain⟨rfl,rfl⟩:=cBf he
  exact hq _ ⟨rfl⟩
 ·exact hc.elim
def aR3:Con
 | [.agg [.bool mk,.int .i64 ty,.int .i64 sq,.int .i64 ti,.int .i64 ss,.lst _ c5 n5 1,.lst _ c6 n6 2,.int .i64 pad,.str pl]],H,K=>∃ (cs:QT) (ex:List Md.Xt),Lf (bPs mk ty sq ti ss c5 n5 c6 n6 pad pl cs ex)∧∀s:LA,Lf (s=Md.headM mk ty sq ti ss cs ex pad)->K (.ret (.tup [.str s,.int .i64 0])) H
 | _,_,_=>False
theorem aYl:aI Tryz.prog gl0 34 aR3:=lQ Md.head_ok λargs H K hc=>by
 unfold aR3 at hc
 split at hc
 ·obtain⟨cs,ex,⟨h1,h2,h3⟩,hq⟩:=hc
  refine⟨cs,ex,⟨h1⟩, ?_⟩
  rintro s e ⟨he⟩
  rw[(aS7 h2 h3).1]at he
  obtain⟨rfl,rfl⟩:=cBf he
  exact hq _ ⟨rfl⟩
 ·exact hc.elim
end Go.Proofs.YtnhechnaemmdiaaGreatDoor

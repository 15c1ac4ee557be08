/-
  The functions that the laws reach, compiled and written out (by program).
-/
import Derived.Test.YtnhechnaemmdiaaGreatDoorEnH
import Derived.Test.YtnhechnaemmdiaaGreatDoorProg
import Derived.KernelRfl
import Derived.Shelf.Strings.Builder1
import Derived.Shelf.Strings.Builder2
import Derived.Shelf.Strings.OnBuilder
import Derived.Shelf.Strings.BuilderF
import Derived.Shelf.Strings.BuilderK
import Derived.Shelf.Strings.Builder2Cap
import Derived.Shelf.Strings.Prefix
import Derived.Shelf.Bits.Mul64
import Derived.Shelf.Strings.Repeat
import Derived.MakeChecks
set_option linter.unusedSimpArgs false
set_option linter.unusedVariables false
namespace Go.Proofs.YtnhechnaemmdiaaGreatDoor
open Go.RowKit
set_option maxRecDepth 1000000
theorem dH:∀f g,bB7 Tryz.prog f=some g->bB7 Tryz.prog f=some g:=λ_ _ h=>h
end Go.Proofs.YtnhechnaemmdiaaGreatDoor

namespace Go.Proofs
open Go.Shelf
def Tryz.lays105_ren:Go.Shelf.Ren:=⟨fun | 105=>48 | 212=>105 | 99=>106 | 165=>107 | 166=>108 | 170=>109 | 169=>110 | 263=>154 | 264=>155 | 206=>156 | 240=>157 | 241=>158 | 276=>205 | 277=>206 | n=>n,fun | 9=>9 | 3=>3 | 4=>4 | 20=>20 | 0=>0 | 46=>34 | 109=>185 | 5=>5 | 72=>190 | 76=>193 | 51=>24 | 146=>241 | 53=>171 | 148=>243 | 70=>188 | 37=>80 | 75=>192 | 127=>245 | 164=>284 | 80=>196 | n=>n,fun | n=>n⟩
theorem Tryz.lays105:Go.Proofs.Lays.n105 Tryz.prog Tryz.lays105_ren := {
 mixed:=by kernel_rfl
 f99:=Tryz.func106.trans (congrArg some (by kernel_rfl))
 f105:=Tryz.func48.trans (congrArg some (by kernel_rfl))
 f165:=Tryz.func107.trans (congrArg some (by kernel_rfl))
 f166:=Tryz.func108.trans (congrArg some (by kernel_rfl))
 f169:=Tryz.func110.trans (congrArg some (by kernel_rfl))
 f170:=Tryz.func109.trans (congrArg some (by kernel_rfl))
 f206:=Tryz.func156.trans (congrArg some (by kernel_rfl))
 f212:=Tryz.func105.trans (congrArg some (by kernel_rfl))
 f240:=Tryz.func157.trans (congrArg some (by kernel_rfl))
 f241:=Tryz.func158.trans (congrArg some (by kernel_rfl))
 f263:=Tryz.func154.trans (congrArg some (by kernel_rfl))
 f264:=Tryz.func155.trans (congrArg some (by kernel_rfl))
 f276:=Tryz.func205.trans (congrArg some (by kernel_rfl))
 f277:=Tryz.func206.trans (congrArg some (by kernel_rfl))
 t0:=Tryz.underlying0
 a0:=Tryz.isAgg0
 z0:=Tryz.sizeOf0
 v0:=Tryz.zeroValue0
 t3:=Tryz.underlying3
 a3:=Tryz.isAgg3
 z3:=Tryz.sizeOf3
 v3:=Tryz.zeroValue3
 t4:=Tryz.underlying4
 a4:=Tryz.isAgg4
 z4:=Tryz.sizeOf4
 v4:=Tryz.zeroValue4
 t5:=Tryz.underlying5
 a5:=Tryz.isAgg5
 z5:=Tryz.sizeOf5
 v5:=Tryz.zeroValue5
 t9:=Tryz.underlying9
 a9:=Tryz.isAgg9
 z9:=Tryz.sizeOf9
 v9:=Tryz.zeroValue9
 t20:=Tryz.underlying20
 a20:=Tryz.isAgg20
 z20:=Tryz.sizeOf20
 v20:=Tryz.zeroValue20
 t37:=Tryz.underlying80
 a37:=Tryz.isAgg80
 z37:=Tryz.sizeOf80
 v37:=Tryz.zeroValue80
 t46:=Tryz.underlying34
 a46:=Tryz.isAgg34
 z46:=Tryz.sizeOf34
 v46:=Tryz.zeroValue34
 t51:=Tryz.underlying24
 a51:=Tryz.isAgg24
 z51:=Tryz.sizeOf24
 v51:=Tryz.zeroValue24
 t53:=Tryz.underlying171
 a53:=Tryz.isAgg171
 z53:=Tryz.sizeOf171
 v53:=Tryz.zeroValue171
 t70:=Tryz.underlying188
 a70:=Tryz.isAgg188
 z70:=Tryz.sizeOf188
 v70:=Tryz.zeroValue188
 t72:=Tryz.underlying190
 a72:=Tryz.isAgg190
 z72:=Tryz.sizeOf190
 v72:=Tryz.zeroValue190
 t75:=Tryz.underlying192
 a75:=Tryz.isAgg192
 z75:=Tryz.sizeOf192
 v75:=Tryz.zeroValue192
 t76:=Tryz.underlying193
 a76:=Tryz.isAgg193
 z76:=Tryz.sizeOf193
 v76:=Tryz.zeroValue193
 t109:=Tryz.underlying185
 a109:=Tryz.isAgg185
 z109:=Tryz.sizeOf185
 v109:=Tryz.zeroValue185
 t127:=Tryz.underlying245
 a127:=Tryz.isAgg245
 z127:=Tryz.sizeOf245
 v127:=Tryz.zeroValue245
 t146:=Tryz.underlying241
 a146:=Tryz.isAgg241
 z146:=Tryz.sizeOf241
 v146:=Tryz.zeroValue241
 t148:=Tryz.underlying243
 a148:=Tryz.isAgg243
 z148:=Tryz.sizeOf243
 v148:=Tryz.zeroValue243
 t164:=Tryz.underlying284
 a164:=Tryz.isAgg284
 z164:=Tryz.sizeOf284
 v164:=Tryz.zeroValue284 }
theorem Tryz.Builder_Extra_105:Builder.Extra Tryz.prog Tryz.lays105_ren := {
 sizeBuilder:=by kernel_rfl
 liesBuilder:=by kernel_rfl
 t5:=Tryz.underlying5
 a5:=Tryz.isAgg5
 z5:=Tryz.sizeOf5
 v5:=Tryz.zeroValue5
 infoByte:=by kernel_rfl
 cellsByte:=by kernel_rfl
 sizeByte:=by kernel_rfl
 neB5:=by decide }
open Go.RowKit Go.Lib in
open Go.RowKit Go.Lib in
open Go.RowKit Go.Lib in
open Go.RowKit Go.Lib in
open Go.RowKit Go.Lib in
open Go.RowKit Go.Lib in
open Go.RowKit Go.Lib in
theorem Tryz.strings_Repeat(s:ByteArray)(c:Nat)(w:World)(hc:c<=9223372036854775807)(hlen:s.size*c<=140737488355328) :
  Calls Tryz.prog 48 #[.string s,.int .i64 c] w λe w'=>e=.returned (.string ⟨(Lib.repeatL s.data.toList c).toArray⟩)∧Below w.heap.size w w':=Any.strings_Repeat Tryz.lays105 Tryz.Builder_Extra_105 s c w hc hlen
def Tryz.lays156_ren:Go.Shelf.Ren:=⟨fun | 156=>129 | 165=>107 | 166=>108 | 169=>110 | 240=>157 | 241=>158 | 276=>205 | 277=>206 | n=>n,fun | 31=>82 | 9=>9 | 3=>3 | 4=>4 | 0=>0 | 20=>20 | 72=>190 | 76=>193 | 70=>188 | 37=>80 | 75=>192 | 127=>245 | 164=>284 | 5=>5 | 80=>196 | n=>n,fun | n=>n⟩
theorem Tryz.lays156:Go.Proofs.Lays.n156 Tryz.prog Tryz.lays156_ren := {
 mixed:=by kernel_rfl
 f156:=Tryz.func129.trans (congrArg some (by kernel_rfl))
 f165:=Tryz.func107.trans (congrArg some (by kernel_rfl))
 f166:=Tryz.func108.trans (congrArg some (by kernel_rfl))
 f169:=Tryz.func110.trans (congrArg some (by kernel_rfl))
 f240:=Tryz.func157.trans (congrArg some (by kernel_rfl))
 f241:=Tryz.func158.trans (congrArg some (by kernel_rfl))
 f276:=Tryz.func205.trans (congrArg some (by kernel_rfl))
 f277:=Tryz.func206.trans (congrArg some (by kernel_rfl))
 t0:=Tryz.underlying0
 a0:=Tryz.isAgg0
 z0:=Tryz.sizeOf0
 v0:=Tryz.zeroValue0
 t3:=Tryz.underlying3
 a3:=Tryz.isAgg3
 z3:=Tryz.sizeOf3
 v3:=Tryz.zeroValue3
 t4:=Tryz.underlying4
 a4:=Tryz.isAgg4
 z4:=Tryz.sizeOf4
 v4:=Tryz.zeroValue4
 t9:=Tryz.underlying9
 a9:=Tryz.isAgg9
 z9:=Tryz.sizeOf9
 v9:=Tryz.zeroValue9
 t20:=Tryz.underlying20
 a20:=Tryz.isAgg20
 z20:=Tryz.sizeOf20
 v20:=Tryz.zeroValue20
 t31:=Tryz.underlying82
 a31:=Tryz.isAgg82
 z31:=Tryz.sizeOf82
 v31:=Tryz.zeroValue82
 t37:=Tryz.underlying80
 a37:=Tryz.isAgg80
 z37:=Tryz.sizeOf80
 v37:=Tryz.zeroValue80
 t70:=Tryz.underlying188
 a70:=Tryz.isAgg188
 z70:=Tryz.sizeOf188
 v70:=Tryz.zeroValue188
 t72:=Tryz.underlying190
 a72:=Tryz.isAgg190
 z72:=Tryz.sizeOf190
 v72:=Tryz.zeroValue190
 t75:=Tryz.underlying192
 a75:=Tryz.isAgg192
 z75:=Tryz.sizeOf192
 v75:=Tryz.zeroValue192
 t76:=Tryz.underlying193
 a76:=Tryz.isAgg193
 z76:=Tryz.sizeOf193
 v76:=Tryz.zeroValue193
 t127:=Tryz.underlying245
 a127:=Tryz.isAgg245
 z127:=Tryz.sizeOf245
 v127:=Tryz.zeroValue245
 t164:=Tryz.underlying284
 a164:=Tryz.isAgg284
 z164:=Tryz.sizeOf284
 v164:=Tryz.zeroValue284 }
theorem Tryz.Builder_Extra_156:Builder.Extra Tryz.prog Tryz.lays156_ren := {
 sizeBuilder:=by kernel_rfl
 liesBuilder:=by kernel_rfl
 t5:=Tryz.underlying5
 a5:=Tryz.isAgg5
 z5:=Tryz.sizeOf5
 v5:=Tryz.zeroValue5
 infoByte:=by kernel_rfl
 cellsByte:=by kernel_rfl
 sizeByte:=by kernel_rfl
 neB5:=by decide }
open Go.RowKit in
theorem Tryz.strings_Join_none(a:Option Addr)(c:Nat)(sep:ByteArray)(w:World) :
  Calls Tryz.prog 129 #[.slice a 0 c,.string sep] w λe w'=>e=.returned (.string ⟨#[]⟩)∧w'=w:=Any.strings_Join_none Tryz.lays156 Tryz.Builder_Extra_156 a c sep w
open Go.RowKit in
theorem Tryz.strings_Join(bk o c:Nat)(xs:List ByteArray)(sep:ByteArray)(w:World)(hcells:∀ (j:Nat) x,xs[j]? = some x->w.cell? ⟨bk,o+j,none⟩=some (.string x))(hbk:bk<w.heap.size)(hN:xs.length<=140737488355328)(hcap:xs.length<=c)(hlen:(Lib.join (xs.map (·.data.toList)) sep.data.toList).length<=140737488355328) :
  Calls Tryz.prog 129 #[.slice (some ⟨bk,o,none⟩) xs.length c,.string sep] w λe w'=>e=.returned (.string ⟨(Lib.join (xs.map (·.data.toList)) sep.data.toList).toArray⟩)∧Below w.heap.size w w':=Any.strings_Join Tryz.lays156 Tryz.Builder_Extra_156 bk o c xs sep w hcells hbk hN hcap hlen
end Go.Proofs

namespace Go.Proofs.YtnhechnaemmdiaaGreatDoor
open Go.RowKit
set_option maxRecDepth 1000000

abbrev SM:=Nat->Option (HB->HV->(Out->HV->Prop)->Prop)
def b5(a b c d e:Bool):HB:=[.bool a,.bool b,.bool c,.bool d,.bool e]
def bWz:HB:=b5 false false false false false++b5 false true true false false++b5 false false true false false++b5 false false false false false++b5 true false false true false++b5 true false false false false++b5 true false false false true
def bTr:HB:=[.int .i64 0,.int .i64 200,.int .i64 201,.int .i64 203,.int .i64 205,.int .i64 206,.int .i64 205]
def gl0:Nat->Option HB
 | 0=>some bWz
 | 1=>some bTr
 | _=>none
theorem aO:∀g cs,gl0 g=some cs->bX cs=true:=by
 intro g cs h
 unfold gl0 at h
 split at h
 ·cases h;rfl
 ·cases h;rfl
 ·cases h
noncomputable def e04(sm:SM)(inv:Nat->Option (S->List (List LInv)))(hv:LI)(hb:LB):Env:=
 { fn:=λf=>bB7 Tryz.prog f,sm:=sm,gl:=gl0,inv:=inv,hv:=hv,hb:=hb,hz:=λ_=>false }
theorem jM:qO Tryz.prog=true:=by kernel_rfl
theorem jL:Tryz.prog.follows .mixedOrders=true:=by kernel_rfl
theorem aS{sm:SM}(h:∀f g,sm f=some g->aI Tryz.prog gl0 f g)(inv:Nat->Option (S->List (List LInv)))(hv:LI)(hb:LB):EnvFor Tryz.prog (e04 sm inv hv hb):=
 ⟨jL,jM,dH,h⟩
abbrev Con:=HB->HV->(Out->HV->Prop)->Prop
def gG:List (Nat×Con)->SM
 | [],_=>none
 | (k,c)::l,f=>bif Nat.beq f k then some c else gG l f
theorem bO:∀ (l:List (Nat×Con)),(∀p,p∈l->aI Tryz.prog gl0 p.1 p.2)->∀f g,gG l f=some g->aI Tryz.prog gl0 f g
 | [],_,f,g,h=>by simp[gG]at h
 | (k,c)::l,hl,f,g,h=>by
  simp only[gG]at h
  cases hk:Nat.beq f k
  ·rw[hk]at h
   exact bO l (λp hp=>hl p (by simp[hp])) f g h
  ·rw[hk]at h
   simp only[bXw,bW5]at h
   subst h
   obtain rfl:=bYg hk
   exact hl (f,c) (by simp)
def sm0:SM:=λ_=>none
theorem bY:∀f g,sm0 f=some g->aI Tryz.prog gl0 f g:=λ_ _ h=>by cases h

def bV0(s:LA)(n:Nat):LA:=Lib.repeatL s n
def aG8:Con
 | [.str s,.int .i64 c],H,K=>bif decide (0<=c)&&Nat.ble c.toNat 9223372036854775807&&Nat.ble (s.length*c.toNat) 140737488355328 then K (.ret (.str (bV0 s c.toNat))) H else False
 | _,_,_=>False
theorem aT6:aI Tryz.prog gl0 48 aG8:=by
 refine aI0 (enters_of (by kernel_rfl)) λargs H Q hc m w vs hv => ?_
 unfold aG8 at hc
 split at hc
 ·rename_i s c
  cases hb:decide (0<=c)&&Nat.ble c.toNat 9223372036854775807&&Nat.ble (s.length*c.toNat) 140737488355328
  ·rw[hb]at hc;exact hc.elim
  ·rw[hb]at hc
   simp only[bW3,bW6,bX5]at hb
   obtain⟨v1,l1,e1,h1,r1⟩:=bB hv
   obtain⟨v2,l2,e2,h2,r2⟩:=bB r1
   rw[gL]at r2
   subst r2
   simp only[VR]at h1 h2
   subst h1
   subst h2
   have ev:vs = #[.string ⟨s.toArray⟩,.int .i64 c]:=by
    cases vs
    simp only at e1
    rw[e1,e2]
   subst ev
   obtain⟨n,rfl⟩:∃n:Nat,c=n:=⟨c.toNat,by omega⟩
   have hr:=Tryz.strings_Repeat ⟨s.toArray⟩ n w (by simpa using hb.1.2) (by have:=hb.2;simpa[ByteArray.size]using this)
   exact⟨_,_,hc,by simp[VR,bV0],hr⟩
 ·exact hc.elim
set_option linter.unusedSectionVars false
def tN(lo hi t:Int)(s:Nat):Bool:=decide (lo<=t)&&decide (t<=hi)&&(if t<0 then Nat.beq s 0 else Nat.beq (s%2) 1&&(decide (62<t)||Nat.beq (s/2^(t.toNat+1)) 0))
noncomputable def aGj(hv:LI)(hb:LB)(lo hi n:Int)(Q:BS):Prop:=
 aT (e04 sm0 (λ_=>none) hv hb) (wpx (e04 sm0 (λ_=>none) hv hb) 1000) 52 [.int .i64 lo,.int .i64 hi,.int .i64 n] [] {} Q
theorem bS2(lo:Int)(hi:Int)(n:Int)(Q:BS):aGj (aW []) (aV []) lo hi n Q=(
(bif(decide (n≥lo))then(bif(decide (n<=hi))then(Q (Out.ret (AV.bool true)) [] (Gh.mk (0:Nat) (0:Nat) []))
else(Q (Out.ret (AV.bool false)) [] (Gh.mk (0:Nat) (0:Nat) [])))
else(Q (Out.ret (AV.bool false)) [] (Gh.mk (0:Nat) (0:Nat) [])))):=by kernel_rfl

def aCn:Con
 | [.int .i64 lo,.int .i64 hi,.int .i64 n],H,K=>K (.ret (.bool (decide (lo<=n)&&decide (n<=hi)))) H
 | _,_,_=>False
theorem aOd(lo hi n:Int)(Q:BS)(hq:Q (.ret (.bool (decide (lo<=n)&&decide (n<=hi)))) [] {}):∃hv hb,aGj hv hb lo hi n Q:=by
 obtain⟨hv,hb',e⟩:∃hv hb,aGj hv hb lo hi n Q=_:=⟨_,_,bS2 lo hi n Q⟩
 refine⟨hv,hb',e.mpr ?_⟩
 clear e
 refine aH (λh1=>aH (λh2 => ?_) (λh2 => ?_)) (λh1 => ?_)
 ·rwa[bXr h1,bXr h2]at hq
 ·rwa[bXt h2,cAd]at hq
 ·rwa[bXt h1,bZi]at hq
theorem aFw:aI Tryz.prog gl0 52 aCn:=by
 refine aQ (enters_of (by kernel_rfl)) aO λargs H Q hc => ?_
 unfold aCn at hc
 split at hc
 ·rename_i lo hi n
  obtain⟨hv,hb',h⟩:=aOd lo hi n (Q:=λo H' _=>H'=[]∧(∃v,o=.ret v∧old 0 v=true∧noY v=true)∧Q o H) ⟨rfl,⟨_,rfl,rfl,rfl⟩,hc⟩
  exact⟨rfl,rfl,_,1000,aS bY _ _ _,rfl,h⟩
 ·exact hc.elim
def smI:SM:=gG [(52,aCn)]
theorem aQe:∀f g,smI f=some g->aI Tryz.prog gl0 f g:=bO _ (by simp only[bXd,bXn,bY0,bY4];exact aFw)
noncomputable def aH8(hv:LI)(hb:LB)(c t:Int)(s:Nat)(lo hi:Int)(Q:BS):Prop:=
 aT (e04 smI (λ_=>none) hv hb) (wpx (e04 smI (λ_=>none) hv hb) 1000) 53 [.agg [.int .i64 c,.int .i64 t,.int .u64 (s:Nat)],.int .i64 lo,.int .i64 hi] [] {} Q
abbrev bQp:Out:=.ret (.bool true)
abbrev bV2(n_0:Int)(Q:BS):Prop:=bif n_0==0 then Q bQp [] {}else Q (.ret (.bool false)) [] {}
abbrev bV7(s:Nat)(t:Int)(Q:BS):Prop:=exI .u64 (s:Int) (λn_2=>exW .i64 (t+1) (λn_3=>ckQ (decide (0<=n_3)&&true) (exI .u64 (Int.fdiv n_2 ((2:Int)^Min.min n_3.toNat 64)) (λn_4=>bif n_4==0 then Q bQp [] {}else Q (.ret (.bool false)) [] {}))))
abbrev bT9(Q:BS):Prop:=Q (.ret (.bool false)) [] {}
theorem bVc(c:Int)(t:Int)(s:Nat)(lo:Int)(hi:Int)(Q:BS):aH8 (aW [(217105,.int .u64),(217108,.int .u64),(217109,.int .u64),(217117,.int .u64),(217120,.int .i64),(217121,.int .u64)]) (aV []) c t s lo hi Q=(bif decide (lo<=t)&&decide (t<=hi)then bif decide (t<0)then exI .u64 (s:Int) (λn_0=>bV2 n_0 Q)else exI .u64 (s:Int) (λn_0=>exW .u64 (((n_0%18446744073709551616).toNat &&& 1:Nat):Int) (λn_1=>bif n_1==1 then bif decide (t>62)then Q bQp [] {}else bV7 s t Q else bT9 Q))else bT9 Q):=by kernel_rfl

theorem bVx(s j:Nat):Int.fdiv (s:Int) ((2:Int)^j)=((s/2^j:Nat):Int):=by
 rw[show((2:Int)^j)=((2^j:Nat):Int)by simp,Int.ofNat_fdiv]
theorem bUn(s:Nat)(hs:s<18446744073709551616)(t:Int)(h0:0<=t):s/2^(min (t+1).toNat 64)=s/2^(t.toNat+1)∨62<t:=by
 by_cases h:62<t
 ·exact .inr h
 ·left
  congr 2
  omega
theorem and1(s:Nat)(hs:s<18446744073709551616):((Int.toNat ((s:Int)%18446744073709551616)) &&& 1:Nat)=s%2:=by
 rw[show Int.toNat ((s:Int)%18446744073709551616)=s by omega,Nat.and_one_is_mod]
theorem aNo(c t:Int)(s:Nat)(lo hi:Int)(ht : -9223372036854775808<=t∧t<=9223372036854775807)(hs:s<18446744073709551616)(Q:BS)(hq:Q (.ret (.bool (tN lo hi t s))) [] {}):∃hv hb,aH8 hv hb c t s lo hi Q:=by
 obtain⟨hv,hb',e⟩:∃hv hb,aH8 hv hb c t s lo hi Q=_:=⟨_,_,bVc c t s lo hi Q⟩
 refine⟨hv,hb',e.mpr ?_⟩
 delta bQp bV2 bV7 bT9
 clear e
 have yes:tN lo hi t s=true->Q (.ret (.bool true)) [] {}:=λh=>by rwa[h]at hq
 have no:tN lo hi t s=false->Q (.ret (.bool false)) [] {}:=λh=>by rwa[h]at hq
 cases hr:decide (lo<=t)&&decide (t<=hi)
 ·exact no (by rw[tN,hr,bZi])
 ·rw[bXw]
  refine aH (λh1=>⟨_,rfl,bJ (λh2 => ?_) (λh2 => ?_)⟩) (λh1=>⟨_,rfl, ?_⟩)
  ·exact yes (by rw[tN,hr,if_pos h1,bX7,bS];omega)
  ·exact no (by rw[tN,hr,if_pos h1,bX7];exact bZo.2 (by rw[ne_eq,bS];omega))
  ·(try dsimp only);rw[and1 s hs]
   refine⟨_,rfl, ?_⟩
   rw[show IntKind.wrap .u64 ((s%2:Nat):Int)=((s%2:Nat):Int)%18446744073709551616 from rfl,show((s%2:Nat):Int)%18446744073709551616=((s%2:Nat):Int)by omega]
   refine bJ (λh2=>aH (λh3 => ?_) (λh3=>⟨_,rfl,aF (ckO ⟨_,rfl, ?_⟩)⟩)) (λh2 => ?_)
   ·exact yes (by rw[tN,hr,if_neg h1,bX7,bXr (by omega:62<t),Bool.true_or,bX4,bS];omega)
   ·rw[bVx]
    have hk:=(bUn s hs t (by omega)).resolve_right (by omega)
    rw[hk]
    refine bJ (λh4 => ?_) (λh4 => ?_)
    ·exact yes (by rw[tN,hr,if_neg h1,bX7,bXt (by omega:¬ 62<t),cB4,bW3,bS,bS];omega)
    ·exact no (by
      rw[tN,hr,if_neg h1,bX7,bXt (by omega:¬ 62<t),cB4]
      exact bZo.2 (by rw[ne_eq,bW3,bS,bS];omega))
   ·exact no (by
     rw[tN,hr,if_neg h1,bX7]
     exact bZo.2 (by rw[ne_eq,bW3,bS];omega))
def aId:Con
 | [.agg [.int .i64 c,.int .i64 t,.int .u64 u],.int .i64 lo,.int .i64 hi],H,K=>∃s:Nat,Lf (u=(s:Int)∧s<18446744073709551616∧(-9223372036854775808<=t∧t<=9223372036854775807) ∧ -1<=lo)∧∀b:Bool,Lf (b=tN lo hi t s)->K (.ret (.bool b)) H
 | _,_,_=>False
theorem aUs:aI Tryz.prog gl0 53 aId:=by
 refine aQ (enters_of (by kernel_rfl)) aO λargs H Q hc => ?_
 unfold aId at hc
 split at hc
 ·rename_i c t u lo hi
  obtain⟨s,⟨rfl,h1,h2,h3⟩,hq⟩:=hc
  obtain⟨hv,hb',h⟩:=aNo c t s lo hi h2 h1 (Q:=λo H' _=>H'=[]∧(∃v,o=.ret v∧old 0 v=true∧noY v=true)∧Q o H) ⟨rfl,⟨_,rfl,rfl,rfl⟩,hq _ ⟨rfl⟩⟩
  exact⟨rfl,rfl,_,1000,aS aQe _ _ _,rfl,h⟩
 ·exact hc.elim
def kI(xs:QT):Nat->Bool
 | 0=>true
 | i+1=>kI xs i&&(decide (1<=xs.getD i 0)&&decide (xs.getD i 0<=255)&&(Nat.beq i 0||decide (xs.getD (i-1) 0<xs.getD i 0)))
def aGc(xs:QT)(i:Nat):Int:=if i=0 then 0 else xs.getD (i-1) 0
def gV(a b c:LA)(n:Nat):Bool:=Nat.beq a.length 32&&Nat.beq b.length 12&&Nat.beq c.length 32&&Nat.ble n 16
def dA(a b c:LA)(xs:QT):Bool:=gV a b c xs.length&&kI xs xs.length
def bBu(a b c:LA)(xs:QT)(s:S):List (List LInv):=[[
 { α:=Nat,pre:=λi=>Lf (i<=xs.length),st:=λi=>⟨mkT [(1,s.tm.get 1),(5,.bool (gV a b c xs.length&&kI xs i)),(29,s.tm.get 29),(30,s.tm.get 30),(31,.int .i64 (i:Nat))],s.hp⟩,mu:=λi=>xs.length-i }]]
def bBg(xs:QT)(s:S):List (List LInv):=[[
 { α:=Nat,pre:=λi=>Lf (i<=xs.length∧kI xs i=true),st:=λi=>⟨mkT [(1,s.tm.get 1),(5,.int .i64 (aGc xs i)),(6,.int .i64 (i:Nat))],s.hp⟩,mu:=λi=>xs.length-i }]]
noncomputable def aJb(hv:LI)(hb:LB)(tg:Nat)(a b c:LA)(xs:QT)(Q:BS):Prop:=
 aT (e04 smI (λi=>bif Nat.beq i 51000 then some (bBu a b c xs)else none) hv hb) (wpx (e04 smI (λi=>bif Nat.beq i 51000 then some (bBu a b c xs)else none) hv hb) 1000) 51 [.agg [.str a,.str b,.str c],.lst tg (aA xs) xs.length 1] [] {} Q
abbrev aZs(a b c:LA):Prop:=aK [AV.str a,.str b,.str c]
abbrev aVv(tg:Nat)(xs:QT):Prop:=aK (AV.lst tg (aA xs) xs.length 1)
abbrev aXy(x_1:Nat):AV:=.int .i64 (x_1:Int)
abbrev aOc(n_0:Int):Prop:=aK (AV.int .i64 n_0)∧True
abbrev aN2:Prop:=True∧(0:Nat)=(0:Nat)
abbrev bRf(x_1:Nat)(xs:QT)(a b c:LA)(tg:Nat)(n_0:Int):Prop:=exW .i64 ((x_1:Int)+1) (λn_4=>aN2∧∃y_5:Nat,Lf (y_5<=xs.length)∧xs.length-y_5<xs.length-x_1∧aZs a b c∧aVv tg xs∧AV.int .i64 n_4=aXy y_5∧AV.bool true=AV.bool (gV a b c xs.length&&kI xs y_5)∧aVv tg xs∧aOc n_0)
abbrev bE0(n_7:Int)(xs:QT):Bool:=decide (0<=n_7)&&Nat.blt n_7.toNat xs.length&&true
abbrev bGy(n_7:Int)(xs:QT):Bool:=Nat.blt (n_7.toNat*1) (aA xs).length
abbrev bFo(xs:QT)(n_7:Int):AV:=(aA xs).getD (n_7.toNat*1) AV.undef
abbrev bNb(x_1:Nat)(xs:QT)(a b c:LA)(tg:Nat)(n_0:Int):Prop:=exW .i64 ((x_1:Int)+1) (λn_6=>aN2∧∃y_7:Nat,Lf (y_7<=xs.length)∧xs.length-y_7<xs.length-x_1∧aZs a b c∧aK (AV.lst tg (aA xs) xs.length 1)∧AV.int .i64 n_6=aXy y_7∧AV.bool false=AV.bool (gV a b c xs.length&&kI xs y_7)∧aK (AV.lst tg (aA xs) xs.length 1)∧aOc n_0)
abbrev aV1:Out:=.ret (.bool false)
abbrev bRg(xs:QT)(n_0:Int)(a b c:LA)(tg:Nat)(Q:BS):Prop:=∀x_1:Nat,Lf (x_1<=xs.length)->bif decide ((x_1:Int)<n_0)then exI .i64 (x_1:Int) (λn_2=>ckQ (Nat.blt (x_1:Int).toNat xs.length&&true) (ckQ (Nat.blt ((x_1:Int).toNat*1) (aA xs).length) (exV .i64 ((aA xs).getD ((x_1:Int).toNat*1) AV.undef) (λn_3=>bif gV a b c xs.length&&kI xs x_1 then bif decide (1<=n_3)&&decide (n_3<=255)then bif n_2==0 then bRf x_1 xs a b c tg n_0 else exW .i64 (n_2-1) (λn_4=>ckQ (bE0 n_4 xs) (ckQ (bGy n_4 xs) (exV .i64 (bFo xs n_4) (λn_5=>bif decide (n_3>n_5)then bRf x_1 xs a b c tg n_0 else bNb x_1 xs a b c tg n_0))))else bNb x_1 xs a b c tg n_0 else bNb x_1 xs a b c tg n_0))))else bif gV a b c xs.length&&kI xs x_1 then Q (.ret (.bool true)) [] {}else Q aV1 [] {}
def qC(tg:Nat)(a:LA)(b:LA)(c:LA)(xs:QT)(Q:BS):Prop:=
exI .i64 (xs.length:Int) (λn_0=>(∃x_1:Nat,Lf (x_1<=xs.length)∧aZs a b c∧aVv tg xs∧AV.int .i64 0=aXy x_1∧AV.bool false=AV.bool (gV a b c xs.length&&kI xs x_1)∧aVv tg xs∧aOc n_0)∧bRg xs n_0 a b c tg Q)
theorem bT5(tg:Nat)(a:LA)(b:LA)(c:LA)(xs:QT)(Q:BS):aJb (aW [(208906,.int .i64),(208911,.int .i64),(208917,.int .i64),(208922,.int .i64),(208926,.int .i64),(208929,.int .i64),(208931,.int .i64),(208950,.int .i64),(208944,.int .i64),(208946,.int .i64)]) (aV []) tg a b c xs Q=(exI .i64 (a.length:Int) (λn_0=>bif n_0==32 then exI .i64 (b.length:Int) (λn_1=>bif n_1==12 then exI .i64 (c.length:Int) (λn_2=>bif n_2==32 then exI .i64 (xs.length:Int) (λn_3=>bif decide (n_3<=16)then exI .i64 (xs.length:Int) (λn_4=>(∃x_5:Nat,Lf (x_5<=xs.length)∧aZs a b c∧aVv tg xs∧AV.int .i64 0=aXy x_5∧AV.bool true=AV.bool (gV a b c xs.length&&kI xs x_5)∧aVv tg xs∧aOc n_4)∧bRg xs n_4 a b c tg Q)else qC tg a b c xs Q)else qC tg a b c xs Q)else qC tg a b c xs Q)else qC tg a b c xs Q)):=by kernel_rfl

noncomputable def aIs(hv:LI)(hb:LB)(tg:Nat)(a b c:LA)(xs:QT)(Q:BS):Prop:=
 aT (e04 sm0 (λi=>bif Nat.beq i 56000 then some (bBg xs)else none) hv hb) (wpx (e04 sm0 (λi=>bif Nat.beq i 56000 then some (bBg xs)else none) hv hb) 1000) 56 [.agg [.str a,.str b,.str c],.lst tg (aA xs) xs.length 1] [] {} Q
theorem bT4(tg:Nat)(a:LA)(b:LA)(c:LA)(xs:QT)(Q:BS):aIs (aW [(229385,.int .i64),(229390,.int .i64),(229396,.int .i64),(229401,.int .i64),(229404,.int
 .i64),(229406,.int .i64),(229411,.int .i64),(229413,.int .i64),(229414,.int .i64),(229418,.int .i64),(229420,.int .i64),(229424,.int .i64),(229426,.int .i64),(229408,.int .i64),(229409,.int .i64)]) (aV []) tg a b c
 xs Q=(exI .i64 (a.length:Int) (λn_0=>bif n_0 !=32 then Q aV1 [] {}else exI .i64 (b.length:Int) (λn_1=>bif n_1 !=12 then Q aV1 [] {}else exI .i64 (c.length:Int) (λn_2=>bif n_2 !=32 then Q aV1 [] {}else exI
 .i64 (xs.length:Int) (λn_3=>bif decide (n_3>16)then Q aV1 [] {}else(∃x_4:Nat,Lf (x_4<=xs.length∧kI xs x_4=true)∧aZs a b c∧aVv tg xs∧AV.int .i64 0=AV.int .i64 (aGc xs x_4)∧AV.int .i64 0=aXy x_4 ∧
 True)∧∀x_4:Nat,Lf (x_4<=xs.length∧kI xs x_4=true)->exI .i64 (x_4:Int) (λn_5=>exI .i64 (xs.length:Int) (λn_6=>bif decide (n_5<n_6)then exI .i64 (x_4:Int) (λn_7=>ckQ (bE0 n_7 xs) (ckQ (bGy n_7 xs) (exV
 .i64 (bFo xs n_7) (λn_8=>exI .i64 (aGc xs x_4) (λn_9=>bif decide (n_8<=n_9)then Q aV1 [] {}else exI .i64 (x_4:Int) (λn_10=>ckQ (bE0 n_10 xs) (ckQ (bGy n_10 xs) (exV .i64 (bFo xs n_10) (λn_11=>bif decide
 (n_11>255)then Q aV1 [] {}else exI .i64 (x_4:Int) (λn_12=>ckQ (bE0 n_12 xs) (ckQ (bGy n_12 xs) (exV .i64 (bFo xs n_12) (λn_13=>exI .i64 (x_4:Int) (λn_14=>exW .i64 (n_14+1) (λn_15=>aN2∧∃y_16:Nat,Lf
 (y_16<=xs.length∧kI xs y_16=true)∧xs.length-y_16<xs.length-x_4∧aZs a b c∧aVv tg xs∧AV.int .i64 n_13=AV.int .i64 (aGc xs y_16)∧AV.int .i64 n_15=aXy y_16∧True)))))))))))))))else Q (.ret (.bool true)) []
 {}))))))):=by kernel_rfl

theorem aJh{xs:QT}:∀ {n i:Nat},i<=n->kI xs n=true->kI xs i=true
 | 0,i,h,hn=>by
  obtain rfl:i=0:=by omega
  rfl
 | n+1,i,h,hn=>by
  by_cases e:i=n+1
  ·rw[e];exact hn
  ·rw[kI,bW3]at hn
   exact aJh (by omega) hn.1
theorem aJg{xs:QT}{i m:Nat}(hi:i<xs.length)(hm:m=i){K:Int->Prop}(hk:K (xs.getD i 0)):∃n:Int,List.getD (aA xs) m AV.undef=AV.int .i64 n∧K n:=aAa hi hm hk
theorem aOf(tg:Nat)(a b c:LA)(xs:QT)(hx:xs.length<=9223372036854775807)(Q:BS)(hq:Q (.ret (.bool (dA a b c xs))) [] {}):∃hv hb,aIs hv hb tg a b c xs Q:=by
 obtain⟨hv,hb',e⟩:∃hv hb,aIs hv hb tg a b c xs Q=_:=⟨_,_,bT4 tg a b c xs Q⟩
 refine⟨hv,hb',e.mpr ?_⟩
 delta aV1 aZs aVv aXy bE0 bGy bFo aN2
 clear e
 have yes:dA a b c xs=true->Q (.ret (.bool true)) [] {}:=λh=>by rwa[h]at hq
 have no:dA a b c xs=false->Q (.ret (.bool false)) [] {}:=λh=>by rwa[h]at hq
 have nl:gV a b c xs.length=false->Q (.ret (.bool false)) [] {}:=λh=>no (by rw[dA,h];rfl)
 have hl:¬ (a.length=32∧b.length=12∧c.length=32∧xs.length<=16)->gV a b c xs.length=false:=λh=>bZo.2 (by
  unfold gV
  rw[ne_eq,bW3,bW3,bW3,bS,bS,bS,bX5]
  omega)
 have hcl:=aM xs
 refine⟨_,rfl,bK (λh=>nl (hl (by omega))) (λh1=>⟨_,rfl,bK (λh=>nl (hl (by omega))) (λh2=>⟨_,rfl,bK (λh=>nl (hl (by omega))) (λh3=>⟨_,rfl,aH (λh=>nl (hl (by omega))) (λh4 => ?_)⟩)⟩)⟩)⟩
 have hyes:gV a b c xs.length=true:=by
  unfold gV
  rw[bW3,bW3,bW3,bS,bS,bS,bX5]
  omega
 refine⟨⟨0,⟨by omega,rfl⟩,rfl,rfl,rfl,rfl,trivial⟩, ?_⟩
 rintro i ⟨g1,g2⟩
 refine⟨_,rfl,_,rfl,aH (λg3 => ?_) (λg3 => ?_)⟩
 ·have hi:i<xs.length:=by omega
  have bad:∀ (h:¬ (aGc xs i<xs.getD i 0∧xs.getD i 0<=255)),Q (.ret (.bool false)) [] {}:=λh=>no (by
   rw[dA,hyes,bX7]
   refine bZo.2 λhf=>h ?_
   have hf1:=aJh (i:=i+1) (by omega) hf
   rw[kI,bW3,bW3,bW3,bXh,bS,bW6,bW6,bW6]at hf1
   unfold aGc
   split<;>omega)
  refine⟨_,rfl,ckO (ckI (by rw[hcl];simp;omega) (aJg (i:=i) hi (by simp) ⟨_,rfl,aH (λh=>bad (by omega)) (λh5=>⟨_,rfl,ckO (ckI (by rw[hcl];simp;omega) (aJg (i:=i) hi (by simp) (aH (λh=>bad (by omega)) (λh6 => ?_))))⟩)⟩))⟩
  refine⟨_,rfl,ckO (ckI (by rw[hcl];simp;omega) (aJg (i:=i) hi (by simp) ⟨_,rfl,aF ⟨⟨trivial,rfl⟩,i+1,⟨by omega, ?_⟩,by omega,rfl,rfl,rfl,rfl,trivial⟩⟩))⟩
  rw[kI,g2,bX7,bW3,bW3,bXh,bS,bW6,bW6,bW6]
  have h5':aGc xs i<xs.getD i 0:=by omega
  unfold aGc at h5'
  split at h5'
  ·exact⟨⟨by omega,by omega⟩,.inl (by assumption)⟩
  ·rename_i hne
   have g4:=aJh (n:=i) (i:=(i-1)+1) (by omega) g2
   rw[kI,bW3,bW3,bW3,bW6,bW6]at g4
   exact⟨⟨by omega,by omega⟩,.inr h5'⟩
 ·have:i=xs.length:=by omega
  subst this
  exact yes (by rw[dA,hyes,g2];rfl)
theorem pX(xs:QT):aP 2 (aA xs)=true∧bX (aA xs)=true:=by
 unfold aA
 induction xs with
 | nil=>exact⟨rfl,rfl⟩
 | cons x xs ih=>simp[aP,bX,old,noY,ih.1,ih.2]
theorem aRx(tg:Nat)(a b c:LA)(xs:QT)(hx:xs.length<=9223372036854775807)(Q:BS)(hq:Q (.ret (.bool (dA a b c xs))) [] {}):∃hv hb,aJb hv hb tg a b c xs Q:=by
 obtain⟨hv,hb',e⟩:∃hv hb,aJb hv hb tg a b c xs Q=_:=⟨_,_,bT5 tg a b c xs Q⟩
 refine⟨hv,hb',e.mpr ?_⟩
 delta aZs aVv aXy aOc aN2 bRf bE0 bGy bFo bNb aV1 bRg
 clear e
 have yes:dA a b c xs=true->Q (.ret (.bool true)) [] {}:=λh=>by rwa[h]at hq
 have no:dA a b c xs=false->Q (.ret (.bool false)) [] {}:=λh=>by rwa[h]at hq
 have hcl:=aM xs
 have one:∀ (h:¬ (a.length=32∧b.length=12∧c.length=32∧xs.length<=16)),qC tg a b c xs Q:=λh=>by
  have hl:gV a b c xs.length=false:=bZo.2 (by
   unfold gV
   rw[ne_eq,bW3,bW3,bW3,bS,bS,bS,bX5]
   omega)
  unfold qC
  delta bRg aV1 bNb aOc aXy aZs aN2 bRf aVv bFo bGy bE0
  refine⟨_,rfl,⟨0,⟨by omega⟩,rfl,rfl,rfl,by rw[hl];rfl,rfl,rfl,trivial⟩, ?_⟩
  rintro i ⟨g1⟩
  refine aH (λg3 => ?_) (λg3 => ?_)
  ·have hi:i<xs.length:=by omega
   refine⟨_,rfl,ckO (ckI (by rw[hcl];simp;omega) (aJg (i:=i) hi (by simp) ?_))⟩
   cases hf:gV a b c xs.length&&kI xs i
   ·rw[bYi]
    exact aF ⟨⟨trivial,rfl⟩,i+1,⟨by omega⟩,by omega,rfl,rfl,rfl,by rw[kI,←bZk,hf];rfl,rfl,rfl,trivial⟩
   ·rw[bXw]
    cases hr:decide (1<=xs.getD i 0)&&decide (xs.getD i 0<=255)
    ·rw[bYi]
     exact aF ⟨⟨trivial,rfl⟩,i+1,⟨by omega⟩,by omega,rfl,rfl,rfl,by rw[kI,←bZk,hf,hr];rfl,rfl,rfl,trivial⟩
    ·rw[bXw]
     refine bJ (λh => ?_) (λh => ?_)
     ·have h0:i=0:=by omega
      exact aF ⟨⟨trivial,rfl⟩,i+1,⟨by omega⟩,by omega,rfl,rfl,rfl,by rw[kI,←bZk,hf,hr,h0];rfl,rfl,rfl,trivial⟩
     ·have hb0:Nat.beq i 0=false:=bZo.2 (by rw[ne_eq,bS];omega)
      refine aF (ckO (ckI (by rw[hcl];simp;omega) (aJg (i:=i-1) (by omega) (by simp) (aH (λh2 => ?_) (λh2 => ?_)))))
      ·exact aF ⟨⟨trivial,rfl⟩,i+1,⟨by omega⟩,by omega,rfl,rfl,rfl,by rw[kI,←bZk,hf,hr,hb0,bXr (by omega:xs.getD (i-1) 0<xs.getD i 0)];rfl,rfl,rfl,trivial⟩
      ·exact aF ⟨⟨trivial,rfl⟩,i+1,⟨by omega⟩,by omega,rfl,rfl,rfl,by rw[kI,←bZk,hf,hr,hb0,bXt (by omega:¬ xs.getD (i-1) 0<xs.getD i 0)];rfl,rfl,rfl,trivial⟩
  ·obtain rfl:i=xs.length:=by omega
   cases hf:gV a b c xs.length&&kI xs xs.length
   ·exact no hf
   ·exact yes hf
 refine⟨_,rfl,bJ (λh1=>⟨_,rfl,bJ (λh2=>⟨_,rfl,bJ (λh3=>⟨_,rfl,aH (λh4 => ?_) (λh=>one (by omega))⟩) (λh=>one (by omega))⟩) (λh=>one (by omega))⟩) (λh=>one (by omega))⟩
 have hl:gV a b c xs.length=true:=by
  unfold gV
  rw[bW3,bW3,bW3,bS,bS,bS,bX5]
  omega
 refine⟨_,rfl,⟨0,⟨by omega⟩,rfl,rfl,rfl,by rw[hl];rfl,rfl,rfl,trivial⟩, ?_⟩
 rintro i ⟨g1⟩
 refine aH (λg3 => ?_) (λg3 => ?_)
 ·have hi:i<xs.length:=by omega
  refine⟨_,rfl,ckO (ckI (by rw[hcl];simp;omega) (aJg (i:=i) hi (by simp) ?_))⟩
  cases hf:gV a b c xs.length&&kI xs i
  ·rw[bYi]
   exact aF ⟨⟨trivial,rfl⟩,i+1,⟨by omega⟩,by omega,rfl,rfl,rfl,by rw[kI,←bZk,hf];rfl,rfl,rfl,trivial⟩
  ·rw[bXw]
   cases hr:decide (1<=xs.getD i 0)&&decide (xs.getD i 0<=255)
   ·rw[bYi]
    exact aF ⟨⟨trivial,rfl⟩,i+1,⟨by omega⟩,by omega,rfl,rfl,rfl,by rw[kI,←bZk,hf,hr];rfl,rfl,rfl,trivial⟩
   ·rw[bXw]
    refine bJ (λh => ?_) (λh => ?_)
    ·have h0:i=0:=by omega
     exact aF ⟨⟨trivial,rfl⟩,i+1,⟨by omega⟩,by omega,rfl,rfl,rfl,by rw[kI,←bZk,hf,hr,h0];rfl,rfl,rfl,trivial⟩
    ·have hb0:Nat.beq i 0=false:=bZo.2 (by rw[ne_eq,bS];omega)
     refine aF (ckO (ckI (by rw[hcl];simp;omega) (aJg (i:=i-1) (by omega) (by simp) (aH (λh2 => ?_) (λh2 => ?_)))))
     ·exact aF ⟨⟨trivial,rfl⟩,i+1,⟨by omega⟩,by omega,rfl,rfl,rfl,by rw[kI,←bZk,hf,hr,hb0,bXr (by omega:xs.getD (i-1) 0<xs.getD i 0)];rfl,rfl,rfl,trivial⟩
     ·exact aF ⟨⟨trivial,rfl⟩,i+1,⟨by omega⟩,by omega,rfl,rfl,rfl,by rw[kI,←bZk,hf,hr,hb0,bXt (by omega:¬ xs.getD (i-1) 0<xs.getD i 0)];rfl,rfl,rfl,trivial⟩
 ·obtain rfl:i=xs.length:=by omega
  cases hf:gV a b c xs.length&&kI xs xs.length
  ·exact no hf
  ·exact yes hf
def uF:Con
 | [.agg [.str a,.str b,.str c],.lst _ l n 1],H,K=>∃xs:QT,Lf (l=aA xs∧n=xs.length∧xs.length<=9223372036854775807)∧∀r:Bool,Lf (r=dA a b c xs)->K (.ret (.bool r)) H
 | _,_,_=>False
theorem aLp:aI Tryz.prog gl0 51 uF:=by
 refine aQ (enters_of (by kernel_rfl)) aO λargs H Q hc => ?_
 unfold uF at hc
 split at hc
 ·rename_i a b c tg l n
  obtain⟨xs,⟨rfl,rfl,h1⟩,hq⟩:=hc
  obtain⟨hv,hb',h⟩:=aRx tg a b c xs h1 (Q:=λo H' _=>H'=[]∧(∃v,o=.ret v∧old 0 v=true∧noY v=true)∧Q o H) ⟨rfl,⟨_,rfl,rfl,rfl⟩,hq _ ⟨rfl⟩⟩
  exact⟨by simp[aP,old,(pX _).1],by simp[bX,noY,(pX _).2],_,1000,aS aQe _ _ _,rfl,h⟩
 ·exact hc.elim
theorem aVg:aI Tryz.prog gl0 56 uF:=by
 refine aQ (enters_of (by kernel_rfl)) aO λargs H Q hc => ?_
 unfold uF at hc
 split at hc
 ·rename_i a b c tg l n
  obtain⟨xs,⟨rfl,rfl,h1⟩,hq⟩:=hc
  obtain⟨hv,hb',h⟩:=aOf tg a b c xs h1 (Q:=λo H' _=>H'=[]∧(∃v,o=.ret v∧old 0 v=true∧noY v=true)∧Q o H) ⟨rfl,⟨_,rfl,rfl,rfl⟩,hq _ ⟨rfl⟩⟩
  exact⟨by simp[aP,old,(pX _).1],by simp[bX,noY,(pX _).2],_,1000,aS bY _ _ _,rfl,h⟩
 ·exact hc.elim
abbrev Tr:=Int×Int×Nat
def trM:List Tr->HB
 | []=>[]
 | t::l=>.int .i64 t.1::.int .i64 t.2.1::.int .u64 (t.2.2:Nat)::trM l
def pU(c:Int)(l:List Tr)(i:Nat):Bool:=(l.take i).any λt=>decide (t.1=c)
def bG6(c:Int)(l:List Tr)(s:S):List (List LInv):=[[
 { α:=Nat,pre:=λi=>Lf (i<=l.length∧pU c l i=false),st:=λi=>⟨mkT [(0,s.tm.get 0),(1,s.tm.get 1),(7,s.tm.get 7),(8,.int .i64 (i:Nat))],s.hp⟩,mu:=λi=>l.length-i }]]
noncomputable def bCz(hv:LI)(hb:LB)(c:Int)(l:List Tr):Env:=e04 smI (λi=>bif Nat.beq i 111000 then some (bG6 c l)else none) hv hb
noncomputable def aIe(hv:LI)(hb:LB)(tg:Nat)(c t:Int)(s:Nat)(l:List Tr)(Q:BS):Prop:=
 aT (bCz hv hb c l) (wpx (bCz hv hb c l) 1000) 55 [.lst tg (trM l) l.length 3,.fn (.func 54) [] [.ptr 0 3 0]] [⟨.exact,true,[.int .i64 c,.int .i64 t,.int .u64 (s:Nat)]⟩] {} Q
abbrev bRb(c t:Int)(s:Nat):Blk:=Blk.mk BK.exact true [.int .i64 c,.int .i64 t,.int .u64 (s:Int)]
theorem bR9(tg:Nat)(c:Int)(t:Int)(s:Nat)(l:List Tr)(Q:BS):aIe (aW [(454663,.int .i64),(454666,.int .i64),(454671,.agg [.int .i64,.int .i64,.int .u64]),(454674,.int .i64)]) (aV
 []) tg c t s l Q=(exI .i64 (l.length:Int) (λn_0=>(∃x_1:Nat,Lf (x_1<=l.length∧pU c l x_1=false)∧aK [AV.int .i64 c,.int .i64 t,.int .u64 (s:Int)]∧aK (AV.lst tg (trM l) l.length 3)∧aK (AV.fn (Fn.func 54) []
 [.ptr 0 3 0])∧aK (AV.int .i64 n_0)∧AV.int .i64 0=AV.int .i64 (x_1:Int)∧True)∧∀x_1:Nat,Lf (x_1<=l.length∧pU c l x_1=false)->bif decide ((x_1:Int)<n_0)then exI .i64 (x_1:Int) (λn_2=>ckQ (decide (0<=n_2)
 && Nat.blt n_2.toNat l.length&&true) (ckQ (Nat.ble (n_2.toNat*3+3) (trM l).length) (∃n_3 n_4 n_5,AV.agg (((trM l).drop (n_2.toNat*3)).take 3)=AV.agg [.int .i64 n_3,.int .i64 n_4,.int .u64 n_5]∧bif n_3==c then bif decide
 (n_2≥0)then Q (.ret (.bool true)) [bRb c t s] {}else Q (.ret (.bool false)) [bRb c t s] {}else exW .i64 ((x_1:Int)+1) (λn_6=>(True∧(0:Nat)=(0:Nat))∧∃y_7:Nat,Lf (y_7<=l.length∧pU c l y_7=false) ∧
 l.length-y_7<l.length-x_1∧aK [AV.int .i64 c,.int .i64 t,.int .u64 (s:Int)]∧aK (AV.lst tg (trM l) l.length 3)∧aK (AV.fn (Fn.func 54) [] [.ptr 0 3 0])∧aK (AV.int .i64 n_0)∧AV.int .i64 n_6=AV.int .i64 (y_7:Int)
 ∧ True))))else Q (.ret (.bool false)) [bRb c t s] {})):=by kernel_rfl

theorem pO:∀l,(trM l).length=l.length*3
 | []=>rfl
 | t::l=>by simp[trM,pO l];omega
theorem xA:∀ (l:List Tr) (i:Nat) (h:i<l.length),List.take 3 (List.drop (i*3) (trM l))=[.int .i64 l[i].1,.int .i64 l[i].2.1,.int .u64 (l[i].2.2:Nat)]
 | [],i,h=>by simp at h
 | t::l,0,_=>by simp[trM]
 | t::l,i+1,h=>by
  rw[show(i+1)*3=i*3+3 by omega]
  exact xA l i (by simpa using h)
theorem aK6{c:Int}{l:List Tr}{i:Nat}(h:i<l.length):pU c l (i+1)=(pU c l i||decide (l[i].1=c)):=by
 unfold pU
 rw[bYm,bW8 h,cCa]
 simp
theorem bPz{c:Int}{l:List Tr}{i n:Nat}(h:i<=n)(hi:pU c l i=true):pU c l n=true:=by
 unfold pU at hi ⊢
 rw[bZ8]at hi ⊢
 obtain⟨t,h1,h2⟩:=hi
 refine⟨t, ?_,h2⟩
 rw[show i=min i n by omega,←cBr]at h1
 exact cAi h1
theorem aR4(tg:Nat)(c t:Int)(s:Nat)(l:List Tr)(hl:l.length<=1000)(Q:BS)(hq:Q (.ret (.bool (pU c l l.length))) [⟨.exact,true,[.int .i64 c,.int .i64 t,.int .u64 (s:Nat)]⟩] {}):∃hv hb,aIe hv hb tg c t s l Q:=by
 obtain⟨hv,hb',e⟩:∃hv hb,aIe hv hb tg c t s l Q=_:=⟨_,_,bR9 tg c t s l Q⟩
 refine⟨hv,hb',e.mpr ?_⟩
 delta bRb
 clear e
 refine⟨_,rfl,⟨0,⟨by omega,rfl⟩,rfl,rfl,rfl,rfl,rfl,trivial⟩, ?_⟩
 rintro i ⟨g1,g2⟩
 have hln:=pO l
 refine aH (λg3 => ?_) (λg3 => ?_)
 ·have hi:i<l.length:=by omega
  refine⟨_,rfl,ckO (ckI (by rw[hln];simp;omega) ?_)⟩
  rw[show Int.toNat ((i:Nat):Int)=i from rfl,xA l i hi]
  refine⟨_,_,_,rfl,bJ (λh=>aH (λ_ => ?_) (λh2=>by omega)) (λh => ?_)⟩
  ·have:pU c l l.length=true:=bPz (i:=i+1) (by omega) (by rw[aK6 hi,bXr h,Bool.or_true])
   rwa[this]at hq
  ·exact aF ⟨⟨trivial,rfl⟩,i+1,⟨by omega,by rw[aK6 hi,g2,bXt h];rfl⟩,by omega,rfl,rfl,rfl,rfl,rfl,trivial⟩
 ·obtain rfl:i=l.length:=by omega
  rwa[g2]at hq
def bTt:Con
 | [.lst _ l n 3,.fn (.func 54) [] [.ptr i 3 0]],H,K=>match H.getD i ⟨.ro,false,[]⟩with
  | ⟨.exact,true,[.int .i64 c,.int .i64 t,.int .u64 u]⟩=>∃ (ts:List Tr) (s:Nat),Lf (Nat.blt i H.length=true∧u=(s:Int)∧l=trM ts∧n=ts.length∧ts.length<=1000)∧∀b:Bool,Lf (b=pU c ts ts.length)->K (.ret (.bool b)) H
  | _=>False
 | _,_,_=>False
theorem aJt(l:List Tr):aP 0 (trM l)=true∧bX (trM l)=true:=by
 induction l with
 | nil=>exact⟨rfl,rfl⟩
 | cons x l ih=>simp[trM,aP,bX,old,noY,ih.1,ih.2]
theorem aY5:aI Tryz.prog gl0 55 bTt:=by
 refine fZ (enters_of (by kernel_rfl)) aO λargs H Q hc => ?_
 unfold bTt at hc
 split at hc
 ·rename_i tg l n i
  split at hc
  ·rename_i c t u hb
   obtain⟨ts,s,⟨h0,rfl,rfl,rfl,h1⟩,hq⟩:=hc
   rw[aD]at h0
   have hi:H[i]? = some ⟨.exact,true,[.int .i64 c,.int .i64 t,.int .u64 (s:Nat)]⟩:=by
    rw[bW7,bW8 h0]at hb
    rw[bW8 h0]
    exact congrArg some hb
   obtain⟨hv,hb',h⟩:=aR4 tg c t s ts h1 (Q:=λo H' _=>o=.ret (.bool (pU c ts ts.length))∧H'=[⟨.exact,true,[.int .i64 c,.int .i64 t,.int .u64 (s:Nat)]⟩]) ⟨rfl,rfl⟩
   refine⟨_,1000,λ_=>i,[.lst tg (trM ts) ts.length 3,.fn (.func 54) [] [.ptr 0 3 0]],[⟨.exact,true,[.int .i64 c,.int .i64 t,.int .u64 (s:Nat)]⟩],_,aS aQe _ _ _,rfl,rfl,rfl, ?_,⟨λj b0 hj => ?_,λj j' b0 hj _ hj' _ => ?_,λj b0 hj => ?_⟩,h, ?_⟩
   ·simp[bX,noY,(aJt ts).2]
   ·match j,hj with
    | 0,hj=>
     cases hj
     exact⟨h0,rfl,rfl,λ_=>rfl,_,hi,rfl,.inr rfl⟩
   ·have:j<1:=(bXq.1 hj).1
    simp at hj'
    omega
   ·match j,hj with
    | 0,hj=>cases hj;exact λh=>by cases h
   ·rintro o H0' g' ⟨rfl,rfl⟩
    refine⟨H,⟨bXe _,λj b0 hj hk => ?_,λj b0 hj hk=>⟨b0,hj,rfl⟩,λj b0 hj hb0 => ?_,by simp,λ_ _ _=>rfl,λj b0 hj hk => ?_⟩,hq _ ⟨rfl⟩⟩
    ·match j,hj with
     | 0,hj=>cases hj;cases hk
    ·have:j<1:=(bXq.1 hb0).1
     simp at hj
     omega
    ·match j,hj with
     | 0,hj=>
      cases hj
      exact hi
  ·exact hc.elim
 ·exact hc.elim
end Go.Proofs.YtnhechnaemmdiaaGreatDoor

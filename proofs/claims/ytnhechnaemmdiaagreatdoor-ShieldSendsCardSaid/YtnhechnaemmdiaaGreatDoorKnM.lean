/-
  Chapter 25: extensions that are hidden (plain).
-/
import Derived.Test.YtnhechnaemmdiaaGreatDoorK25NA
import Derived.Test.YtnhechnaemmdiaaGreatDoorKnG
import Derived.Test.YtnhechnaemmdiaaGreatDoorKnL
import Derived.Test.YtnhechnaemmdiaaGreatDoorKnA
import Derived.Test.YtnhechnaemmdiaaGreatDoorKnE
set_option linter.unusedSimpArgs false
set_option linter.unusedVariables false
set_option linter.unusedSectionVars false
namespace Go.Proofs.YtnhechnaemmdiaaGreatDoor
open Go.RowKit
set_option maxRecDepth 1000000

def fM(sa:LA)(ss ix:Int):LA:=List.zipWith (λa b=>a ^^^ b) (Md.beMMd ss 4++Md.beMMd ix 8) sa
theorem pK{sa:LA}(h:sa.length=12)(ss ix:Int):(fM sa ss ix).length=12:=by
 rw[fM,bZy,bW2,Md.be_lenMd,Md.be_lenMd,h]
 rfl
def bZ(hid:QT):List Md.Xt->LA
 | []=>[]
 | x::l=>(if aEc x.1 hid=true then x.2 else[])++bZ hid l
def eX(hid:QT):List Md.Xt->LA->List Md.Xt
 | [],_=>[]
 | x::l,d=>if aEc x.1 hid=true then(x.1,d.take x.2.length)::eX hid l (d.drop x.2.length)else x::eX hid l d
def oG(hid:QT)(mk sa:LA)(ss ix:Int)(ex:List Md.Xt):List Md.Xt:=eX hid ex (iG mk (fM sa ss ix) 0 (bZ hid ex)).1
def oF(ex:List Md.Xt):List (Int×Nat):=ex.map λx=>(x.1,x.2.length)
theorem aBz(hid:QT):∀a b:List Md.Xt,bZ hid (a++b)=bZ hid a++bZ hid b
 | [],b=>rfl
 | x::a,b=>by rw[bX0,bZ,bZ,aBz hid a b,bW9]
theorem uA(hid:QT):∀ (ex:List Md.Xt) (d:LA),(eX hid ex d).length=ex.length
 | [],_=>rfl
 | x::l,d=>by rw[eX];split<;>simp[uA hid l]
theorem uB(hid:QT):∀ (a b:List Md.Xt) (d:LA),eX hid (a++b) d=eX hid a d++eX hid b (d.drop (bZ hid a).length)
 | [],b,d=>by simp[eX,bZ]
 | x::a,b,d=>by
  rw[bX0,eX,eX,bZ]
  split
  ·rw[uB hid a b,bX0,bW2,bY9]
  ·rw[uB hid a b,bX2,bX0]
theorem aB8(hid:QT):∀ (ex:List Md.Xt) (d:LA),(bZ hid ex).length<=d.length->oF (eX hid ex d)=oF ex
 | [],_,_=>rfl
 | x::l,d,h=>by
  rw[bZ]at h
  rw[eX]
  split at h
  ·rename_i hx
   rw[bW2]at h
   rw[if_pos hx,oF,oF,bXu,bXu]
   have ih:=aB8 hid l (d.drop x.2.length) (by rw[bYt];omega)
   rw[oF,oF]at ih
   rw[ih]
   simp only[bXg]
   rw[bYf (by omega)]
  ·rename_i hx
   rw[bX2]at h
   rw[if_neg hx,oF,oF,bXu,bXu]
   have ih:=aB8 hid l d h
   rw[oF,oF]at ih
   rw[ih]
theorem aRd(hid:QT)(sh:Bool):∀ex:List Md.Xt,(bZ hid ex).length<=(Md.extBM sh ex).length
 | []=>bXe _
 | x::l=>by
  have ih:=aRd hid sh l
  rw[bZ,Md.extBM]
  simp only[bW2]
  split
  ·omega
  ·simp only[bXm];omega
theorem bC7{key no:LA}(h1:key.length=32)(h2:no.length=12):dR key no 0=true:=by simp[dR,h1,h2]
theorem bU1{key no hd pl:LA}(h1:key.length=32)(h2:no.length=12)(h3:hd.length<=4096)(h4:pl.length<=4096) :
  nM key no hd pl=(tO (fD key no) 1 70 pl++lD key no hd (tO (fD key no) 1 70 pl),0):=by
 rw[nM,if_neg (by rw[bC7 h1 h2];simp),if_neg (by omega)]
theorem aFv{key no hd pl:LA}(h1:key.length=32)(h2:no.length=12)(h3:hd.length<=4096)(h4:pl.length<=4096):(nM key no hd pl).1.length=pl.length+16:=by
 rw[bU1 h1 h2 h3 h4]
 dsimp only
 rw[bW2,uQ,xK _ _ _ _ (by omega)]
theorem bB8{key no s:LA}(h1:key.length=32)(h2:no.length=12)(h3:s.length<=4096):iG key no 0 s=(tO (fD key no) 0 70 s,0):=by
 rw[iG,if_neg (by rw[bC7 h1 h2];simp),if_neg (by omega),if_neg (by omega)]
theorem aXl{hid:QT}{mk sa:LA}{ss ix:Int}{ex:List Md.Xt}(h1:mk.length=32)(h2:sa.length=12)(h3:(bZ hid ex).length<=4096):oF (oG hid mk sa ss ix ex)=oF ex:=by
 have hn:=pK h2 ss ix
 have ha:=bB8 (s:=bZ hid ex) h1 hn h3
 have hl:=xK (fD mk (fM sa ss ix)) 70 0 (bZ hid ex) (by omega)
 unfold oG
 rw[ha]
 exact aB8 hid ex _ (by dsimp only;omega)
def gJ:List LA->HB
 | []=>[]
 | s::l=>.str s::gJ l
theorem bEz{m:M}{a b:AV}{vs:Array Value}(hv:VRL m [a,b] vs.toList):∃v w,vs = #[v,w]∧VR m a v∧VR m b w:=by
 obtain⟨v1,l1,e1,h1,r1⟩:=bB hv
 obtain⟨v2,l2,e2,h2,r2⟩:=bB r1
 rw[gL]at r2
 subst r2
 subst e2
 exact⟨v1,v2,by apply cA5;simpa using e1,h1,h2⟩

theorem aDq{P:Program}{gl:Nat->Option HB}{f:FuncId}{c:HB->HV->(Out->HV->Prop)->Prop}(he:Enters P f)
  (h:∀args H Q,c args H Q->∀ (m:M) (w:World) (vs:Array Value),VRL m args vs.toList->HR gl m H w->∃a v,Q (.ret a) H∧VR m a v∧Calls P f vs w λe w'=>e=.returned v∧Below w.heap.size w w'):aI P gl f c:=by
 refine⟨he,λargs H Q hc m w vs hv hH => ?_⟩
 obtain⟨a,v,hq,ha,hr⟩:=h args H Q hc m w vs hv hH
 refine hr.mono ?_
 rintro e w' ⟨rfl,bel⟩
 exact⟨.ret a,H,m,hq,ha,hH.same (Ext.refl m) rfl rfl λj hj=>bel.block j hj,
  ⟨Ext.refl m,bel.os,bel.tape,bel.output,bel.size,λk hk _=>bel.block k hk,λ_ h=>.inr h,λ_ _ h=>h,λ_ _ _ h=>.inl h⟩,bXe _,λ_ _ h=>h⟩
def mK(l:List LA)(sep:LA):LA:=Lib.join l sep
def aUi:Con
 | [.lst _ ss n 1,.str sep],H,K=>∃l:List LA,Lf (ss=gJ l∧n=l.length∧l.length<=1000∧(mK l sep).length<=1000000)∧∀x,Lf (x=mK l sep)->K (.ret (.str x)) H
 | _,_,_=>False
theorem aD8{m:M}:∀ (l:List LA) (vs:List Value),VRL m (gJ l) vs->vs=l.map λs=>Value.string ⟨s.toArray⟩
 | [],vs,h=>by simpa[gJ]using h
 | s::l,vs,h=>by
  obtain⟨v,vs',e,h1,h2⟩:=bB h
  rw[e,aD8 l vs' h2]
  simp only[VR]at h1
  rw[h1]
  rfl
theorem aPb:aI Tryz.prog gl0 129 aUi:=by
 refine aDq (enters_of (by kernel_rfl)) λargs H Q hc m w vs hv hH => ?_
 unfold aUi at hc
 split at hc
 ·rename_i tg ss n sep
  obtain⟨l,⟨rfl,rfl,h1,h2⟩,hq⟩:=hc
  obtain⟨v,u,rfl,g1,g2⟩:=bEz hv
  simp only[VR]at g1 g2
  subst g2
  obtain⟨_,k2,oa,cap,rfl,k3,k4⟩:=g1
  have ex:(l.map λs=>(⟨s.toArray⟩:ByteArray)).map (·.data.toList)=l:=by
   rw[cA0]
   exact(List.map_congr_left λ_ _=>rfl).trans (cCb l)
  rcases k4 with ⟨a,cs,rfl,k5,k6,k7,k8⟩ | ⟨k5,k6,_⟩
  ·obtain⟨cu,e,fr,f1,f2⟩:=hH.frz _ _ _ k6
   have hvals:=aD8 l _ k8
   obtain⟨ab,ao,asp⟩:=a
   simp only at k5 k6 k7 k8 f1 hvals
   subst k5
   have hj:=Tryz.strings_Join ab ao cap (l.map λs=>(⟨s.toArray⟩:ByteArray)) ⟨sep.toArray⟩ w (λj x hx => ?_) (bXa.1 f1).1 (by simp;omega) (by simpa using k3) (by rw[ex];unfold mK at h2;simpa using(by omega:(Lib.join l sep).length<=140737488355328))
   ·rw[ex,bZ1]at hj
    exact⟨_,_,hq _ ⟨rfl⟩,by simp[VR,mK],hj⟩
   ·have e1:(l.map λs=>Value.string ⟨s.toArray⟩)[j]? = some (.string x):=by
     rw[cAo]at hx ⊢
     cases hy:l[j]? with
     | none=>rw[hy]at hx;simp at hx
     | some y=>rw[hy]at hx;simp only[cB6,bW5]at hx ⊢;rw[hx]
    rw[←hvals]at e1
    have hjl:j<(gJ l).length:=by
     rcases cA3 j (gJ l).length with g | g
     ·exact g
     ·rw[bZn (by rw[bXg];omega)]at e1;simp at e1
    rw[List.getElem?_take_of_lt hjl,bYo]at e1
    have hcl:ao+j<cs.length:=by omega
    rw[←f2,List.getElem?_take_of_lt hcl]at e1
    simp only[World.cell?,f1,Option.isSome_none,bY5,cBj]
    rw[←bZg]
    exact e1
  ·have hl:l.length=0:=k5
   obtain rfl:=bYq.1 hl
   exact⟨_,.string ⟨#[]⟩,hq _ ⟨rfl⟩,by simp[VR,mK,Lib.join],(Tryz.strings_Join_none oa cap ⟨sep.toArray⟩ w).mono λe w' h=>⟨h.1,h.2▸Below.refl _ _⟩⟩
 ·exact hc.elim

def aR9:Con:=λargs H Q=>qI [1] H args λa=>aUi a H Q
theorem aB7:aI Tryz.prog gl0 129 aR9:=eG aPb aO [1] λargs H Q hc=>by
 unfold aUi at hc
 split at hc
 ·obtain⟨l,h,hq⟩:=hc
  exact⟨l,h,λx hx=>⟨rfl,⟨_,rfl,rfl⟩,hq x hx⟩⟩
 ·exact hc.elim
theorem sF{x:Int}{K:Int->Prop}(h:K (x%256)):∃n:Int,AV.int .u8 (IntKind.wrap .u8 x)=AV.int .u8 n∧K n:=by
 have e:IntKind.wrap .u8 x=x%256:=by
  simp only[IntKind.wrap,IntKind.bits,IntKind.signed,bZi]
  have e2:(2:Int)^8=256:=rfl
  rw[e2]
  rfl
 exact⟨_,congrArg _ e,h⟩
theorem gQ(n:Int)(i:Nat):toB (.int .u8 (Int.fdiv n (256^i)%256))=Md.octMMd n i:=by
 have h0:(0:Int)<=256^i:=Int.pow_nonneg (by decide)
 rw[bX3 _ h0]
 rfl
theorem bPu(n:Int)(Q:BS)(hq:Q (.ret (.str (Md.beMMd n 4))) [] {}):∃hv hb,aB9 hv hb n Q:=by
 obtain⟨hv,hb',e⟩:∃hv hb,aB9 hv hb n Q=_:=⟨_,_,bPx n Q⟩
 refine⟨hv,hb',e.mpr ?_⟩
 clear e
 refine⟨_,rfl,sF ⟨_,rfl,sF ⟨_,rfl,sF ⟨_,rfl,sF ⟨_,rfl, ?_⟩⟩⟩⟩⟩
 have e:[toB (.int .u8 (Int.fdiv n 16777216%256)),toB (.int .u8 (Int.fdiv n 65536%256)),toB (.int .u8 (Int.fdiv n 256%256)),toB (.int .u8 (Int.fdiv n 1%256))]=Md.beMMd n 4:=by
  rw[←show((256:Int)^3=16777216)by decide,←show((256:Int)^2=65536)by decide]
  rw[gQ n 3,gQ n 2,show toB (.int .u8 (Int.fdiv n 256%256))=Md.octMMd n 1 from gQ n 1,show toB (.int .u8 (Int.fdiv n 1%256))=Md.octMMd n 0 from gQ n 0]
  rfl
 rw[e]
 exact hq
theorem bPp(n:Int)(Q:BS)(hq:Q (.ret (.str (Md.beMMd n 8))) [] {}):∃hv hb,aBu hv hb n Q:=by
 obtain⟨hv,hb',e⟩:∃hv hb,aBu hv hb n Q=_:=⟨_,_,bP8 n Q⟩
 refine⟨hv,hb',e.mpr ?_⟩
 clear e
 refine⟨_,rfl,sF ⟨_,rfl,sF ⟨_,rfl,sF ⟨_,rfl,sF ⟨_,rfl,sF ⟨_,rfl,sF ⟨_,rfl,sF ⟨_,rfl,sF ⟨_,rfl, ?_⟩⟩⟩⟩⟩⟩⟩⟩⟩
 refine cast (congrArg (λl=>Q (.ret (.str l)) [] {}) ?_) hq
 rw[show Md.beMMd n 8=[Md.octMMd n 7,Md.octMMd n 6,Md.octMMd n 5,Md.octMMd n 4,Md.octMMd n 3,Md.octMMd n 2,Md.octMMd n 1,Md.octMMd n 0]from rfl]
 rw[←gQ n 7,←gQ n 6,←gQ n 5,←gQ n 4,←gQ n 3,←gQ n 2,←gQ n 1,←gQ n 0]
 rfl
def bA8:Con
 | [.int .i64 n,.int .i64 k],H,K=>Lf (k=4∨k=8)∧∀s:LA,Lf (s=Md.beMMd n k.toNat)->K (.ret (.str s)) H
 | _,_,_=>False
theorem aHk:aI Tryz.prog gl0 93 bA8:=by
 refine aQ (enters_of (by kernel_rfl)) aO λargs H Q hc => ?_
 unfold bA8 at hc
 split at hc
 ·rename_i n k
  obtain⟨⟨hk⟩,hq⟩:=hc
  rcases hk with rfl | rfl
  ·obtain⟨hv,hb',h⟩:=bPu n (λo H' _=>H'=[]∧(∃v,o=.ret v∧old 0 v=true∧noY v=true)∧Q o H) ⟨rfl,⟨_,rfl,rfl,rfl⟩,hq _ ⟨rfl⟩⟩
   exact⟨rfl,rfl,_,1000,aS bY (λ_=>none) hv hb',rfl,h⟩
  ·obtain⟨hv,hb',h⟩:=bPp n (λo H' _=>H'=[]∧(∃v,o=.ret v∧old 0 v=true∧noY v=true)∧Q o H) ⟨rfl,⟨_,rfl,rfl,rfl⟩,hq _ ⟨rfl⟩⟩
   exact⟨rfl,rfl,_,1000,aS bY (λ_=>none) hv hb',rfl,h⟩
 ·exact hc.elim
def aDc(x sa:LA)(i:Nat):LA:=(List.zipWith (λa b=>a ^^^ b) x sa).take i++x.drop i
def bVr:SM:=gG [(93,bA8),(129,aR9)]
theorem bG2:∀f g,bVr f=some g->aI Tryz.prog gl0 f g:=bO _ (by simp only[bXd,bXn,bY0,bYd,bY4];exact⟨aHk,aB7⟩)
def bOc(sa:LA)(z:S):List (List LInv):=match z.hp with
 | [c,d,⟨_,_,bs⟩]=>[[{ α:=LA×Nat,pre:=λp=>Lf (bs=ofBytes p.1∧p.1.length=12∧p.2<=12),st:=λp=>⟨mkT [(0,.ptr 0 9 0),(7,.sl 2 p.1.length 0 p.1.length 1),(17,.int .i64 (p.1.length:Nat)),(18,.int .i64 (p.2:Nat))],[c,d,⟨.grow,true,ofBytes (aDc p.1 sa p.2)⟩]⟩,mu:=λp=>12-p.2 }]]
 | _=>[]
noncomputable def bBs(hv:LI)(hb:LB)(sa:LA):Env := { e04 bVr (λi=>bif Nat.beq i 67000 then some (bOc sa)else none) hv hb with hz:=λk=>Nat.beq k 274445 }
noncomputable def aJe(hv:LI)(hb:LB)(k sa mk:LA)(hl:HB)(hn:Nat)(x:AV)(nx rs rt rk:Int)(ds:HB)(ss ix:Int)(Q:BS):Prop:=
 aT (bBs hv hb sa) (wpx (bBs hv hb sa) 1000) 67 [.ptr 0 9 0,.int .i64 ss,.int .i64 ix] [⟨.ro,false,zJ k sa mk hl hn x nx rs rt rk⟩,⟨.ro,false,ds⟩] {} Q
abbrev bRc(x_3:LA)(x_5:LA×Nat):Prop:=Lf (ofBytes x_3=ofBytes x_5.1∧x_5.1.length=12∧x_5.2<=12)
abbrev bD9(x_5:LA×Nat)(sa:LA):HB:=ofBytes (aDc x_5.1 sa x_5.2)
abbrev bKt(x_5:LA×Nat)(sa:LA):Bool:=Nat.beq (ofBytes (aDc x_5.1 sa x_5.2)).length x_5.1.length
theorem bSv(k:LA)(sa:LA)(mk:LA)(hl:HB)(hn:Nat)(x:AV)(nx:Int)(rs:Int)(rt:Int)(rk:Int)(ds:HB)(ss:Int)(ix:Int)(Q:BS):aJe (aW
 [(274449,.int .i64),(274452,.int .i64),(274456,.int .u8),(274464,.int .u8),(274465,.int .u8),(274467,.int .i64),(274469,.str)]) (aV [(344062,true),(1274432000,true),(278526,true)]) k sa mk hl hn x nx rs rt rk ds ss ix
 Q=(Lf ((4:Int)=(4:Int)∨(4:Int)=(8:Int))∧∀s_0:LA,Lf (s_0=Md.beMMd ss (Int.toNat 4))->Lf ((8:Int)=(4:Int)∨(8:Int)=(8:Int))∧∀s_1:LA,Lf (s_1=Md.beMMd ix (Int.toNat 8))->∃l_2 :
 List LA,Lf ([AV.str s_0,.str s_1]=gJ l_2∧2=l_2.length∧l_2.length<=1000∧(mK l_2 []).length<=1000000)∧∀x_3:LA,Lf (x_3=mK l_2 [])->(aP 2 [.str k,.str sa,.str mk,.lst 0 hl hn 1,x,.int
 .i64 nx,.int .i64 rs,.int .i64 rt,.int .u64 rk]&&(aP 2 ds&&true))=true∧ckQ (Nat.beq (ofBytes x_3).length x_3.length) (exI .i64 (x_3.length:Int) (λn_4=>(∃x_5:LA×Nat,bRc x_3 x_5∧aK [AV.str k,.str sa,
 .str mk,.lst 0 hl hn 1,x,.int .i64 nx,.int .i64 rs,.int .i64 rt,.int .u64 rk]∧ds=ds∧ckQ (aP 0 (ofBytes x_3)==true) (ofBytes x_3=bD9 x_5 sa∧aK (AV.ptr 0 9 0)∧AV.sl 2 x_3.length 0 x_3.length 1=AV.sl 2 x_5.1.length
 0 x_5.1.length 1∧AV.int .i64 n_4=AV.int .i64 (x_5.1.length:Int)∧AV.int .i64 0=AV.int .i64 (x_5.2:Int)∧True))∧∀x_5:LA×Nat,bRc x_3 x_5->bif decide ((x_5.2:Int)<(x_5.1.length:Int))then exI .i64 (x_5.2 :
 Int) (λn_6=>ckQ (decide (0<=n_6)&&Nat.blt n_6.toNat x_5.1.length&&bKt x_5 sa&&true) (ckQ (bKt x_5 sa&&Nat.blt (0+n_6.toNat*1) x_5.1.length) (exV .u8 ((((bD9 x_5 sa).drop (0+n_6.toNat*1)).take 1).getD 0 AV.undef)
 (λn_7=>ckQ (decide (0<=n_6)&&Nat.blt n_6.toNat sa.length) (exI .u8 (UInt8.toNat (sa.getD n_6.toNat (UInt8.ofNat 0)):Int) (λn_8=>exW .u8 (((n_7%256).toNat ^^^ (n_8%256).toNat:Nat):Int) (λn_9=>ckQ (decide (0 ≤
 n_6)&&Nat.blt n_6.toNat x_5.1.length&&bKt x_5 sa&&true) (ckQ (bKt x_5 sa&&Nat.ble (0+n_6.toNat*1+1) x_5.1.length&&true&&true&&true) (exW .i64 ((x_5.2:Int)+1) (λn_10=>(aP 3 [.str k,.str sa,.str mk,.lst 0
 hl hn 1,x,.int .i64 nx,.int .i64 rs,.int .i64 rt,.int .u64 rk]&&(aP 3 ds&&true))=true∧(True∧(0:Nat)=(0:Nat))∧∃y_11:LA×Nat,bRc x_3 y_11∧12-y_11.2<12-x_5.2∧aK [AV.str k,.str sa,.str mk,
 .lst 0 hl hn 1,x,.int .i64 nx,.int .i64 rs,.int .i64 rt,.int .u64 rk]∧ds=ds∧aN (bD9 x_5 sa) (0+n_6.toNat*1) [.int .u8 n_9]=bD9 y_11 sa∧aK (AV.ptr 0 9 0)∧AV.sl 2 x_5.1.length 0 x_5.1.length 1=AV.sl 2
 y_11.1.length 0 y_11.1.length 1∧AV.int .i64 (x_5.1.length:Int)=AV.int .i64 (y_11.1.length:Int)∧AV.int .i64 n_10=AV.int .i64 (y_11.2:Int)∧True))))))))))else ckQ (bKt x_5 sa&&Nat.ble (0+x_5.1.length) x_5.1.length &&
 true&&fU (((bD9 x_5 sa).drop 0).take x_5.1.length)) (exS (.str (List.map toB (((bD9 x_5 sa).drop 0).take x_5.1.length))) (λs_6=>(aP 2 [.str k,.str sa,.str mk,.lst 0 hl hn 1,x,.int .i64 nx,.int .i64 rs,.int .i64 rt,
 .int .u64 rk]&&(aP 2 ds&&true))=true∧Q (.ret (.str s_6)) [Blk.mk BK.ro false (zJ k sa mk hl hn x nx rs rt rk),Blk.mk BK.ro false ds] {}))))):=by kernel_rfl

theorem bM7(a b:LA):mK [a,b] []=a++b:=by simp[mK,Lib.join]
theorem bFw(l:LA):(ofBytes l).map toB=l:=by
 simp only[ofBytes,cA0]
 conv=>rhs;rw[←cCb l]
 congr 1
 funext x
 simp[toB]
theorem bAb{a b:LA}(h:ofBytes a=ofBytes b):a=b:=by rw[←bFw a,h,bFw]
theorem bSh{s:LA}{i j:Nat}(hi:i<s.length)(hj:j=i){K:Int->Prop}(hk:K ((s.getD i 0).toNat:Int)):∃n:Int,(((ofBytes s).drop j).take 1).getD 0 AV.undef=AV.int .u8 n∧K n:=by
 subst hj
 refine⟨_, ?_,hk⟩
 rw[bW7,bXz,if_pos (by omega),bYo,bYv]
 simp[ofBytes,hi]
theorem bD3(x sa:LA)(i:Nat)(hx:x.length=12)(hs:sa.length=12):(aDc x sa i).length=12:=by
 rw[aDc,bW2,bXg,bZy,bYt];omega
theorem bIl(x sa:LA)(i:Nat)(hx:x.length=12)(hs:sa.length=12)(hi:i<12):(aDc x sa i).getD i 0=x.getD i 0:=by
 rw[aDc,bW7,bYa (by rw[bXg,bZy];omega),bXg,bZy,bYo,bW7]
 congr 2
 omega
theorem aZv(x sa:LA)(i:Nat)(hx:x.length=12)(hs:sa.length=12)(hi:i<12):(aDc x sa i).set i (x.getD i 0 ^^^ sa.getD i 0)=aDc x sa (i+1):=by
 have h1:i<x.length:=by omega
 have h2:i<sa.length:=by omega
 have h3:i<(List.zipWith (λa b=>a ^^^ b) x sa).length:=by rw[bZy];omega
 have e1:x.getD i 0=x[i]:=by rw[bW7,bW8 h1];rfl
 have e2:sa.getD i 0=sa[i]:=by rw[bW7,bW8 h2];rfl
 rw[aDc,aDc,bZ0 _ _ (by rw[bXg];omega),bXg,bYf (by omega),bZ4,bZe h1,cAy,List.take_succ_eq_append_getElem h3,bW9,List.getElem_zipWith,e1,e2]
 rfl
theorem aSh(k sa mk:LA)(hl:HB)(hn:Nat)(x:AV)(nx rs rt rk:Int)(ds:HB)(ss ix:Int)(hs:sa.length=12)(hx:old 2 x=true)(hd:aP 0 ds=true)(Q:BS)(hq:Q (.ret (.str (fM sa ss ix))) [⟨.ro,false,zJ k sa mk hl hn x nx rs rt rk⟩,⟨.ro,false,ds⟩] {}) :
  ∃hv hb,aJe hv hb k sa mk hl hn x nx rs rt rk ds ss ix Q:=by
 obtain⟨hv,hb',e⟩:∃hv hb,aJe hv hb k sa mk hl hn x nx rs rt rk ds ss ix Q=_:=⟨_,_,bSv k sa mk hl hn x nx rs rt rk ds ss ix Q⟩
 refine⟨hv,hb',e.mpr ?_⟩
 delta bRc bD9 bKt
 clear e
 have hox:aP 2 [x]=true:=by rw[aP,hx];rfl
 have ho:∀n,2<=n->(aP n [.str k,.str sa,.str mk,.lst 0 hl hn 1,x,.int .i64 nx,.int .i64 rs,.int .i64 rt,.int .u64 rk]&&(aP n ds&&true))=true:=λn h=>by
  have h1:=cB h _ hox
  have h2:=cB (bYb n) _ hd
  simp only[aP,bX4]at h1
  simp[aP,old,h1,h2]
 refine⟨⟨.inl rfl⟩, ?_⟩
 rintro s0 ⟨rfl⟩
 refine⟨⟨.inr rfl⟩, ?_⟩
 rintro s1 ⟨rfl⟩
 have h4:(Md.beMMd ss 4).length=4:=Md.be_lenMd _ _
 have h8:(Md.beMMd ix 8).length=8:=Md.be_lenMd _ _
 refine⟨[Md.beMMd ss 4,Md.beMMd ix 8],⟨rfl,rfl,by simp,by rw[bM7,bW2];omega⟩, ?_⟩
 rw[bM7]
 rintro y ⟨hy⟩
 have hyl:y.length=12:=by rw[hy,bW2,h4,h8]
 have hnon:fM sa ss ix=List.zipWith (λa b=>a ^^^ b) y sa:=by rw[hy];rfl
 refine⟨ho 2 (by omega),ckI (by simp[ofBytes]) ⟨_,rfl,⟨(y,0),⟨rfl,hyl,bYb _⟩,rfl,rfl,ckI (by rw[(fG y)];rfl) ⟨by simp[aDc],rfl,rfl,rfl,rfl,trivial⟩⟩, ?_⟩⟩
 rintro⟨z,i⟩ ⟨hz,hz2,hi⟩
 obtain rfl:=bAb hz
 dsimp only at hz2 hi ⊢
 have hL:=bD3 y sa i hyl hs
 refine aH (λh=>⟨_,rfl, ?_⟩) (λh => ?_)
 ·have hi2:i<12:=by omega
  refine ckI (by simp[ofBytes,hL];omega) (ckI (by simp[ofBytes,hL];omega) (bSh (i:=i) (by omega) (by simp) (ckO ⟨_,rfl, ?_⟩)))
  have e8:=bWd ((aDc y sa i).getD i 0) ((sa.getD i 0).toNat)
  have h256:=((aDc y sa i).getD i 0).toNat_lt
  refine⟨_,congrArg (AV.int .u8) e8,ckI (by simp[ofBytes,hL];omega) (ckI (by simp[ofBytes,hL];omega) (aF ⟨ho 3 (by omega),⟨trivial,rfl⟩,(y,i+1),⟨rfl,hyl,by dsimp only;omega⟩,by dsimp only;omega,rfl,rfl, ?_,rfl,rfl,rfl,rfl,trivial⟩))⟩
  rw[stB (j:=i) (by omega) (by simp)]
  congr 1
  rw[←aZv y sa i hyl hs hi2,bIl y sa i hyl hs hi2]
  congr 1
  rw[x8M,UInt8.ofNat_toNat]
 ·obtain rfl:i=12:=by omega
  have e:aDc y sa 12=fM sa ss ix:=by
   rw[hnon,aDc,bW4 (by rw[bZy];omega),List.drop_eq_nil_of_le (by omega),bXs]
  have ht:((ofBytes (aDc y sa 12)).drop 0).take y.length=ofBytes (aDc y sa 12):=by rw[bXl];exact bW4 (by simp[ofBytes,hL];omega)
  rw[ht,bFw]
  refine ckI (by rw[uZ];simp[ofBytes,hL];omega) ⟨_,rfl,ho 2 (by omega), ?_⟩
  rw[e]
  exact hq
def aEx(rest:HB)(k sa mk:LA)(hl:HB)(hn:Nat)(K:AV->Prop):Prop:=match rest with
 | [.int .i64 ss,.int .i64 ix]=>Lf (sa.length=12)∧∀s:LA,Lf (s=fM sa ss ix)->K (.str s)
 | _=>False
theorem aBa:aI Tryz.prog gl0 67 (cbC aEx):=by
 refine aKu (enters_of (by kernel_rfl)) aO 9 (λv=>v) kW λrest k sa mk hl hn x nx rs rt rk ds R _ _ hx hd _ hg => ?_
 unfold aEx at hg
 split at hg
 ·rename_i ss ix _ _
  obtain⟨⟨h1⟩,hq⟩:=hg
  obtain⟨hv,hb',h⟩:=aSh k sa mk hl hn x nx rs rt rk ds ss ix h1 hx hd (λo H' _=>∃v,o=.ret v∧R (bU 0 H' 9 v)) ⟨_,rfl,hq _ ⟨rfl⟩⟩
  exact⟨_,1000,⟨jL,jM,dH,bG2⟩,rfl,h⟩
 ·exact hg.elim
noncomputable def wY(hv:LI)(hb:LB)(t:Nat)(Q:BS):Prop:=
 aT (e04 sm0 (λ_=>none) hv hb) (wpx (e04 sm0 (λ_=>none) hv hb) 1000) 115 [.lst t [] 0 2] [] {} Q
theorem bEg(t:Nat)(Q:BS):wY (aW []) (aV []) t Q=(
((Q (Out.ret (AV.sl (0:Nat) (0:Nat) (0:Nat) (0:Nat) (2:Nat))) ((Blk.mk BK.exact true [])::[]) (Gh.mk (0:Nat) (0:Nat) [])) ∧
 (Q (Out.ret AV.nils) [] (Gh.mk (0:Nat) (0:Nat) [])))):=by kernel_rfl

noncomputable def vX(hv:LI)(hb:LB)(t:Nat)(x:Md.Xt)(ex:List Md.Xt)(Q:BS):Prop:=
 aT (e04 sm0 (λ_=>none) hv hb) (wpx (e04 sm0 (λ_=>none) hv hb) 1000) 115 [.lst t (Md.cellsXM (x::ex)) (ex.length+1) 2] [] {} Q
theorem bJl(t:Nat)(x:Md.Xt)(ex:List Md.Xt)(Q:BS):vX (aW []) (aV []) t x ex Q=(
((bif((((Nat.beq (List.length (Md.cellsXM (x::ex))) (((List.length ex)+(1:Nat))*(2:Nat)))&&(eH (Md.cellsXM (x::ex))))&&true)&&(Nat.ble (((List.length ex)+(1:Nat))*(24:Nat)) (1099511627776:Nat)))then(bif((Nat.ble ((0:Nat)+((List.length ex)+(1:Nat))) (1099511627776:Nat))&&(Nat.ble (((0:Nat)+((List.length ex)+(1:Nat)))*(24:Nat)) (1099511627776:Nat)))then(Q (Out.ret (AV.sl (1:Nat) ((0:Nat)+(List.length (Md.cellsXM (x::ex)))) (0:Nat) ((0:Nat)+((List.length ex)+(1:Nat))) (2:Nat))) ((Blk.mk BK.exact true [])::((Blk.mk BK.grow (aP (0:Nat) ([]++(Md.cellsXM (x::ex)))) ([]++(Md.cellsXM (x::ex))))::[])) (Gh.mk (0:Nat) (0:Nat) []))
else False)
else False) ∧
 True)):=by kernel_rfl

theorem aTc{P:Program}{gl:Nat->Option HB}{f:FuncId}{c c1 c2:HB->HV->(Out->HV->Prop)->Prop}(h1:aI P gl f c1)(h2:aI P gl f c2)(h:∀args H Q,c args H Q->c1 args H Q∨c2 args H Q):aI P gl f c:=
 ⟨h1.1,λargs H Q hc=>(h args H Q hc).elim (h1.2 args H Q) (h2.2 args H Q)⟩
theorem aLv{P:Program}{gl:Nat->Option HB}{f:FuncId}{c:HB->HV->(Out->HV->Prop)->Prop}(he:Enters P f)(hgl:∀g cs,gl g=some cs->bX cs=true)
  (h:∀args H Q,c args H Q->aP 0 args=true∧bX args=true∧∃ (E:Env) (n:Nat),EnvFor P E∧E.gl=gl ∧
   aT E (wpx E n) f args [] {} λo H' _=>(∀b∈H',b.k≠.ro∧aP 0 b.cs=true∧bX b.cs=true)∧Q (bKu (sig id 0 H.length) o) (H++H')):aI P gl f c:=by
 refine fZ he hgl λargs H Q hc => ?_
 obtain⟨h1,h2,E,n,hE,hg,h5⟩:=h args H Q hc
 refine⟨E,n,id,args,[],_,hE,hg,(aU id args h1 h2).symm,h1,h2,Fr.nil H,h5, ?_⟩
 rintro o H0' g' ⟨q1,q2⟩
 refine⟨H++H0',⟨bYb _, ?_, ?_, ?_,by simp, ?_, ?_⟩,q2⟩
 ·intro j b0 hj;simp at hj
 ·intro j b0 hj;simp at hj
 ·intro j b0 _ hk
  exact(q1 b0 (bY3 hk)).1
 ·intro id' hid _
  rw[bXx hid]
 ·intro j b hj _
  obtain⟨_,c1,c2⟩:=q1 b (bY3 hj)
  simp only[sig,aDd,aU _ b.cs c1 c2,bXm]
  rw[if_neg (by omega),bYa (by omega)]
  simpa using hj
theorem flX:∀ex:List Md.Xt,aP 0 (Md.cellsXM ex)=true∧bX (Md.cellsXM ex)=true
 | []=>⟨rfl,rfl⟩
 | x::l=>by
  have:=flX l
  exact⟨by simpa[Md.cellsXM,aP,old]using this.1,by simpa[Md.cellsXM,bX,noY]using this.2⟩
theorem kH:∀ex:List Md.Xt,(Md.cellsXM ex).length=2*ex.length
 | []=>rfl
 | x::l=>by
  have:=kH l
  simp only[Md.cellsXM,bXc]at this ⊢
  omega
theorem bWg:∀ex:List Md.Xt,eH (Md.cellsXM ex)=true
 | []=>rfl
 | x::l=>by
  have:=bWg l
  show(true&&(true&&eH (Md.cellsXM l)))=true
  rw[this];rfl
def bK0:Con
 | [.lst _ [] 0 2],H,K=>K (.ret (.lst 0 [] 0 2)) H
 | _,_,_=>False
theorem aRb:aI Tryz.prog gl0 115 bK0:=by
 refine dV (enters_of (by kernel_rfl)) aO 9 (nlR [2]) (vT _) λargs H Q hc => ?_
 unfold bK0 at hc
 split at hc
 ·rename_i t
  have run:∀Q:BS,Q (.ret (.sl 0 0 0 0 2)) [⟨.exact,true,[]⟩] {}->Q (.ret .nils) [] {}->∃hv hb,wY hv hb t Q:=λQ h1 h2=>by
   obtain⟨hv,hb',e⟩:∃hv hb,wY hv hb t Q=_:=⟨_,_,bEg t Q⟩
   exact⟨hv,hb',e.mpr ⟨h1,h2⟩⟩
  obtain⟨hv,hb',h⟩:=run (λo H' _=>∃v,o=.ret v∧Q (.ret (nlR [2] (bU 0 H' 9 v))) H) ⟨_,rfl,hc⟩ ⟨_,rfl,hc⟩
  exact⟨rfl,rfl,_,1000,aS bY (λ_=>none) hv hb',rfl,h⟩
 ·exact hc.elim
def bL5:Con
 | [.lst _ c n 2],H,K=>∃ (x:Md.Xt) (ex:List Md.Xt),Lf (c=Md.cellsXM (x::ex)∧n=ex.length+1∧ex.length<=1000000)∧K (.ret (.sl (H.length+1) (2*(x::ex).length) 0 (x::ex).length 2)) (H++[⟨.exact,true,[]⟩,⟨.grow,true,Md.cellsXM (x::ex)⟩])
 | _,_,_=>False
theorem bHz:aI Tryz.prog gl0 115 bL5:=by
 refine aLv (enters_of (by kernel_rfl)) aO λargs H Q hc => ?_
 unfold bL5 at hc
 split at hc
 ·rename_i t c n
  obtain⟨x,ex,⟨rfl,rfl,hl⟩,hq⟩:=hc
  have hlen:=kH (x::ex)
  rw[bXc]at hlen
  have hfl:=flX (x::ex)
  have run:∀Q:BS,Q (.ret (.sl 1 (2*(ex.length+1)) 0 (ex.length+1) 2)) [⟨.exact,true,[]⟩,⟨.grow,true,Md.cellsXM (x::ex)⟩] {}->∃hv hb,vX hv hb t x ex Q:=λQ h1=>by
   obtain⟨hv,hb',e⟩:∃hv hb,vX hv hb t x ex Q=_:=⟨_,_,bJl t x ex Q⟩
   refine⟨hv,hb',e.mpr ⟨ckI (by rw[bWg];simp[hlen];omega) (ckO ?_),trivial⟩⟩
   rw[bX2,hfl.1,hlen,bY6,bY6]
   exact h1
  obtain⟨hv,hb',h⟩:=run (λo H' _=>(∀b∈H',b.k≠.ro∧aP 0 b.cs=true∧bX b.cs=true)∧Q (bKu (sig id 0 H.length) o) (H++H')) ⟨by
   intro b hb
   simp only[bXd,bXn,bY0]at hb
   rcases hb with rfl | rfl
   ·exact⟨by simp,rfl,rfl⟩
   ·exact⟨by simp,hfl⟩,hq⟩
  exact⟨rfl,rfl,_,1000,aS bY (λ_=>none) hv hb',rfl,h⟩
 ·exact hc.elim
def bUh:Con
 | [.lst t c n 2],H,K=>∃ex:List Md.Xt,Lf (c=Md.cellsXM ex∧n=ex.length∧ex.length<=1000000)∧(Lf (ex=[])->K (.ret (.lst 0 [] 0 2)) H)∧(Lf (1<=ex.length)->K (.ret (.sl (H.length+1) (2*ex.length) 0 ex.length 2)) (H++[⟨.exact,true,[]⟩,⟨.grow,true,Md.cellsXM ex⟩]))
 | _,_,_=>False
theorem bMr:aI Tryz.prog gl0 115 bUh:=aTc aRb bHz λargs H Q hc=>by
 unfold bUh at hc
 split at hc
 ·rename_i t c n
  obtain⟨ex,⟨rfl,rfl,hl⟩,h0,h1⟩:=hc
  cases ex with
  | nil=>exact .inl (h0 ⟨rfl⟩)
  | cons x ex=>exact .inr ⟨x,ex,⟨rfl,rfl,by rw[bXc]at hl;omega⟩,h1 ⟨by simp⟩⟩
 ·exact hc.elim
end Go.Proofs.YtnhechnaemmdiaaGreatDoor

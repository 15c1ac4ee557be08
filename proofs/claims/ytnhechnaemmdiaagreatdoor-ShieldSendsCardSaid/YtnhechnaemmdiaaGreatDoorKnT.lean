/-
  Chapter 25: the reference's windows (what they give, within bounds).
-/
import Derived.Test.YtnhechnaemmdiaaGreatDoorKnQ
set_option linter.unusedSimpArgs false
set_option linter.unusedVariables false
set_option linter.unusedSectionVars false
namespace Go.Proofs.YtnhechnaemmdiaaGreatDoor
open Go.RowKit
set_option maxRecDepth 1000000

def xtM:List (Int×LA)->HB
 | []=>[]
 | x::l=>.int .i64 x.1::.str x.2::xtM l
def yR(w:Nat):List (Int×LA):=if w/4%2=1 then[(1,[111,110,101]),(2,[UInt8.ofNat w])]else[]
def sK(w:Nat):List (Int×LA):=if w/8%4=1 then[(3,[]),(200,[108,111,110,103])]else[]
def aUr(w:Nat):Int:=if w/32%2=1 then 1+((w/64:Nat):Int)else 0
def bAe(q:Int)(w:Nat):LA:=[UInt8.ofNat (97+w%26),UInt8.ofNat (q%256).toNat]
def pkM(q:Int)(w:Nat):HB:=[.bool (decide (w%2=0)),.int .i64 96,.int .i64 q,.int .i64 (90*q),.int .i64 (1+(w%4:Nat)),.lst 0 [] 0 1,.lst 0 (xtM (yR w++sK w)) (yR w++sK w).length 2,.int .i64 (aUr w),.str (bAe q w)]
noncomputable def aPu(hv:LI)(hb:LB):Env := { e04 sm0 (λ_=>none) hv hb with hz:=λk=>[86037,86046,86059,86060].contains k }
noncomputable def aCs(hv:LI)(hb:LB)(q:Int)(w:Nat)(Q:BS):Prop:=
 aT (aPu hv hb) (wpx (aPu hv hb) 1000) 21 [.int .i64 q,.int .u8 (w:Nat)] [] {} Q
abbrev bQ1:AV:=.str [UInt8.ofNat 111,UInt8.ofNat 110,UInt8.ofNat 101]
abbrev bUm:AV:=.str [UInt8.ofNat 108,UInt8.ofNat 111,UInt8.ofNat 110,UInt8.ofNat 103]
abbrev bT1(s_17:LA):AV:=.lst 0 [.int .i64 1,bQ1,.int .i64 2,.str s_17,.int .i64 3,.str [],.int .i64 200,bUm] 4 2
abbrev bRz(b_2:Bool)(q n_3 n_7 n_27:Int)(s_12:LA):HB:=[.bool b_2,.int .i64 96,.int .i64 q,.int .i64 n_3,.int .i64 n_7,.nils,.sl 2 4 0 2 2,.int .i64 n_27,.str s_12]
abbrev bQh(b_2:Bool)(q n_3 n_7:Int)(s_12:LA):HB:=[.bool b_2,.int .i64 96,.int .i64 q,.int .i64 n_3,.int .i64 n_7,.nils,.sl 2 4 0 2 2,.int .i64 0,.str s_12]
abbrev bUo:AV:=.lst 0 [.int .i64 3,.str [],.int .i64 200,bUm] 2 2
theorem bNa(q:Int)(w:Nat)(Q:BS):aCs (aW [(86022,.int .u8),(86023,.int .u8),(86024,.bool),(86027,.int .i64),(86028,.int .u8),(86029,.int .u8),(86030,.int .i64),(86031,.int .i64),
 (86032,.int .u8),(86033,.int .u8),(86034,.int .u8),(86036,.int .u8),(86038,.str),(86040,.int .u8),(86041,.int .u8),(86042,.int .u8),(86045,.int .u8),(86047,.str),(86051,.int .u8),(86052,.int .u8),(86053,.int .u8),
 (86062,.int .u8),(86063,.int .u8),(86064,.int .u8),(86066,.int .u8),(86067,.int .u8),(86068,.int .i64),(86069,.int .i64)]) (aV []) q w Q=(exI .u8 (w:Int) (λn_0=>exI .u8 (n_0.tmod 2) (λn_1=>exB (.bool (n_1 ==
 0)) (λb_2=>exW .i64 (90*q) (λn_3=>exI .u8 (w:Int) (λn_4=>exI .u8 (n_4.tmod 4) (λn_5=>exW .i64 n_5 (λn_6=>exW .i64 (1+n_6) (λn_7=>exI .u8 (w:Int) (λn_8=>exI .u8 (n_8.tmod 26) (λn_9=>exW .u8
 (97+n_9) (λn_10=>exW .u8 q (λn_11=>exS (.str [toB (.int .u8 n_10),toB (.int .u8 n_11)]) (λs_12=>exI .u8 (w:Int) (λn_13=>exW .u8 (n_13.tdiv 4) (λn_14=>exI .u8 (n_14.tmod 2) (λn_15=>bif n_15==1 then exI
 .u8 (w:Int) (λn_16=>exS (.str [toB (.int .u8 n_16)]) (λs_17=>exI .u8 (w:Int) (λn_18=>exW .u8 (n_18.tdiv 8) (λn_19=>exI .u8 (n_19.tmod 4) (λn_20=>bif n_20==1 then exI .u8 (w:Int) (λn_21=>exW .u8
 (n_21.tdiv 32) (λn_22=>exI .u8 (n_22.tmod 2) (λn_23=>bif n_23==1 then exI .u8 (w:Int) (λn_24=>exW .u8 (n_24.tdiv 64) (λn_25=>exW .i64 n_25 (λn_26=>exW .i64 (1+n_26) (λn_27=>Q (.ret (.agg [.bool b_2,.int
 .i64 96,.int .i64 q,.int .i64 n_3,.int .i64 n_7,.nils,bT1 s_17,.int .i64 n_27,.str s_12])) [] {}))))else Q (.ret (.agg [.bool b_2,.int .i64 96,.int .i64 q,.int .i64 n_3,.int .i64 n_7,.nils,bT1 s_17,.int .i64 0,.str
 s_12])) [] {})))else exI .u8 (w:Int) (λn_21=>exW .u8 (n_21.tdiv 32) (λn_22=>exI .u8 (n_22.tmod 2) (λn_23=>bif n_23==1 then exI .u8 (w:Int) (λn_24=>exW .u8 (n_24.tdiv 64) (λn_25=>exW .i64 n_25 (λn_26=>
 exW .i64 (1+n_26) (λn_27=>Q (.ret (.agg (bRz b_2 q n_3 n_7 n_27 s_12))) [Blk.mk BK.exact false (bRz b_2 q n_3 n_7 n_27 s_12),Blk.mk BK.exact false (bRz b_2 q n_3 n_7 n_27 s_12),Blk.mk BK.exact true [.int .i64 1,bQ1,.int .i64
 2,.str s_17]] {}))))else Q (.ret (.agg (bQh b_2 q n_3 n_7 s_12))) [Blk.mk BK.exact false (bQh b_2 q n_3 n_7 s_12),Blk.mk BK.exact false (bQh b_2 q n_3 n_7 s_12),Blk.mk BK.exact true [.int .i64 1,bQ1,.int .i64 2,.str s_17]]
 {}))))))))else exI .u8 (w:Int) (λn_16=>exW .u8 (n_16.tdiv 8) (λn_17=>exI .u8 (n_17.tmod 4) (λn_18=>bif n_18==1 then exI .u8 (w:Int) (λn_19=>exW .u8 (n_19.tdiv 32) (λn_20=>exI .u8 (n_20.tmod 2) (λn_21=>
 bif n_21==1 then exI .u8 (w:Int) (λn_22=>exW .u8 (n_22.tdiv 64) (λn_23=>exW .i64 n_23 (λn_24=>exW .i64 (1+n_24) (λn_25=>Q (.ret (.agg [.bool b_2,.int .i64 96,.int .i64 q,.int .i64 n_3,.int .i64 n_7,.nils,
 bUo,.int .i64 n_25,.str s_12])) [] {}))))else Q (.ret (.agg [.bool b_2,.int .i64 96,.int .i64 q,.int .i64 n_3,.int .i64 n_7,.nils,bUo,.int .i64 0,.str s_12])) [] {})))else exI .u8 (w:Int) (λn_19=>exW .u8 (n_19.tdiv 32)
 (λn_20=>exI .u8 (n_20.tmod 2) (λn_21=>bif n_21==1 then exI .u8 (w:Int) (λn_22=>exW .u8 (n_22.tdiv 64) (λn_23=>exW .i64 n_23 (λn_24=>exW .i64 (1+n_24) (λn_25=>Q (.ret (.agg [.bool b_2,.int .i64 96,.int
 .i64 q,.int .i64 n_3,.int .i64 n_7,.nils,.nils,.int .i64 n_25,.str s_12])) [] {}))))else Q (.ret (.agg [.bool b_2,.int .i64 96,.int .i64 q,.int .i64 n_3,.int .i64 n_7,.nils,.nils,.int .i64 0,.str s_12])) []
 {}))))))))))))))))))))))):=by kernel_rfl

theorem aT3(k:Nat){w:Nat}(hw:w<256){K:Int->Prop}(h:K ((w/k:Nat):Int)):∃n:Int,AV.int .u8 (IntKind.wrap .u8 (Int.tdiv (w:Int) (k:Int)))=AV.int .u8 n∧K n:=by
 have hd:w/k<=w:=cCz _ _
 refine⟨_, ?_,h⟩
 rw[show Int.tdiv (w:Int) (k:Int)=((w/k:Nat):Int)from rfl]
 generalize w/k=d at hd ⊢
 rw[show IntKind.wrap .u8 (d:Int)=(d:Int)%256 from rfl,show(d:Int)%256=(d:Int)by omega]
theorem aMt(q:Int)(w:Nat)(h0:0<=q∧q<=65535)(hw:w<256)(Q:BS)
  (hq:∀ (v:AV) (H:HV),nlV 2 (bU 0 H 8 v)=.lst 0 (xtM (yR w++sK w)) (yR w++sK w).length 2->Q (.ret (.agg [.bool (decide (w%2=0)),.int .i64 96,.int .i64 q,.int .i64 (90*q),.int .i64 (1+(w%4:Nat)),.nils,v,.int .i64 (aUr w),.str (bAe q w)])) H {}):∃hv hb,aCs hv hb q w Q:=by
 obtain⟨hv,hb',e⟩:∃hv hb,aCs hv hb q w Q=_:=⟨_,_,bNa q w Q⟩
 refine⟨hv,hb',e.mpr ?_⟩
 delta bQ1 bUm bT1 bRz bQh bUo
 clear e
 have eb:((((w%2:Nat):Int))==0)=decide (w%2=0):=by
  by_cases h:w%2=0
  ·rw[h];rfl
  ·rw[bXt h,cAs];omega
 have em:∀k:Nat,Int.tmod (w:Int) (k:Int)=((w%k:Nat):Int):=λk=>rfl
 have ed:∀k:Nat,Int.tdiv (w:Int) (k:Int)=((w/k:Nat):Int):=λk=>rfl
 have pad:∀ (v:AV) (H1:Int->HV) (H2:HV),(∀n,nlV 2 (bU 0 (H1 n) 8 v)=.lst 0 (xtM (yR w++sK w)) (yR w++sK w).length 2)->nlV 2 (bU 0 H2 8 v)=.lst 0 (xtM (yR w++sK w)) (yR w++sK w).length 2 →
   ∃n_21:Int,AV.int .u8 (w:Int)=AV.int .u8 n_21∧∃n_22:Int,AV.int .u8 (IntKind.wrap .u8 (Int.tdiv n_21 32))=AV.int .u8 n_22∧∃n_23:Int,AV.int .u8 (Int.tmod n_22 2)=AV.int .u8 n_23 ∧
    bif n_23==1 then ∃n_24:Int,AV.int .u8 (w:Int)=AV.int .u8 n_24∧∃n_25:Int,AV.int .u8 (IntKind.wrap .u8 (Int.tdiv n_24 64))=AV.int .u8 n_25∧∃n_26:Int,AV.int .i64 (IntKind.wrap .i64 n_25)=AV.int .i64 n_26∧∃n_27:Int,AV.int .i64 (IntKind.wrap .i64 (1+n_26))=AV.int .i64 n_27 ∧
     Q (.ret (.agg [.bool (decide (w%2=0)),.int .i64 96,.int .i64 q,.int .i64 (90*q),.int .i64 (1+(w%4:Nat)),.nils,v,.int .i64 n_27,.str (bAe q w)])) (H1 n_27) {}
    else Q (.ret (.agg [.bool (decide (w%2=0)),.int .i64 96,.int .i64 q,.int .i64 (90*q),.int .i64 (1+(w%4:Nat)),.nils,v,.int .i64 0,.str (bAe q w)])) H2 {}:=λv H1 H2 g1 g2=>by
  have k1:=hq v (H1 (1+((w/64:Nat):Int))) (g1 _)
  have k2:=hq v H2 g2
  unfold aUr at k1 k2
  refine⟨_,rfl,aT3 32 hw ⟨((w/32%2:Nat):Int),rfl,bJ (λh=>⟨_,rfl,aT3 64 hw (aF (aF ?_))⟩) (λh => ?_)⟩⟩
  ·rwa[if_pos (by omega)]at k1
  ·rwa[if_neg (by omega)]at k2
 refine⟨_,rfl,((w%2:Nat):Int),rfl,decide (w%2=0),congrArg AV.bool eb,aF ⟨_,rfl,((w%4:Nat):Int),rfl,aF (aF ⟨_,rfl,((w%26:Nat):Int),rfl,bC5 (by omega) (by omega) ⟨q%256,rfl,bAe q w,rfl,_,rfl,aT3 4 hw ⟨((w/4%2:Nat):Int),rfl,bJ (λha => ?_) (λha => ?_)⟩⟩⟩)⟩⟩
 ·have hA:yR w=[(1,[111,110,101]),(2,[UInt8.ofNat w])]:=by rw[yR,if_pos (by omega)]
  refine⟨_,rfl,[UInt8.ofNat w],rfl,_,rfl,aT3 8 hw ⟨((w/8%4:Nat):Int),rfl,bJ (λhb => ?_) (λhb => ?_)⟩⟩
  ·have hB:sK w=[(3,[]),(200,[108,111,110,103])]:=by rw[sK,if_pos (by omega)]
   refine pad _ _ _ (λn => ?_) ?_<;>(rw[hA,hB];rfl)
  ·have hB:sK w=[]:=by rw[sK,if_neg (by omega)]
   refine pad _ _ _ (λn => ?_) ?_<;>(rw[hA,hB];rfl)
 ·have hA:yR w=[]:=by rw[yR,if_neg (by omega)]
  refine⟨_,rfl,aT3 8 hw ⟨((w/8%4:Nat):Int),rfl,bJ (λhb => ?_) (λhb => ?_)⟩⟩
  ·have hB:sK w=[(3,[]),(200,[108,111,110,103])]:=by rw[sK,if_pos (by omega)]
   refine pad _ _ _ (λn => ?_) ?_<;>(rw[hA,hB];rfl)
  ·have hB:sK w=[]:=by rw[sK,if_neg (by omega)]
   refine pad _ _ _ (λn => ?_) ?_<;>(rw[hA,hB];rfl)
def mdK:AV->AV
 | .agg l=>.agg (nlL [0,0,0,0,0,1,2] l)
 | v=>v
theorem bMy(v:AV):wk v (mdK v):=by
 unfold mdK
 split
 ·exact aAi (pG _ _)
 ·exact kW _
def aH1:Con
 | [.int .i64 q,.int .u8 u],H,K=>∃w:Nat,Lf (u=(w:Int)∧(0<=q∧q<=65535)∧w<256)∧∀l:HB,Lf (l=pkM q w)->∀ (mk:Bool) (ty sq ti ss pd:Int) (m:Nat) (xs:HB) (pl:LA),Lf (l=[.bool mk,.int .i64 ty,.int .i64 sq,.int .i64 ti,.int .i64 ss,.lst 0 [] 0 1,.lst 0 xs m 2,.int .i64 pd,.str pl]) →
   K (.ret (.agg [.bool mk,.int .i64 ty,.int .i64 sq,.int .i64 ti,.int .i64 ss,.lst 0 [] 0 1,.lst 0 xs m 2,.int .i64 pd,.str pl])) H
 | _,_,_=>False
theorem aUw:aI Tryz.prog gl0 21 aH1:=dV (enters_of (by kernel_rfl)) aO 9 mdK bMy λargs H Q hc=>by
 unfold aH1 at hc
 split at hc
 ·rename_i q u
  obtain⟨w,⟨rfl,h0,hw⟩,hq⟩:=hc
  obtain⟨hv,hb',h⟩:=aMt q w h0 hw (Q:=λo H' _=>∃v,o=.ret v∧Q (.ret (mdK (bU 0 H' 9 v))) H) (λv H' hv=>⟨_,rfl,by
   have e:mdK (bU 0 H' 9 (.agg [.bool (decide (w%2=0)),.int .i64 96,.int .i64 q,.int .i64 (90*q),.int .i64 (1+(w%4:Nat)),.nils,v,.int .i64 (aUr w),.str (bAe q w)]))
    = .agg [.bool (decide (w%2=0)),.int .i64 96,.int .i64 q,.int .i64 (90*q),.int .i64 (1+(w%4:Nat)),.lst 0 [] 0 1,nlV 2 (bU 0 H' 8 v),.int .i64 (aUr w),.str (bAe q w)]:=rfl
   rw[e,hv]
   exact hq _ ⟨rfl⟩ _ _ _ _ _ _ _ _ _ ⟨rfl⟩⟩)
  exact⟨rfl,rfl,_,1000,⟨jL,jM,dH,bY⟩,rfl,h⟩
 ·exact hc.elim
def mQ(l:List (Int×Nat)):HB:=(l.map λx=>pkM x.1 x.2).flatten
def bJt(l:List (Int×Nat)):Prop:=∀x∈l,(0<=x.1∧x.1<=65535)∧x.2<256
def bP3(s:S):List (List LInv):=[[
 { α:=Int,pre:=λq=>Lf (0<=q∧q<=65535),st:=λq=>⟨mkT [(1,s.tm.get 1),(3,.nils),(4,.int .i64 q),(5,.int .i64 0)],s.hp⟩,mu:=λ_=>16 },
 { α:=Int×List (Int×Nat)×HB,pre:=λx=>Lf ((0<=x.1∧x.1<=65535)∧0<x.2.1.length∧x.2.1.length<=16∧bJt x.2.1),st:=λx=>⟨mkT [(1,s.tm.get 1),(3,.sl 2 (x.2.1.length*9) 0 x.2.1.length 9),(4,.int .i64 x.1),(5,.int .i64 (x.2.1.length:Nat))],s.hp++[⟨.exact,true,x.2.2⟩,⟨.grow,true,mQ x.2.1⟩]⟩,mu:=λx=>16-x.2.1.length }]]
def bWc:SM:=gG [(21,aH1)]
theorem bHu:∀f g,bWc f=some g->aI Tryz.prog gl0 f g:=bO _ (by simp only[bXd,bXn,bY0,bY4];exact aUw)
noncomputable def bBx(hv:LI)(hb:LB):Env := { e04 bWc (λi=>bif Nat.beq i 36000 then some bP3 else none) hv hb with hz:=λk=>Nat.beq k 147505 }
noncomputable def aCf(hv:LI)(hb:LB)(key:LA)(w:Nat)(fi:Nat)(ks:QT)(ss:Nat)(Q:BS):Prop:=
 aT (bBx hv hb) (wpx (bBx hv hb) 1000) 36 [.agg [.str key,.int .u16 (w:Nat),.int .u16 (fi:Nat),.lst 0 (tX ks) ks.length 1,.int .u32 (ss:Nat)]] [] {} Q
abbrev bJj(x_2:Int):Prop:=0<=x_2∧x_2<=65535
abbrev bJx(key:LA)(w fi:Nat)(ks:QT)(ss:Nat):Prop:=aK [AV.str key,.int .u16 (w:Int),.int .u16 (fi:Int),.lst 0 (tX ks) ks.length 1,.int .u32 (ss:Int)]
abbrev bMc(x_2:Int×List (Int×Nat)×HB):Prop:=Lf ((0<=x_2.1∧x_2.1<=65535)∧0<x_2.2.1.length∧x_2.2.1.length<=16∧bJt x_2.2.1)
abbrev bMx(n_6:Int)(ks:QT):Bool:=decide (0<=n_6)&&Nat.blt n_6.toNat ks.length&&true
abbrev bNm(n_6:Int)(ks:QT):Bool:=Nat.blt (n_6.toNat*1) (tX ks).length
abbrev bPg(ks:QT)(n_6:Int):AV:=(tX ks).getD (n_6.toNat*1) AV.undef
abbrev bKy(mk_26:Bool)(ty_27 sq_28 ti_29 ss_30:Int)(xs_33:HB)(m_32:Nat)(pd_31:Int)(pl_34:LA):HB:=[.bool mk_26,.int .i64 ty_27,.int .i64 sq_28,.int .i64 ti_29,.int .i64 ss_30,.lst 0 [] 0 1,.lst 0 xs_33 m_32 2,.int .i64 pd_31,.str pl_34]
abbrev bMi(w:Nat):AV:=.int .u16 (w:Int)
theorem bN9(key:LA)(w:Nat)(fi:Nat)(ks:QT)(ss:Nat)(Q:BS):aCf (aW [(147463,.int .u16),(147464,.int .i64),(147468,.int .i64),(147481,.int .i16),(147482,.int .i64),
 (147483,.int .i64),(147484,.int .i64),(147485,.int .i64),(147489,.int .u32),(147492,.int .u32),(147493,.int .u8),(147494,.int .u8),(147499,.int .i16),(147500,.int .i16),(147501,.int .u8),(147502,.int .u8),(147503,
 .int .u8),(147465,.int .i64),(147471,.int .i64),(147479,.int .i64),(147490,.int .i64),(147491,.int .i64),(147497,.int .i64),(147474,.int .i64),(147475,.int .i64)]) (aV []) key w fi ks ss Q=(exI .u16 (fi:Int) (λn_0
 => exW .i64 n_0 (λn_1=>((∃x_2:Int,Lf (bJj x_2)∧bJx key w fi ks ss∧aK (AV.ptr 0 5 0)∧AV.nils=AV.nils∧aK (AV.int .i64 0)∧AV.int .i64 n_1=AV.int .i64 x_2∧True)∨∃x_2:Int×List (Int×Nat)×HB,bMc
 x_2∧bJx key w fi ks ss∧False)∧(∀x_2:Int,Lf (bJj x_2)->exI .i64 0 (λn_3=>exI .i64 (ks.length:Int) (λn_4=>bif decide (n_3<n_4)then exI .i64 0 (λn_5=>bif decide (n_5<16)then exI .i64 0 (λn_6=>ckQ (bMx
 n_6 ks) (ckQ (bNm n_6 ks) (exV .i16 (bPg ks n_6) (λn_7=>exW .i64 n_7 (λn_8=>exW .i64 (x_2+n_8) (λn_9=>exW .i64 (n_9+65536) (λn_10=>exI .i64 (n_10.tmod 65536) (λn_11=>exI .u32 (ss:Int) (λn_12=>exI .i64
 0 (λn_13=>exW .i64 (2*n_13) (λn_14=>ckQ (decide (0<=n_14)&&true) (exI .u32 (Int.fdiv n_12 ((2:Int)^Min.min n_14.toNat 32)) (λn_15=>exW .u8 n_15 (λn_16=>exI .u8 (n_16.tmod 4) (λn_17=>exI .i64 0 (λn_18=>
 ckQ (bMx n_18 ks) (ckQ (bNm n_18 ks) (exV .i16 (bPg ks n_18) (λn_19=>exW .i16 (((n_19%65536).toNat &&& 63:Nat):Int) (λn_20=>exW .u8 n_20 (λn_21=>exW .u8 (4*n_21) (λn_22=>exW .u8 (n_17+n_22) (λn_23=>∃
 w_24:Nat,Lf (n_23=(w_24:Int)∧bJj n_11∧w_24<256)∧∀l_25:HB,Lf (l_25=pkM n_11 w_24)->∀mk_26:Bool,∀ty_27 sq_28 ti_29 ss_30 pd_31:Int,∀m_32:Nat,∀xs_33:HB,∀pl_34:LA,Lf (l_25=bKy
 mk_26 ty_27 sq_28 ti_29 ss_30 xs_33 m_32 pd_31 pl_34)->exI .i64 0 (λn_35=>exW .i64 (n_35+1) (λn_36=>(True∧(0:Nat)=(0:Nat))∧((∃y_37:Int,Lf (bJj y_37)∧(16:Nat)<(16:Nat)∧bJx key w fi ks ss∧False)∨∃
 y_37:Int×List (Int×Nat)×HB,bMc y_37∧16-y_37.2.1.length<16∧bJx key w fi ks ss∧bKy mk_26 ty_27 sq_28 ti_29 ss_30 xs_33 m_32 pd_31 pl_34=y_37.2.2∧bKy mk_26 ty_27 sq_28 ti_29 ss_30 xs_33 m_32 pd_31 pl_34=mQ
 y_37.2.1∧aK (AV.ptr 0 5 0)∧AV.sl 2 9 0 1 9=AV.sl 2 (y_37.2.1.length*9) 0 y_37.2.1.length 9∧AV.int .i64 n_36=AV.int .i64 (y_37.2.1.length:Int)∧AV.int .i64 n_11=AV.int .i64 y_37.1∧True))))))))))))))))))))))))))else Q
 (.ret .nils) [] {})else Q (.ret .nils) [] {})))∧∀x_2:Int×List (Int×Nat)×HB,bMc x_2->exI .i64 (x_2.2.1.length:Int) (λn_3=>exI .i64 (ks.length:Int) (λn_4=>bif decide (n_3<n_4)then exI .i64 (x_2.2.1.length
 : Int) (λn_5=>bif decide (n_5<16)then exI .i64 (x_2.2.1.length:Int) (λn_6=>ckQ (bMx n_6 ks) (ckQ (bNm n_6 ks) (exV .i16 (bPg ks n_6) (λn_7=>exW .i64 n_7 (λn_8=>exW .i64 (x_2.1+n_8) (λn_9=>exW .i64 (n_9 +
 65536) (λn_10=>exI .i64 (n_10.tmod 65536) (λn_11=>exI .u32 (ss:Int) (λn_12=>exI .i64 (x_2.2.1.length:Int) (λn_13=>exW .i64 (2*n_13) (λn_14=>ckQ (decide (0<=n_14)&&true) (exI .u32 (Int.fdiv n_12 ((2:Int)
 ^ Min.min n_14.toNat 32)) (λn_15=>exW .u8 n_15 (λn_16=>exI .u8 (n_16.tmod 4) (λn_17=>exI .i64 (x_2.2.1.length:Int) (λn_18=>ckQ (bMx n_18 ks) (ckQ (bNm n_18 ks) (exV .i16 (bPg ks n_18) (λn_19=>exW .i16 (((n_19
 % 65536).toNat &&& 63:Nat):Int) (λn_20=>exW .u8 n_20 (λn_21=>exW .u8 (4*n_21) (λn_22=>exW .u8 (n_17+n_22) (λn_23=>∃w_24:Nat,Lf (n_23=(w_24:Int)∧bJj n_11∧w_24<256)∧∀l_25:HB,Lf (l_25 =
 pkM n_11 w_24)->∀mk_26:Bool,∀ty_27 sq_28 ti_29 ss_30 pd_31:Int,∀m_32:Nat,∀xs_33:HB,∀pl_34:LA,Lf (l_25=bKy mk_26 ty_27 sq_28 ti_29 ss_30 xs_33 m_32 pd_31 pl_34)->ckQ (Nat.beq (mQ x_2.2.1).length
 (x_2.2.1.length*9)&&true&&Nat.beq (0+x_2.2.1.length*9) (x_2.2.1.length*9)&&Nat.ble (x_2.2.1.length+1) 1099511627776&&Nat.ble ((x_2.2.1.length+1)*112) 1099511627776) (exI .i64 (x_2.2.1.length:Int) (λn_35=>exW
 .i64 (n_35+1) (λn_36=>(True∧(0:Nat)=(0:Nat))∧((∃y_37:Int,Lf (bJj y_37)∧16<16-x_2.2.1.length∧bJx key w fi ks ss∧False)∨∃y_37:Int×List (Int×Nat)×HB,bMc y_37∧16-y_37.2.1.length<16 -
 x_2.2.1.length∧bJx key w fi ks ss∧x_2.2.2=y_37.2.2∧mQ x_2.2.1++bKy mk_26 ty_27 sq_28 ti_29 ss_30 xs_33 m_32 pd_31 pl_34=mQ y_37.2.1∧aK (AV.ptr 0 5 0)∧AV.sl 2 (x_2.2.1.length*9+9) 0 (x_2.2.1.length+1) 9=AV.sl
 2 (y_37.2.1.length*9) 0 y_37.2.1.length 9∧AV.int .i64 n_36=AV.int .i64 (y_37.2.1.length:Int)∧AV.int .i64 n_11=AV.int .i64 y_37.1∧True)))))))))))))))))))))))))))else Q (.ret (.sl 2 (x_2.2.1.length*9) 0 x_2.2.1.length 9))
 [Blk.mk BK.exact true [.str key,bMi w,bMi fi,.lst 0 (tX ks) ks.length 1,.int .u32 (ss:Int)],Blk.mk BK.exact true x_2.2.2,Blk.mk BK.grow true (mQ x_2.2.1)] {})else Q (.ret (.sl 2 (x_2.2.1.length*9) 0 x_2.2.1.length 9))
 [Blk.mk BK.exact true [.str key,bMi w,bMi fi,.lst 0 (tX ks) ks.length 1,.int .u32 (ss:Int)],Blk.mk BK.exact true x_2.2.2,Blk.mk BK.grow true (mQ x_2.2.1)] {}))))):=by kernel_rfl

theorem bFf(l:List (Int×Nat))(x:Int×Nat):mQ (l++[x])=mQ l++pkM x.1 x.2:=by simp[mQ]
theorem aIg(l:List (Int×Nat)):(mQ l).length=l.length*9:=by
 induction l with
 | nil=>rfl
 | cons x l ih=>rw[show mQ (x::l)=pkM x.1 x.2++mQ l from by simp[mQ],bW2,ih];simp[pkM];omega
theorem bQy{ks:QT}{i j:Nat}(hi:i<ks.length)(hj:j=i){K:Int->Prop}(hk:K ks[i]):∃n:Int,List.getD (tX ks) j AV.undef=AV.int .i16 n∧K n:=by
 subst hj
 refine⟨_, ?_,hk⟩
 rw[bW7,tX,cAo,bW8 hi];rfl
theorem bN0{X:Int}{K:Int->Prop}(h:∀k:Nat,k<256->K (k:Int)):∃n:Int,AV.int .u8 (IntKind.wrap .u8 X)=AV.int .u8 n∧K n:=by
 have e:IntKind.wrap .u8 X=(((X%256).toNat:Nat):Int):=by
  show X%256=_
  omega
 exact⟨_,rfl,by rw[e];exact h _ (by omega)⟩
theorem bEa(ks:QT):(tX ks).length=ks.length:=by simp[tX]
theorem aHs(key:LA)(w fi:Nat)(ks:QT)(ss:Nat)(hf:fi<=65535)(hkl:ks.length<=9223372036854775807)(hks:∀k∈ks, -32768<=k∧k<=32767)(Q:BS)(h0:Q (.ret .nils) [] {})
  (h1:∀ (l:List (Int×Nat)) (H:HV) (bk:Blk),0<l.length->l.length<=16->bJt l->H[2]? = some bk->bk.cs=mQ l->bk.k≠.ro->Q (.ret (.sl 2 (l.length*9) 0 l.length 9)) H {}):∃hv hb,aCf hv hb key w fi ks ss Q:=by
 obtain⟨hv,hb',e⟩:∃hv hb,aCf hv hb key w fi ks ss Q=_:=⟨_,_,bN9 key w fi ks ss Q⟩
 refine⟨hv,hb',e.mpr ?_⟩
 delta bJj bJx bMc bMx bNm bPg bKy bMi
 clear e
 have hcl:=bEa ks
 refine⟨_,rfl,aF ⟨.inl ⟨_,⟨by omega,by omega⟩,rfl,rfl,rfl,rfl,rfl,trivial⟩, ?_, ?_⟩⟩
 ·rintro q ⟨g1,g2⟩
  refine⟨_,rfl,_,rfl,aH (λh=>⟨_,rfl,aH (λ_ => ?_) (λ_=>h0)⟩) (λ_=>h0)⟩
  have hi:0<ks.length:=by omega
  have hk:=hks ks[0] (bXk hi)
  refine⟨_,rfl,ckO (ckI (by rw[hcl];simp;omega) (bQy hi rfl (aF (aF (aF ⟨(q+ks[0]+65536)%65536,congrArg _ (bX6 (by omega)),_,rfl,_,rfl,aF (ckI (by simp) ⟨_,rfl,_,rfl,_,rfl,_,rfl,ckO (ckI (by rw[hcl];simp;omega) (bQy hi rfl ⟨_,rfl,_,rfl,_,rfl,bN0 λv hv=>⟨v,⟨rfl,by omega,hv⟩, ?_⟩⟩))⟩)⟩)))))⟩
  rintro l ⟨rfl⟩ mk ty sq ti s2 pd m xs pl ⟨he⟩
  refine⟨_,rfl,aF ⟨⟨trivial,rfl⟩,.inr ⟨(_,[((q+ks[0]+65536)%65536,v)],_),⟨by dsimp only;omega,by simp,by simp, ?_⟩,by simp,rfl,rfl, ?_,rfl,rfl,rfl,rfl,trivial⟩⟩⟩
  ·intro x hx
   rw[bXp]at hx
   subst hx
   exact⟨by dsimp only;omega,hv⟩
  ·exact he.symm.trans (by simp[mQ])
 ·rintro⟨q,l,dc⟩ ⟨⟨g1,g2⟩,g3,g4,g5⟩
  dsimp only at g1 g2 g3 g4 g5 ⊢
  have hpl:=aIg l
  refine⟨_,rfl,_,rfl,aH (λh=>⟨_,rfl,aH (λ_ => ?_) (λ_=>h1 l _ _ g3 g4 g5 rfl rfl (by simp))⟩) (λ_=>h1 l _ _ g3 g4 g5 rfl rfl (by simp))⟩
  have hi:l.length<ks.length:=by omega
  have hk:=hks ks[l.length] (bXk hi)
  refine⟨_,rfl,ckO (ckI (by rw[hcl];simp;omega) (bQy hi (by simp) (aF (aF (aF ⟨(q+ks[l.length]+65536)%65536,congrArg _ (bX6 (by omega)),_,rfl,_,rfl,aF (ckO ⟨_,rfl,_,rfl,_,rfl,_,rfl,ckO (ckI (by rw[hcl];simp;omega) (bQy hi (by simp) ⟨_,rfl,_,rfl,_,rfl,bN0 λv hv=>⟨v,⟨rfl,by omega,hv⟩, ?_⟩⟩))⟩)⟩)))))⟩
  rintro l' ⟨rfl⟩ mk ty sq ti s2 pd m xs pl ⟨he⟩
  refine ckI (by rw[hpl];simp[bS];omega) ⟨_,rfl,aF ⟨⟨trivial,rfl⟩,.inr ⟨(_,l++[((q+ks[l.length]+65536)%65536,v)],_),⟨by dsimp only;omega,by simp,by simp;omega, ?_⟩,by simp;omega,rfl,rfl, ?_,rfl, ?_,by simp,rfl,trivial⟩⟩⟩
  ·intro x hx
   rw[bYj,bXp]at hx
   rcases hx with hx | rfl
   ·exact g5 x hx
   ·exact⟨by dsimp only;omega,hv⟩
  ·rw[bFf,←he]
  ·simp;omega
theorem bPj(H:HV)(d:Nat)(q:Int)(w:Nat):(pkM q w).map (λx=>bU 0 H (d+2) x)=pkM q w:=rfl
theorem bJc(H:HV)(d:Nat)(l:List (Int×Nat)):(mQ l).map (λx=>bU 0 H (d+2) x)=mQ l:=by
 induction l with
 | nil=>rfl
 | cons x l ih=>rw[show mQ (x::l)=pkM x.1 x.2++mQ l from by simp[mQ],cBk,ih,bPj]
def aCe:Con
 | [.agg [.str _,.int .u16 u,.int .u16 f,.lst 0 l n 1,.int .u32 s]],H,K=>∃ (w fi ss:Nat) (ks:QT),Lf (u=(w:Int)∧f=(fi:Int)∧s=(ss:Int)∧l=tX ks∧n=ks.length∧fi<=65535∧ks.length<=9223372036854775807∧∀k∈ks, -32768<=k∧k<=32767) ∧
   ∀ps:List (Int×Nat),Lf (ps.length<=16∧bJt ps)->K (.ret (.lst 0 (mQ ps) ps.length 9)) H
 | _,_,_=>False
theorem aL0:aI Tryz.prog gl0 36 aCe:=dV (enters_of (by kernel_rfl)) aO 9 (nlR [9]) (vT _) λargs H Q hc=>by
 unfold aCe at hc
 split at hc
 ·rename_i key u f l n s
  obtain⟨w,fi,ss,ks,⟨rfl,rfl,rfl,rfl,rfl,h1,h2,h3⟩,hq⟩:=hc
  obtain⟨hv,hb',h⟩:=aHs key w fi ks ss h1 h2 h3 (Q:=λo H' _=>∃v,o=.ret v∧Q (.ret (nlR [9] (bU 0 H' 9 v))) H) ⟨_,rfl,hq [] ⟨by simp,by simp[bJt]⟩⟩
   (λl H' bk g1 g2 g3 g4 g5 g6=>⟨_,rfl,by
    have hpl:=aIg l
    have e:bU 0 H' 9 (.sl 2 (l.length*9) 0 l.length 9)=.lst 0 (mQ l) l.length 9:=by
     have c1:(mQ l).length.beq (l.length*9)=true:=aOe hpl
     have c2:(0+l.length*9).ble (l.length*9)=true:=aNk (by omega)
     have c3:(bk.k !=.ro)=true:=by simpa using g6
     rw[bU]
     simp only[g4,c2,c3,bX4,bXw,bXl,g5,c1]
     rw[bW4 (by rw[hpl];omega),bJc]
    rw[e]
    exact hq l ⟨g2,g3⟩⟩)
  exact⟨by simp[aP,old,(aYs ks).1],by simp[bX,noY,(aYs ks).2],_,1000,⟨jL,jM,dH,bHu⟩,rfl,h⟩
 ·exact hc.elim
end Go.Proofs.YtnhechnaemmdiaaGreatDoor

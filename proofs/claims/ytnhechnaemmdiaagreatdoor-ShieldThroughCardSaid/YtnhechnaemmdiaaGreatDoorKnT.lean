/-
  Chapter 25: the reference's windows (what they give, within bounds).
-/
import Derived.Test.YtnhechnaemmdiaaGreatDoorKnQ
set_option linter.unusedSimpArgs false
set_option linter.unusedVariables false
set_option linter.unusedSectionVars false
namespace Go.Proofs.YtnhechnaemmdiaaGreatDoor
open Go.RowKit
set_option maxRecDepth 1000000

def xtM:List (Int×List UInt8)→List AV
 | []=>[]
 | x::l=>.int .i64 x.1::.str x.2::xtM l
def aC4 (w:Nat):List (Int×List UInt8):=if w/4%2=1 then [(1,[111,110,101]),(2,[UInt8.ofNat w])] else []
def wO (w:Nat):List (Int×List UInt8):=if w/8%4=1 then [(3,[]),(200,[108,111,110,103])] else []
def lW (w:Nat):Int:=if w/32%2=1 then 1+((w/64:Nat):Int) else 0
def uY (q:Int) (w:Nat):List UInt8:=[UInt8.ofNat (97+w%26),UInt8.ofNat (q%256).toNat]
def pkM (q:Int) (w:Nat):List AV:=[.bool (decide (w%2=0)),.int .i64 96,.int .i64 q,.int .i64 (90*q),.int .i64 (1+(w%4:Nat)),.lst 0 [] 0 1,.lst 0 (xtM (aC4 w++wO w)) (aC4 w++wO w).length 2,.int .i64 (lW w),.str (uY q w)]
noncomputable def aN6 (hv:Nat→Option Pa) (hb:Nat→Option Bool):Env := { e04 sm0 (fun _=>none) hv hb with hz:=fun k=>[86037,86046,86059,86060].contains k }
noncomputable def zH (hv:Nat→Option Pa) (hb:Nat→Option Bool) (q:Int) (w:Nat) (Q:Out→List Blk→Gh→Prop):Prop:=
 aY (aN6 hv hb) (wpx (aN6 hv hb) 1000) 21 [.int .i64 q,.int .u8 (w:Nat)] [] {} Q
abbrev bIv:AV:=.str [UInt8.ofNat 111,UInt8.ofNat 110,UInt8.ofNat 101]
abbrev bKg:AV:=.str [UInt8.ofNat 108,UInt8.ofNat 111,UInt8.ofNat 110,UInt8.ofNat 103]
abbrev bKi (s_17:List UInt8):AV:=.lst 0 [.int .i64 1,bIv,.int .i64 2,.str s_17,.int .i64 3,.str [],.int .i64 200,bKg] 4 2
abbrev bH1 (b_2:Bool) (q n_3 n_7 n_27:Int) (s_12:List UInt8):List AV:=[.bool b_2,.int .i64 96,.int .i64 q,.int .i64 n_3,.int .i64 n_7,.nils,.sl 2 4 0 2 2,.int .i64 n_27,.str s_12]
abbrev bIu (b_2:Bool) (q n_3 n_7:Int) (s_12:List UInt8):List AV:=[.bool b_2,.int .i64 96,.int .i64 q,.int .i64 n_3,.int .i64 n_7,.nils,.sl 2 4 0 2 2,.int .i64 0,.str s_12]
abbrev bKs:AV:=.lst 0 [.int .i64 3,.str [],.int .i64 200,bKg] 2 2
theorem bEy (q:Int) (w:Nat) (Q:Out→List Blk→Gh→Prop):zH (bD [(86022,.int .u8),(86023,.int .u8),(86024,.bool),(86027,.int .i64),(86028,.int .u8),(86029,.int .u8),(86030,.int .i64),(86031,.int .i64),
 (86032,.int .u8),(86033,.int .u8),(86034,.int .u8),(86036,.int .u8),(86038,.str),(86040,.int .u8),(86041,.int .u8),(86042,.int .u8),(86045,.int .u8),(86047,.str),(86051,.int .u8),(86052,.int .u8),(86053,.int .u8),
 (86062,.int .u8),(86063,.int .u8),(86064,.int .u8),(86066,.int .u8),(86067,.int .u8),(86068,.int .i64),(86069,.int .i64)]) (bE []) q w Q=(exI .u8 (w:Int) (fun n_0=>exI .u8 (n_0.tmod 2) (fun n_1=>exB (.bool (n_1 ==
 0)) (fun b_2=>exW .i64 (90*q) (fun n_3=>exI .u8 (w:Int) (fun n_4=>exI .u8 (n_4.tmod 4) (fun n_5=>exW .i64 n_5 (fun n_6=>exW .i64 (1+n_6) (fun n_7=>exI .u8 (w:Int) (fun n_8=>exI .u8 (n_8.tmod 26) (fun n_9=>exW .u8
 (97+n_9) (fun n_10=>exW .u8 q (fun n_11=>exS (.str [toB (.int .u8 n_10),toB (.int .u8 n_11)]) (fun s_12=>exI .u8 (w:Int) (fun n_13=>exW .u8 (n_13.tdiv 4) (fun n_14=>exI .u8 (n_14.tmod 2) (fun n_15=>bif n_15==1 then exI
 .u8 (w:Int) (fun n_16=>exS (.str [toB (.int .u8 n_16)]) (fun s_17=>exI .u8 (w:Int) (fun n_18=>exW .u8 (n_18.tdiv 8) (fun n_19=>exI .u8 (n_19.tmod 4) (fun n_20=>bif n_20==1 then exI .u8 (w:Int) (fun n_21=>exW .u8
 (n_21.tdiv 32) (fun n_22=>exI .u8 (n_22.tmod 2) (fun n_23=>bif n_23==1 then exI .u8 (w:Int) (fun n_24=>exW .u8 (n_24.tdiv 64) (fun n_25=>exW .i64 n_25 (fun n_26=>exW .i64 (1+n_26) (fun n_27=>Q (.ret (.agg [.bool b_2,.int
 .i64 96,.int .i64 q,.int .i64 n_3,.int .i64 n_7,.nils,bKi s_17,.int .i64 n_27,.str s_12])) [] {})))) else Q (.ret (.agg [.bool b_2,.int .i64 96,.int .i64 q,.int .i64 n_3,.int .i64 n_7,.nils,bKi s_17,.int .i64 0,.str
 s_12])) [] {}))) else exI .u8 (w:Int) (fun n_21=>exW .u8 (n_21.tdiv 32) (fun n_22=>exI .u8 (n_22.tmod 2) (fun n_23=>bif n_23==1 then exI .u8 (w:Int) (fun n_24=>exW .u8 (n_24.tdiv 64) (fun n_25=>exW .i64 n_25 (fun n_26=>
 exW .i64 (1+n_26) (fun n_27=>Q (.ret (.agg (bH1 b_2 q n_3 n_7 n_27 s_12))) [Blk.mk BK.exact false (bH1 b_2 q n_3 n_7 n_27 s_12),Blk.mk BK.exact false (bH1 b_2 q n_3 n_7 n_27 s_12),Blk.mk BK.exact true [.int .i64 1,bIv,.int .i64
 2,.str s_17]] {})))) else Q (.ret (.agg (bIu b_2 q n_3 n_7 s_12))) [Blk.mk BK.exact false (bIu b_2 q n_3 n_7 s_12),Blk.mk BK.exact false (bIu b_2 q n_3 n_7 s_12),Blk.mk BK.exact true [.int .i64 1,bIv,.int .i64 2,.str s_17]]
 {})))))))) else exI .u8 (w:Int) (fun n_16=>exW .u8 (n_16.tdiv 8) (fun n_17=>exI .u8 (n_17.tmod 4) (fun n_18=>bif n_18==1 then exI .u8 (w:Int) (fun n_19=>exW .u8 (n_19.tdiv 32) (fun n_20=>exI .u8 (n_20.tmod 2) (fun n_21=>
 bif n_21==1 then exI .u8 (w:Int) (fun n_22=>exW .u8 (n_22.tdiv 64) (fun n_23=>exW .i64 n_23 (fun n_24=>exW .i64 (1+n_24) (fun n_25=>Q (.ret (.agg [.bool b_2,.int .i64 96,.int .i64 q,.int .i64 n_3,.int .i64 n_7,.nils,
 bKs,.int .i64 n_25,.str s_12])) [] {})))) else Q (.ret (.agg [.bool b_2,.int .i64 96,.int .i64 q,.int .i64 n_3,.int .i64 n_7,.nils,bKs,.int .i64 0,.str s_12])) [] {}))) else exI .u8 (w:Int) (fun n_19=>exW .u8 (n_19.tdiv 32)
 (fun n_20=>exI .u8 (n_20.tmod 2) (fun n_21=>bif n_21==1 then exI .u8 (w:Int) (fun n_22=>exW .u8 (n_22.tdiv 64) (fun n_23=>exW .i64 n_23 (fun n_24=>exW .i64 (1+n_24) (fun n_25=>Q (.ret (.agg [.bool b_2,.int .i64 96,.int
 .i64 q,.int .i64 n_3,.int .i64 n_7,.nils,.nils,.int .i64 n_25,.str s_12])) [] {})))) else Q (.ret (.agg [.bool b_2,.int .i64 96,.int .i64 q,.int .i64 n_3,.int .i64 n_7,.nils,.nils,.int .i64 0,.str s_12])) []
 {}))))))))))))))))))))))):=by kernel_rfl

theorem aMr (k:Nat) {w:Nat} (hw:w<256) {K:Int→Prop} (h:K ((w/k:Nat):Int)):∃n:Int,AV.int .u8 (IntKind.wrap .u8 (Int.tdiv (w:Int) (k:Int)))=AV.int .u8 n∧K n:=by
 have hd:w/k≤w:=bTa _ _
 refine ⟨_, ?_,h⟩
 rw[show Int.tdiv (w:Int) (k:Int)=((w/k:Nat):Int) from rfl]
 generalize w/k=d at hd ⊢
 rw[show IntKind.wrap .u8 (d:Int)=(d:Int)%256 from rfl,show (d:Int)%256=(d:Int) by omega]
theorem aJj (q:Int) (w:Nat) (h0:0≤q∧q≤65535) (hw:w<256) (Q:Out→List Blk→Gh→Prop)
  (hq:∀ (v:AV) (H:List Blk),nlV 2 (bW 0 H 8 v)=.lst 0 (xtM (aC4 w++wO w)) (aC4 w++wO w).length 2→Q (.ret (.agg [.bool (decide (w%2=0)),.int .i64 96,.int .i64 q,.int .i64 (90*q),.int .i64 (1+(w%4:Nat)),.nils,v,.int .i64 (lW w),.str (uY q w)])) H {}):∃hv hb,zH hv hb q w Q:=by
 obtain ⟨hv,hb',e⟩:∃hv hb,zH hv hb q w Q=_:=⟨_,_,bEy q w Q⟩
 refine ⟨hv,hb',e.mpr ?_⟩
 delta bIv bKg bKi bH1 bIu bKs
 clear e
 have eb:((((w%2:Nat):Int))==0)=decide (w%2=0):=by
  by_cases h:w%2=0
  ·rw[h];rfl
  ·rw[bO0 h,bRp];omega
 have em:∀k:Nat,Int.tmod (w:Int) (k:Int)=((w%k:Nat):Int):=fun k=>rfl
 have ed:∀k:Nat,Int.tdiv (w:Int) (k:Int)=((w/k:Nat):Int):=fun k=>rfl
 have pad:∀ (v:AV) (H1:Int→List Blk) (H2:List Blk),(∀n,nlV 2 (bW 0 (H1 n) 8 v)=.lst 0 (xtM (aC4 w++wO w)) (aC4 w++wO w).length 2)→nlV 2 (bW 0 H2 8 v)=.lst 0 (xtM (aC4 w++wO w)) (aC4 w++wO w).length 2 →
   ∃n_21:Int,AV.int .u8 (w:Int)=AV.int .u8 n_21∧∃n_22:Int,AV.int .u8 (IntKind.wrap .u8 (Int.tdiv n_21 32))=AV.int .u8 n_22∧∃n_23:Int,AV.int .u8 (Int.tmod n_22 2)=AV.int .u8 n_23 ∧
    bif n_23==1 then ∃n_24:Int,AV.int .u8 (w:Int)=AV.int .u8 n_24∧∃n_25:Int,AV.int .u8 (IntKind.wrap .u8 (Int.tdiv n_24 64))=AV.int .u8 n_25∧∃n_26:Int,AV.int .i64 (IntKind.wrap .i64 n_25)=AV.int .i64 n_26∧∃n_27:Int,AV.int .i64 (IntKind.wrap .i64 (1+n_26))=AV.int .i64 n_27 ∧
     Q (.ret (.agg [.bool (decide (w%2=0)),.int .i64 96,.int .i64 q,.int .i64 (90*q),.int .i64 (1+(w%4:Nat)),.nils,v,.int .i64 n_27,.str (uY q w)])) (H1 n_27) {}
    else Q (.ret (.agg [.bool (decide (w%2=0)),.int .i64 96,.int .i64 q,.int .i64 (90*q),.int .i64 (1+(w%4:Nat)),.nils,v,.int .i64 0,.str (uY q w)])) H2 {}:=fun v H1 H2 g1 g2=>by
  have k1:=hq v (H1 (1+((w/64:Nat):Int))) (g1 _)
  have k2:=hq v H2 g2
  unfold lW at k1 k2
  refine ⟨_,rfl,aMr 32 hw ⟨((w/32%2:Nat):Int),rfl,aS (fun h=>⟨_,rfl,aMr 64 hw (aI (by omega) (by omega) (aI (by omega) (by omega) ?_))⟩) (fun h => ?_)⟩⟩
  ·rwa [if_pos (by omega)] at k1
  ·rwa [if_neg (by omega)] at k2
 refine ⟨_,rfl,((w%2:Nat):Int),rfl,decide (w%2=0),congrArg AV.bool eb,aI (by omega) (by omega) ⟨_,rfl,((w%4:Nat):Int),rfl,aI (by omega) (by omega) (aI (by omega) (by omega) ⟨_,rfl,((w%26:Nat):Int),rfl,aLr (by omega) (by omega) ⟨q%256,rfl,uY q w,rfl,_,rfl,aMr 4 hw ⟨((w/4%2:Nat):Int),rfl,aS (fun ha => ?_) (fun ha => ?_)⟩⟩⟩)⟩⟩
 ·have hA:aC4 w=[(1,[111,110,101]),(2,[UInt8.ofNat w])]:=by rw[aC4,if_pos (by omega)]
  refine ⟨_,rfl,[UInt8.ofNat w],rfl,_,rfl,aMr 8 hw ⟨((w/8%4:Nat):Int),rfl,aS (fun hb => ?_) (fun hb => ?_)⟩⟩
  ·have hB:wO w=[(3,[]),(200,[108,111,110,103])]:=by rw[wO,if_pos (by omega)]
   refine pad _ _ _ (fun n => ?_) ?_<;>(rw[hA,hB];rfl)
  ·have hB:wO w=[]:=by rw[wO,if_neg (by omega)]
   refine pad _ _ _ (fun n => ?_) ?_<;>(rw[hA,hB];rfl)
 ·have hA:aC4 w=[]:=by rw[aC4,if_neg (by omega)]
  refine ⟨_,rfl,aMr 8 hw ⟨((w/8%4:Nat):Int),rfl,aS (fun hb => ?_) (fun hb => ?_)⟩⟩
  ·have hB:wO w=[(3,[]),(200,[108,111,110,103])]:=by rw[wO,if_pos (by omega)]
   refine pad _ _ _ (fun n => ?_) ?_<;>(rw[hA,hB];rfl)
  ·have hB:wO w=[]:=by rw[wO,if_neg (by omega)]
   refine pad _ _ _ (fun n => ?_) ?_<;>(rw[hA,hB];rfl)
def mdK:AV→AV
 | .agg l=>.agg (nlL [0,0,0,0,0,1,2] l)
 | v=>v
theorem bF0 (v:AV):wk v (mdK v):=by
 unfold mdK
 split
 ·exact sP (kZ _ _)
 ·exact eO _
def aPi:Con
 | [.int .i64 q,.int .u8 u],H,K=>∃w:Nat,Lf (u=(w:Int)∧(0≤q∧q≤65535)∧w<256)∧∀l:List AV,Lf (l=pkM q w)→∀ (mk:Bool) (ty sq ti ss pd:Int) (m:Nat) (xs:List AV) (pl:List UInt8),Lf (l=[.bool mk,.int .i64 ty,.int .i64 sq,.int .i64 ti,.int .i64 ss,.lst 0 [] 0 1,.lst 0 xs m 2,.int .i64 pd,.str pl]) →
   K (.ret (.agg [.bool mk,.int .i64 ty,.int .i64 sq,.int .i64 ti,.int .i64 ss,.lst 0 [] 0 1,.lst 0 xs m 2,.int .i64 pd,.str pl])) H
 | _,_,_=>False
theorem aOi:aF Tryz.prog gl0 21 aPi:=fF (enters_of (by kernel_rfl)) aM 9 mdK bF0 fun args H Q hc=>by
 unfold aPi at hc
 split at hc
 ·rename_i q u
  obtain ⟨w,⟨rfl,h0,hw⟩,hq⟩:=hc
  obtain ⟨hv,hb',h⟩:=aJj q w h0 hw (Q:=fun o H' _=>∃v,o=.ret v∧Q (.ret (mdK (bW 0 H' 9 v))) H) (fun v H' hv=>⟨_,rfl,by
   have e:mdK (bW 0 H' 9 (.agg [.bool (decide (w%2=0)),.int .i64 96,.int .i64 q,.int .i64 (90*q),.int .i64 (1+(w%4:Nat)),.nils,v,.int .i64 (lW w),.str (uY q w)]))
    = .agg [.bool (decide (w%2=0)),.int .i64 96,.int .i64 q,.int .i64 (90*q),.int .i64 (1+(w%4:Nat)),.lst 0 [] 0 1,nlV 2 (bW 0 H' 8 v),.int .i64 (lW w),.str (uY q w)]:=rfl
   rw[e,hv]
   exact hq _ ⟨rfl⟩ _ _ _ _ _ _ _ _ _ ⟨rfl⟩⟩)
  exact ⟨rfl,rfl,_,1000,⟨iB,iZ,bY,bT⟩,rfl,h⟩
 ·exact hc.elim
end Go.Proofs.YtnhechnaemmdiaaGreatDoor

/-
  Chapter 25: the packets of a draft.
-/
import Derived.Test.YtnhechnaemmdiaaGreatDoorK25QC
set_option linter.unusedSimpArgs false
set_option linter.unusedVariables false
set_option linter.unusedSectionVars false
namespace Go.Proofs.YtnhechnaemmdiaaGreatDoor
open Go.RowKit
set_option maxRecDepth 1000000

def xtM:List (Int×List UInt8)→List AV
 | []=>[]
 | x::l=>.int .i64 x.1::.str x.2::xtM l
def pkAM (w:Nat):List (Int×List UInt8):=if w/4%2=1 then [(1,[111,110,101]),(2,[UInt8.ofNat w])] else []
def pkBM (w:Nat):List (Int×List UInt8):=if w/8%4=1 then [(3,[]),(200,[108,111,110,103])] else []
def pkPM (w:Nat):Int:=if w/32%2=1 then 1+((w/64:Nat):Int) else 0
def pkLM (q:Int) (w:Nat):List UInt8:=[UInt8.ofNat (97+w%26),UInt8.ofNat (q%256).toNat]
def pkM (q:Int) (w:Nat):List AV:=[.bool (decide (w%2=0)),.int .i64 96,.int .i64 q,.int .i64 (90*q),.int .i64 (1+(w%4:Nat)),.lst 0 [] 0 1,.lst 0 (xtM (pkAM w++pkBM w)) (pkAM w++pkBM w).length 2,.int .i64 (pkPM w),.str (pkLM q w)]
noncomputable def env_p21 (hv:Nat→Option Pa) (hb:Nat→Option Bool):Env := { e04 sm0 (fun _=>none) hv hb with hz:=fun k=>[86037,86046,86059,86060].contains k }
noncomputable def goal_p21 (hv:Nat→Option Pa) (hb:Nat→Option Bool) (q:Int) (w:Nat) (Q:Out→List Blk→Gh→Prop):Prop:=
 callx (env_p21 hv hb) (wpx (env_p21 hv hb) 1000) 21 [.int .i64 q,.int .u8 (w:Nat)] [] {} Q
theorem vc_p21 (q:Int) (w:Nat) (Q:Out→List Blk→Gh→Prop):goal_p21 (lookV [(86022,.int .u8),(86023,.int .u8),(86024,.bool),(86027,.int .i64),(86028,.int .u8),(86029,.int .u8),(86030,.int .i64),(86031,.int .i64),
 (86032,.int .u8),(86033,.int .u8),(86034,.int .u8),(86036,.int .u8),(86038,.str),(86040,.int .u8),(86041,.int .u8),(86042,.int .u8),(86045,.int .u8),(86047,.str),(86051,.int .u8),(86052,.int .u8),(86053,.int .u8),
 (86062,.int .u8),(86063,.int .u8),(86064,.int .u8),(86066,.int .u8),(86067,.int .u8),(86068,.int .i64),(86069,.int .i64)]) (lookB []) q w Q=(exI .u8 (w:Int) fun n_0=>exI .u8 (n_0.tmod 2) fun n_1=>exB (.bool (n_1==0))
 fun b_2=>exW .i64 (90*q) fun n_3=>exI .u8 (w:Int) fun n_4=>exI .u8 (n_4.tmod 4) fun n_5=>exW .i64 n_5 fun n_6=>exW .i64 (1+n_6) fun n_7=>exI .u8 (w:Int) fun n_8=>exI .u8 (n_8.tmod 26) fun n_9=>exW .u8 (97+n_9) fun
 n_10=>exW .u8 q fun n_11=>exS (.str [toB (.int .u8 n_10),toB (.int .u8 n_11)]) fun s_12=>exI .u8 (w:Int) fun n_13=>exW .u8 (n_13.tdiv 4) fun n_14=>exI .u8 (n_14.tmod 2) fun n_15=>bif n_15==1 then exI .u8 (w:Int) fun n_16
 => exS (.str [toB (.int .u8 n_16)]) fun s_17=>exI .u8 (w:Int) fun n_18=>exW .u8 (n_18.tdiv 8) fun n_19=>exI .u8 (n_19.tmod 4) fun n_20=>bif n_20==1 then exI .u8 (w:Int) fun n_21=>exW .u8 (n_21.tdiv 32) fun n_22=>exI .u8
 (n_22.tmod 2) fun n_23=>bif n_23==1 then exI .u8 (w:Int) fun n_24=>exW .u8 (n_24.tdiv 64) fun n_25=>exW .i64 n_25 fun n_26=>exW .i64 (1+n_26) fun n_27=>Q (.ret (.agg [.bool b_2,.int .i64 96,.int .i64 q,.int .i64 n_3,
 .int .i64 n_7,.nils,.lst 0 [.int .i64 1,.str [UInt8.ofNat 111,UInt8.ofNat 110,UInt8.ofNat 101],.int .i64 2,.str s_17,.int .i64 3,.str [],.int .i64 200,.str [UInt8.ofNat 108,UInt8.ofNat 111,UInt8.ofNat 110,UInt8.ofNat 103]] 4
 2,.int .i64 n_27,.str s_12])) [] {} else Q (.ret (.agg [.bool b_2,.int .i64 96,.int .i64 q,.int .i64 n_3,.int .i64 n_7,.nils,.lst 0 [.int .i64 1,.str [UInt8.ofNat 111,UInt8.ofNat 110,UInt8.ofNat 101],.int .i64 2,.str s_17,
 .int .i64 3,.str [],.int .i64 200,.str [UInt8.ofNat 108,UInt8.ofNat 111,UInt8.ofNat 110,UInt8.ofNat 103]] 4 2,.int .i64 0,.str s_12])) [] {} else exI .u8 (w:Int) fun n_21=>exW .u8 (n_21.tdiv 32) fun n_22=>exI .u8 (n_22.tmod
 2) fun n_23=>bif n_23==1 then exI .u8 (w:Int) fun n_24=>exW .u8 (n_24.tdiv 64) fun n_25=>exW .i64 n_25 fun n_26=>exW .i64 (1+n_26) fun n_27=>Q (.ret (.agg [.bool b_2,.int .i64 96,.int .i64 q,.int .i64 n_3,.int .i64 n_7,
 .nils,.sl 2 4 0 2 2,.int .i64 n_27,.str s_12])) [Blk.mk BK.exact false [.bool b_2,.int .i64 96,.int .i64 q,.int .i64 n_3,.int .i64 n_7,.nils,.sl 2 4 0 2 2,.int .i64 n_27,.str s_12],Blk.mk BK.exact false [.bool b_2,.int .i64
 96,.int .i64 q,.int .i64 n_3,.int .i64 n_7,.nils,.sl 2 4 0 2 2,.int .i64 n_27,.str s_12],Blk.mk BK.exact true [.int .i64 1,.str [UInt8.ofNat 111,UInt8.ofNat 110,UInt8.ofNat 101],.int .i64 2,.str s_17]] {} else Q (.ret (.agg
 [.bool b_2,.int .i64 96,.int .i64 q,.int .i64 n_3,.int .i64 n_7,.nils,.sl 2 4 0 2 2,.int .i64 0,.str s_12])) [Blk.mk BK.exact false [.bool b_2,.int .i64 96,.int .i64 q,.int .i64 n_3,.int .i64 n_7,.nils,.sl 2 4 0 2 2,.int
 .i64 0,.str s_12],Blk.mk BK.exact false [.bool b_2,.int .i64 96,.int .i64 q,.int .i64 n_3,.int .i64 n_7,.nils,.sl 2 4 0 2 2,.int .i64 0,.str s_12],Blk.mk BK.exact true [.int .i64 1,.str [UInt8.ofNat 111,UInt8.ofNat 110,
 UInt8.ofNat 101],.int .i64 2,.str s_17]] {} else exI .u8 (w:Int) fun n_16=>exW .u8 (n_16.tdiv 8) fun n_17=>exI .u8 (n_17.tmod 4) fun n_18=>bif n_18==1 then exI .u8 (w:Int) fun n_19=>exW .u8 (n_19.tdiv 32) fun n_20=>exI
 .u8 (n_20.tmod 2) fun n_21=>bif n_21==1 then exI .u8 (w:Int) fun n_22=>exW .u8 (n_22.tdiv 64) fun n_23=>exW .i64 n_23 fun n_24=>exW .i64 (1+n_24) fun n_25=>Q (.ret (.agg [.bool b_2,.int .i64 96,.int .i64 q,.int .i64 n_3,
 .int .i64 n_7,.nils,.lst 0 [.int .i64 3,.str [],.int .i64 200,.str [UInt8.ofNat 108,UInt8.ofNat 111,UInt8.ofNat 110,UInt8.ofNat 103]] 2 2,.int .i64 n_25,.str s_12])) [] {} else Q (.ret (.agg [.bool b_2,.int .i64 96,.int .i64 q,
 .int .i64 n_3,.int .i64 n_7,.nils,.lst 0 [.int .i64 3,.str [],.int .i64 200,.str [UInt8.ofNat 108,UInt8.ofNat 111,UInt8.ofNat 110,UInt8.ofNat 103]] 2 2,.int .i64 0,.str s_12])) [] {} else exI .u8 (w:Int) fun n_19=>exW .u8
 (n_19.tdiv 32) fun n_20=>exI .u8 (n_20.tmod 2) fun n_21=>bif n_21==1 then exI .u8 (w:Int) fun n_22=>exW .u8 (n_22.tdiv 64) fun n_23=>exW .i64 n_23 fun n_24=>exW .i64 (1+n_24) fun n_25=>Q (.ret (.agg [.bool b_2,.int .i64
 96,.int .i64 q,.int .i64 n_3,.int .i64 n_7,.nils,.nils,.int .i64 n_25,.str s_12])) [] {} else Q (.ret (.agg [.bool b_2,.int .i64 96,.int .i64 q,.int .i64 n_3,.int .i64 n_7,.nils,.nils,.int .i64 0,.str s_12])) [] {}):=by
 kernel_rfl

theorem wrapD (k:Nat) {w:Nat} (hw:w<256) {K:Int→Prop} (h:K ((w/k:Nat):Int)):∃n:Int,AV.int .u8 (IntKind.wrap .u8 (Int.tdiv (w:Int) (k:Int)))=AV.int .u8 n∧K n:=by
 have hd:w/k≤w:=Nat.div_le_self _ _
 refine ⟨_, ?_,h⟩
 rw[show Int.tdiv (w:Int) (k:Int)=((w/k:Nat):Int) from rfl]
 generalize w/k=d at hd ⊢
 rw[show IntKind.wrap .u8 (d:Int)=(d:Int)%256 from rfl,show (d:Int)%256=(d:Int) by omega]
theorem packet_run (q:Int) (w:Nat) (h0:0≤q∧q≤65535) (hw:w<256) (Q:Out→List Blk→Gh→Prop)
  (hq:∀ (v:AV) (H:List Blk),nlV 2 (frzV 0 H 8 v)=.lst 0 (xtM (pkAM w++pkBM w)) (pkAM w++pkBM w).length 2→Q (.ret (.agg [.bool (decide (w%2=0)),.int .i64 96,.int .i64 q,.int .i64 (90*q),.int .i64 (1+(w%4:Nat)),.nils,v,.int .i64 (pkPM w),.str (pkLM q w)])) H {}):∃hv hb,goal_p21 hv hb q w Q:=by
 obtain ⟨hv,hb',e⟩:∃hv hb,goal_p21 hv hb q w Q=_:=⟨_,_,vc_p21 q w Q⟩
 refine ⟨hv,hb',e.mpr ?_⟩
 clear e
 have eb:((((w%2:Nat):Int))==0)=decide (w%2=0):=by
  by_cases h:w%2=0
  ·rw[h];rfl
  ·rw[decide_eq_false h,beq_eq_false_iff_ne];omega
 have em:∀k:Nat,Int.tmod (w:Int) (k:Int)=((w%k:Nat):Int):=fun k=>rfl
 have ed:∀k:Nat,Int.tdiv (w:Int) (k:Int)=((w/k:Nat):Int):=fun k=>rfl
 have pad:∀ (v:AV) (H1:Int→List Blk) (H2:List Blk),(∀n,nlV 2 (frzV 0 (H1 n) 8 v)=.lst 0 (xtM (pkAM w++pkBM w)) (pkAM w++pkBM w).length 2)→nlV 2 (frzV 0 H2 8 v)=.lst 0 (xtM (pkAM w++pkBM w)) (pkAM w++pkBM w).length 2 →
   ∃n_21:Int,AV.int .u8 (w:Int)=AV.int .u8 n_21∧∃n_22:Int,AV.int .u8 (IntKind.wrap .u8 (Int.tdiv n_21 32))=AV.int .u8 n_22∧∃n_23:Int,AV.int .u8 (Int.tmod n_22 2)=AV.int .u8 n_23 ∧
    bif n_23==1 then ∃n_24:Int,AV.int .u8 (w:Int)=AV.int .u8 n_24∧∃n_25:Int,AV.int .u8 (IntKind.wrap .u8 (Int.tdiv n_24 64))=AV.int .u8 n_25∧∃n_26:Int,AV.int .i64 (IntKind.wrap .i64 n_25)=AV.int .i64 n_26∧∃n_27:Int,AV.int .i64 (IntKind.wrap .i64 (1+n_26))=AV.int .i64 n_27 ∧
     Q (.ret (.agg [.bool (decide (w%2=0)),.int .i64 96,.int .i64 q,.int .i64 (90*q),.int .i64 (1+(w%4:Nat)),.nils,v,.int .i64 n_27,.str (pkLM q w)])) (H1 n_27) {}
    else Q (.ret (.agg [.bool (decide (w%2=0)),.int .i64 96,.int .i64 q,.int .i64 (90*q),.int .i64 (1+(w%4:Nat)),.nils,v,.int .i64 0,.str (pkLM q w)])) H2 {}:=fun v H1 H2 g1 g2=>by
  have k1:=hq v (H1 (1+((w/64:Nat):Int))) (g1 _)
  have k2:=hq v H2 g2
  unfold pkPM at k1 k2
  refine ⟨_,rfl,wrapD 32 hw ⟨((w/32%2:Nat):Int),rfl,splitE (fun h=>⟨_,rfl,wrapD 64 hw (wrapI (by omega) (by omega) (wrapI (by omega) (by omega) ?_))⟩) (fun h => ?_)⟩⟩
  ·rwa [if_pos (by omega)] at k1
  ·rwa [if_neg (by omega)] at k2
 refine ⟨_,rfl,((w%2:Nat):Int),rfl,decide (w%2=0),congrArg AV.bool eb,wrapI (by omega) (by omega) ⟨_,rfl,((w%4:Nat):Int),rfl,wrapI (by omega) (by omega) (wrapI (by omega) (by omega) ⟨_,rfl,((w%26:Nat):Int),rfl,wrapU8 (by omega) (by omega) ⟨q%256,rfl,pkLM q w,rfl,_,rfl,wrapD 4 hw ⟨((w/4%2:Nat):Int),rfl,splitE (fun ha => ?_) (fun ha => ?_)⟩⟩⟩)⟩⟩
 ·have hA:pkAM w=[(1,[111,110,101]),(2,[UInt8.ofNat w])]:=by rw[pkAM,if_pos (by omega)]
  refine ⟨_,rfl,[UInt8.ofNat w],rfl,_,rfl,wrapD 8 hw ⟨((w/8%4:Nat):Int),rfl,splitE (fun hb => ?_) (fun hb => ?_)⟩⟩
  ·have hB:pkBM w=[(3,[]),(200,[108,111,110,103])]:=by rw[pkBM,if_pos (by omega)]
   refine pad _ _ _ (fun n => ?_) ?_<;>(rw[hA,hB];rfl)
  ·have hB:pkBM w=[]:=by rw[pkBM,if_neg (by omega)]
   refine pad _ _ _ (fun n => ?_) ?_<;>(rw[hA,hB];rfl)
 ·have hA:pkAM w=[]:=by rw[pkAM,if_neg (by omega)]
  refine ⟨_,rfl,wrapD 8 hw ⟨((w/8%4:Nat):Int),rfl,splitE (fun hb => ?_) (fun hb => ?_)⟩⟩
  ·have hB:pkBM w=[(3,[]),(200,[108,111,110,103])]:=by rw[pkBM,if_pos (by omega)]
   refine pad _ _ _ (fun n => ?_) ?_<;>(rw[hA,hB];rfl)
  ·have hB:pkBM w=[]:=by rw[pkBM,if_neg (by omega)]
   refine pad _ _ _ (fun n => ?_) ?_<;>(rw[hA,hB];rfl)
def mdK:AV→AV
 | .agg l=>.agg (nlL [0,0,0,0,0,1,2] l)
 | v=>v
theorem wk_mdK (v:AV):wk v (mdK v):=by
 unfold mdK
 split
 ·exact wk_agg (wk_nlL _ _)
 ·exact wk_refl _
def cPacket:Con
 | [.int .i64 q,.int .u8 u],H,K=>∃w:Nat,Lf (u=(w:Int)∧(0≤q∧q≤65535)∧w<256)∧∀l:List AV,Lf (l=pkM q w)→∀ (mk:Bool) (ty sq ti ss pd:Int) (m:Nat) (xs:List AV) (pl:List UInt8),Lf (l=[.bool mk,.int .i64 ty,.int .i64 sq,.int .i64 ti,.int .i64 ss,.lst 0 [] 0 1,.lst 0 xs m 2,.int .i64 pd,.str pl]) →
   K (.ret (.agg [.bool mk,.int .i64 ty,.int .i64 sq,.int .i64 ti,.int .i64 ss,.lst 0 [] 0 1,.lst 0 xs m 2,.int .i64 pd,.str pl])) H
 | _,_,_=>False
theorem packet_ok:ValidF Tryz.prog gl0 21 cPacket:=valid_frz (enters_of (by kernel_rfl)) gl0_noY 9 mdK wk_mdK fun args H Q hc=>by
 unfold cPacket at hc
 split at hc
 ·rename_i q u
  obtain ⟨w,⟨rfl,h0,hw⟩,hq⟩:=hc
  obtain ⟨hv,hb',h⟩:=packet_run q w h0 hw (Q:=fun o H' _=>∃v,o=.ret v∧Q (.ret (mdK (frzV 0 H' 9 v))) H) (fun v H' hv=>⟨_,rfl,by
   have e:mdK (frzV 0 H' 9 (.agg [.bool (decide (w%2=0)),.int .i64 96,.int .i64 q,.int .i64 (90*q),.int .i64 (1+(w%4:Nat)),.nils,v,.int .i64 (pkPM w),.str (pkLM q w)]))
    = .agg [.bool (decide (w%2=0)),.int .i64 96,.int .i64 q,.int .i64 (90*q),.int .i64 (1+(w%4:Nat)),.lst 0 [] 0 1,nlV 2 (frzV 0 H' 8 v),.int .i64 (pkPM w),.str (pkLM q w)]:=rfl
   rw[e,hv]
   exact hq _ ⟨rfl⟩ _ _ _ _ _ _ _ _ _ ⟨rfl⟩⟩)
  exact ⟨rfl,rfl,_,1000,⟨mixed04,names04,tabA_ok,sm0_ok⟩,rfl,h⟩
 ·exact hc.elim
end Go.Proofs.YtnhechnaemmdiaaGreatDoor

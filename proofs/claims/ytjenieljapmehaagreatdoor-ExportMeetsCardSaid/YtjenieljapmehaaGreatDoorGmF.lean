/-
  Chapter 21: the key with an octet, proved; mac's residual.
-/
import Derived.Test.YtjenieljapmehaaGreatDoorG21Q
set_option linter.unusedSimpArgs false
set_option linter.unusedVariables false
set_option linter.unusedSectionVars false
namespace Go.Proofs.YtjenieljapmehaaGreatDoor
open Go.RowKit
set_option maxRecDepth 1000000

theorem ofB_len (l:List UInt8):(ofBytes l).length=l.length:=by simp[ofBytes]
theorem oldL_ofB (n:Nat) (l:List UInt8):oldL n (ofBytes l)=true:=by
 induction l with
 | nil=>rfl
 | cons x l ih=>simpa [ofBytes,oldL,old] using ih
theorem allU8_ofB (l:List UInt8):allU8 (ofBytes l)=true:=by
 induction l with
 | nil=>rfl
 | cons x l ih=>simpa [ofBytes,allU8] using ih
theorem oneL_ofB (l:List UInt8):oneL (ofBytes l)=true:=by
 induction l with
 | nil=>rfl
 | cons x l ih=>simpa [ofBytes,oneL,one] using ih
theorem ldB {L:List UInt8} {j m:Nat} (hj:j<L.length) (hm:m=j) {K:Int→Prop} (hk:K ((L.getD j 0).toNat:Int)):∃n:Int,(List.take 1 (List.drop m (ofBytes L))).getD 0 AV.undef=AV.int .u8 n∧K n:=by
 subst hm
 refine ⟨_, ?_,hk⟩
 rw[List.getD_eq_getElem?_getD,List.getElem?_take,if_pos (by omega),List.getElem?_drop,ofBytes,List.getElem?_map,Nat.add_zero,List.getElem?_eq_getElem hj]
 simp[hj]
theorem stB {L:List UInt8} {j m:Nat} {b:UInt8} (hj:j<L.length) (hm:m=j):setRange (ofBytes L) m [AV.int .u8 (b.toNat:Int)]=ofBytes (L.set j b):=by
 subst hm
 rw[List.set_eq_take_append_cons_drop,if_pos hj]
 simp[setRange,ofBytes]
theorem xor8 (a:UInt8) (n:Nat):IntKind.wrap .u8 (((((a.toNat:Int)%256).toNat ^^^ ((n:Int)%256).toNat:Nat)):Int)=((x8M a n).toNat:Int):=by
 have h1:((a.toNat:Int)%256).toNat=a.toNat:=by have:=a.toNat_lt;omega
 have h2:((n:Int)%256).toNat=n%256:=by omega
 rw[h1,h2,u8_wrap,x8M,UInt8.toNat_xor,UInt8.toNat_ofNat']
 congr 1
 exact Nat.mod_eq_of_lt (Nat.xor_lt_two_pow (n:=8) a.toNat_lt (Nat.mod_lt _ (by omega)))
theorem toB_ofB (l:List UInt8):(ofBytes l).map toB=l:=by
 induction l with
 | nil=>rfl
 | cons x l ih=>
  simp only[ofBytes,List.map_cons,List.cons.injEq] at ih ⊢
  exact ⟨by simp[toB],ih⟩
theorem pad_len {key:List UInt8} (h:key.length≤64):(padKM key).length=64:=by simp[padKM];omega
theorem wth_len (c:Nat) {p:List UInt8} (h:p.length=64) (i:Nat) (hi:i≤64):(wthM c p i).length=64:=by simp[wthM];omega
theorem wth_zero (c:Nat) (p:List UInt8):wthM c p 0=p:=by simp[wthM]
theorem wth_all (c:Nat) (key:List UInt8) (h:key.length≤64):wthM c (padKM key) 64=withM c key:=by
 have:=pad_len h
 rw[wthM,withM,List.take_of_length_le (by omega),List.drop_eq_nil_of_le (by omega),List.append_nil]
theorem wth_get (c:Nat) {p:List UInt8} (h:p.length=64) {i:Nat} (hi:i<64):(wthM c p i).getD i 0=p.getD i 0:=by
 have hl:((p.take i).map (x8M · c)).length=i:=by simp;omega
 rw[wthM,List.getD_eq_getElem?_getD,List.getElem?_append_right (by omega),List.getElem?_drop,hl,Nat.sub_self,Nat.add_zero,←List.getD_eq_getElem?_getD]
theorem wth_set (c:Nat) {p:List UInt8} (h:p.length=64) {i:Nat} (hi:i<64):(wthM c p i).set i (x8M (p.getD i 0) c)=wthM c p (i+1):=by
 have hl:((p.take i).map (x8M · c)).length=i:=by simp;omega
 have e:p.drop i=p[i]::p.drop (i+1):=List.drop_eq_getElem_cons (by omega)
 have e2:p.take (i+1)=p.take i++[p[i]]:=by rw[List.take_add_one,List.getElem?_eq_getElem (by omega)];rfl
 have e3:p.getD i 0=p[i]:=by rw[List.getD_eq_getElem?_getD,List.getElem?_eq_getElem (by omega)];rfl
 rw[wthM,List.set_append_right _ _ (by omega),hl,Nat.sub_self,e,wthM,e2,e3,List.map_append,List.append_assoc]
 rfl
theorem pad_zero {key:List UInt8} (h:key.length≤64):setRange zer64 0 (List.take (min key.length 64*1) (ofBytes key))=ofBytes (padKM key):=by
 rw[List.take_of_length_le (by rw[ofB_len];omega)]
 unfold setRange
 rw[Nat.zero_add,show zer64=List.replicate 64 (AV.int .u8 0) from rfl,List.drop_replicate,ofB_len]
 simp only[padKM,ofBytes,List.map_append,List.map_replicate]
 rfl
theorem with_run (key:List UInt8) (c:Nat) (h:key.length≤64) (Q:Out→List Blk→Gh→Prop) (hq:Q (.ret (.str (withM c key))) [⟨.exact,true,[.str key]⟩] {}):∃hv hb,goal_53 hv hb key c Q:=by
 obtain ⟨hv',hb',e'⟩:∃hv hb,goal_53 hv hb key c Q=_:=⟨_,_,vc_53 key c Q⟩
 refine ⟨hv',hb',e'.mpr ?_⟩
 clear e'
 have hp:=pad_len h
 have hO:(oldL 0 (List.take (min key.length 64*1) (ofBytes key)))=true:=by
  rw[List.take_of_length_le (by rw[ofB_len];omega),oldL_ofB]
 refine ckI (oneL_ofB key) ⟨_,rfl, ?_⟩
 rw[pad_zero h,hO]
 refine ckI (by rw[ofB_len,hp];rfl) ⟨⟨0,⟨by omega⟩,rfl,ckI rfl ⟨by rw[wth_zero],rfl,rfl,rfl,rfl,trivial⟩⟩, ?_⟩
 rintro i ⟨hi⟩
 have hw:=wth_len c hp i hi
 refine splitD (fun hlt => ?_) (fun hge => ?_)
 ·have hi':i<64:=by omega
  refine ⟨_,rfl,ckI (by rw[ofB_len,hw];simp;omega) (ckI (by rw[ofB_len,hw];simp;omega) (ldB (j:=i) (by rw[hw];exact hi') (by simp) ⟨_,rfl,_,rfl,ckI (by rw[ofB_len,hw];simp;omega) (ckI (by rw[ofB_len,hw];simp;omega) (wrapI (by omega) (by omega) ⟨?_,⟨trivial,rfl⟩,i+1,⟨by omega⟩,by omega,rfl,ckI rfl ⟨?_,rfl,rfl,rfl,rfl,trivial⟩⟩))⟩))⟩
  ·rfl
  ·rw[xor8,wth_get c hp hi',stB (j:=i) (by rw[hw];exact hi') (by simp),wth_set c hp hi']
 ·obtain rfl:i=64:=by omega
  rw[wth_all c key h] at hw ⊢
  have e:List.take 64 (List.drop 0 (ofBytes (withM c key)))=ofBytes (withM c key):=by
   rw[List.drop_zero,List.take_of_length_le (by rw[ofB_len,hw];omega)]
  refine ckI (by rw[e,ofB_len,hw,allU8_ofB];rfl) ⟨_,rfl, ?_⟩
  rw[e,toB_ofB]
  exact hq
def cWith:Con
 | [.int .u8 c,.ptr i 1 0],H,K=>match H.getD i ⟨.ro,false,[]⟩ with
  | ⟨.exact,true,[.str key]⟩=>∃n:Nat,Lf (Nat.blt i H.length=true∧c=(n:Int)∧key.length≤64)∧∀x,Lf (x=withM n key)→K (.ret (.str x)) H
  | _=>False
 | _,_,_=>False
theorem with53_ok:ValidF Tryz.prog gl0 93 cWith:=by
 refine valid_of (enters_of (by kernel_rfl)) gl0_noY fun args H Q hc => ?_
 unfold cWith at hc
 split at hc
 ·rename_i c i
  split at hc
  ·rename_i key hb
   obtain ⟨n,⟨h0,rfl,h1⟩,hq⟩:=hc
   rw[blt_iff] at h0
   have hi:H[i]? = some ⟨.exact,true,[.str key]⟩:=by
    rw[List.getD_eq_getElem?_getD,List.getElem?_eq_getElem h0] at hb
    rw[List.getElem?_eq_getElem h0]
    exact congrArg some hb
   obtain ⟨hv,hb',h⟩:=with_run key n h1 (Q:=fun o H' _=>o=.ret (.str (withM n key))∧H'=[⟨.exact,true,[.str key]⟩]) ⟨rfl,rfl⟩
   refine ⟨_,1000,fun _=>i,[.int .u8 (n:Nat),.ptr 0 1 0],[⟨.exact,true,[.str key]⟩],_,envFor18 sm0_ok _ hv hb',rfl,rfl,rfl,rfl,⟨fun j b0 hj => ?_,fun j j' b0 hj _ hj' _ => ?_,fun j b0 hj => ?_⟩,h, ?_⟩
   ·match j,hj with
    | 0,hj=>
     cases hj
     exact ⟨h0,rfl,rfl,fun _=>rfl,_,hi,rfl,.inr rfl⟩
   ·have:j<1:=(List.getElem?_eq_some_iff.1 hj).1
    simp at hj'
    omega
   ·match j,hj with
    | 0,hj=>cases hj;exact fun h=>by cases h
   ·rintro o H0' g' ⟨rfl,rfl⟩
    refine ⟨H,⟨Nat.le_refl _,fun j b0 hj hk => ?_,fun j b0 hj hk=>⟨b0,hj,rfl⟩,fun j b0 hj hb0 => ?_,by simp,fun _ _ _=>rfl,fun j b0 hj hk => ?_⟩,hq _ ⟨rfl⟩⟩
    ·match j,hj with
     | 0,hj=>cases hj;cases hk
    ·have:j<1:=(List.getElem?_eq_some_iff.1 hb0).1
     simp at hj
     omega
    ·match j,hj with
     | 0,hj=>
      cases hj
      exact hi
  ·exact hc.elim
 ·exact hc.elim
theorem frz_nums (H:List Blk) (kk:List Nat):(cells32M kk).map (fun x=>frzV 1 H 8 x)=cells32M kk:=by
 simp only[cells32M,List.map_map]
 exact List.map_congr_left fun x _=>rfl
def makM:List Nat:=startM++kkM
theorem mak_eq:cells32M makM=celK startW kkM:=rfl
def sumSM (l:List (List UInt8)):List UInt8:=sumLM kkM startW l
theorem sumS_len (l:List (List UInt8)):(sumSM l).length=32:=sumL_len _ _ _
def cSumX:Con
 | [.agg cs,x],H,K=>Lf (cs=cells32M makM)∧lendV H 1 x fun x'=>match x' with
  | .lst _ ss n 1=>∃l:List (List UInt8),Lf (ss=cellsSM l∧n=l.length∧l.length≤1000∧∀s∈l,s.length≤100000)∧∀o,Lf (o=sumSM l)→K (.ret (.str o)) H
  | _=>False
 | _,_,_=>False
theorem lendV_mono {H:List Blk} {z:Nat} {v:AV} {K K':AV→Prop} (hk:∀x,K x→K' x) (h:lendV H z v K):lendV H z v K':=by
 unfold lendV at h ⊢
 split at h
 ·split at h
  ·rename_i id tot off len sz _ b _
   cases hc:(Nat.beq b.cs.length tot&&Nat.ble (off+len*sz) tot&&b.k !=.ro)
   ·rw[hc] at h
    exact h.elim
   ·rw[hc] at h
    exact hk _ h
  ·exact h.elim
 ·exact hk _ h
theorem sumX_ok:ValidF Tryz.prog gl0 92 cSumX:=by
 refine ⟨sum18_ok.1,fun args H Q hc=>sum18_ok.2 args H Q ?_⟩
 unfold cSumX at hc
 split at hc
 ·rename_i cs x
  obtain ⟨⟨rfl⟩,hc⟩:=hc
  have hz:∀H0:List Blk,(cells32M makM).map (fun x=>frzV 1 H0 8 x)=cells32M makM:=fun H0=>frz_nums _ _
  have h2:lendV _ 1 x fun x'=>cSum [.agg (cells32M makM),x'] _ _:=lendV_mono (fun x' h=>by
   split at h
   ·obtain ⟨l,⟨h1,h2,h3,h4⟩,h5⟩:=h
    exact ⟨startW,kkM,l,⟨mak_eq,h1,h2,start_ok,kk_ok,h3,h4⟩,h5⟩
   ·exact h.elim) hc
  exact (id (congrArg (fun a=>lendV _ 1 x fun x'=>cSum [.agg a,x'] _ _) (hz _)).mpr h2:_)
 ·exact hc.elim
def smC1:SM:=lookS [(93,cWith),(92,cSumX)]
theorem smC1_ok:∀f g,smC1 f=some g→ValidF Tryz.prog gl0 f g:=lookS_ok _ (by simp only[List.mem_cons,List.not_mem_nil,or_false,forall_eq_or_imp,forall_eq];exact ⟨with53_ok,sumX_ok⟩)
noncomputable def goal_35 (hv:Nat→Option Pa) (hb:Nat→Option Bool) (tg:Nat) (ks:List Nat) (key:List UInt8) (l:List (List UInt8)) (Q:Out→List Blk→Gh→Prop):Prop:=
 callx (e18 smC1 (fun _=>none) hv hb) (wpx (e18 smC1 (fun _=>none) hv hb) 1000) 68 [.agg (cells32M ks),.str key,.lst tg (cellsSM l) l.length 1] [] {} Q
theorem vc_35 (tg:Nat) (ks:List Nat) (key:List UInt8) (l:List (List UInt8)) (Q:Out→List Blk→Gh→Prop):goal_35 (lookV [(278537,.int .i64)]) (lookB []) tg ks key l Q=(exI .i64 (key.length:Int) fun n_0=>bif decide (n_0
 > 64) then ckQ (Nat.beq (cells32M ks).length (cells32M ks).length&&Nat.ble 72 (cells32M ks).length) (Lf (((cells32M ks).drop 0).take 72=cells32M makM)∧∃l_1:List (List UInt8),Lf ([AV.str key]=cellsSM l_1∧1=l_1.length ∧
 l_1.length≤1000∧∀s_2:List UInt8,Membership.mem l_1 s_2→s_2.length≤100000)∧∀o_2:List UInt8,Lf (o_2=sumSM l_1)→ckQ (Nat.beq (cells32M ks).length (cells32M ks).length&&Nat.ble 72 (cells32M ks).length) (ckQ (Nat.beq
 (cells32M ks).length (cells32M ks).length&&Nat.ble 72 (cells32M ks).length) (∃n_3:Nat,Lf (Nat.blt 1 (List.length [Blk.mk BK.exact (oldL 0 (cells32M ks)) (cells32M ks),Blk.mk BK.exact true [.str o_2],Blk.mk BK.exact true [.str
 key]])=true∧92=(n_3:Int)∧o_2.length≤64)∧∀x_4:List UInt8,Lf (x_4=withM n_3 o_2)→ckQ (eqAVL (((cells32M ks).drop 0).take 72) (((cells32M ks).drop 0).take 72)&&Option.some ((cells32M ks).length+1)==Option.some
 ((cells32M ks).length+1)) (ckQ (eqAVL (((cells32M ks).drop 0).take 72) (((cells32M ks).drop 0).take 72)&&Option.some ((cells32M ks).length+1)==Option.some ((cells32M ks).length+1)) (∃n_5:Nat,Lf (Nat.blt 1 (List.length [Blk.mk
 BK.exact (oldL 0 (cells32M ks)) (cells32M ks),Blk.mk BK.exact true [.str o_2],Blk.mk BK.exact true [.str key]])=true∧54=(n_5:Int)∧o_2.length≤64)∧∀x_6:List UInt8,Lf (x_6=withM n_5 o_2)→ckQ (eqAVL (((cells32M ks).drop
 0).take 72) (((cells32M ks).drop 0).take 72)&&Option.some ((cells32M ks).length+1)==Option.some ((cells32M ks).length+1)) (ckQ (eqAVL (((cells32M ks).drop 0).take 72) (((cells32M ks).drop 0).take 72)&&Option.some ((cells32M
 ks).length+1)==Option.some ((cells32M ks).length+1)) (ckQ (Nat.beq (cellsSM l).length (l.length*1)&&oneL (cellsSM l)&&true&&Nat.ble (l.length*16) 1099511627776) (bif Nat.beq l.length 0 then ckQ (Nat.beq l.length 0) (ckQ
 (eqAVL (((cells32M ks).drop 0).take 72) (((cells32M ks).drop 0).take 72)&&Option.some ((cells32M ks).length+1)==Option.some ((cells32M ks).length+1)) (ckQ (eqAVL (((cells32M ks).drop 0).take 72) (((cells32M ks).drop 0).take 72) &&
 Option.some ((cells32M ks).length+1)==Option.some ((cells32M ks).length+1)) (Lf (((cells32M ks).drop 0).take 72=cells32M makM)∧∃l_7:List (List UInt8),Lf ([AV.str x_6]=cellsSM l_7∧1=l_7.length∧l_7.length≤1000∧∀s_8
 : List UInt8,Membership.mem l_7 s_8→s_8.length≤100000)∧∀o_8:List UInt8,Lf (o_8=sumSM l_7)→ckQ (eqAVL (((cells32M ks).drop 0).take 72) (((cells32M ks).drop 0).take 72)&&Option.some ((cells32M ks).length+1)==Option.some
 ((cells32M ks).length+1)) (Lf (((cells32M ks).drop 0).take 72=cells32M makM)∧∃l_9:List (List UInt8),Lf ([AV.str x_4,.str o_8]=cellsSM l_9∧2=l_9.length∧l_9.length≤1000∧∀s_10:List UInt8,Membership.mem l_9 s_10 →
 s_10.length≤100000)∧∀o_10:List UInt8,Lf (o_10=sumSM l_9)→Q (.ret (.str o_10)) [] {})))) else ckQ (Nat.blt 0 l.length) (ckQ (Nat.ble (1+l.length) 1099511627776&&Nat.ble ((1+l.length)*16) 1099511627776) (ckQ (eqAVL
 (((cells32M ks).drop 0).take 72) (((cells32M ks).drop 0).take 72)&&Option.some ((cells32M ks).length+1)==Option.some ((cells32M ks).length+1)) (ckQ (eqAVL (((cells32M ks).drop 0).take 72) (((cells32M ks).drop 0).take 72) &&
 Option.some ((cells32M ks).length+1)==Option.some ((cells32M ks).length+1)) (Lf (((cells32M ks).drop 0).take 72=cells32M makM)∧ckQ (Nat.beq ([AV.str x_6]++cellsSM l).length (1+(cellsSM l).length)&&Nat.ble (0+(1 +
 l.length)*1) (1+(cellsSM l).length)&&true) (∃l_7:List (List UInt8),Lf (List.map (fun (x_8:AV)=>frzV 1 [Blk.mk BK.exact (oldL 0 (cells32M ks)) (cells32M ks),Blk.mk BK.exact true [.str o_2],Blk.mk BK.exact true [.str key],
 Blk.mk BK.exact true [.str x_6],Blk.mk BK.grow (oldL 0 ([AV.str x_6]++cellsSM l)) ([AV.str x_6]++cellsSM l)] 8 x_8) ((([AV.str x_6]++cellsSM l).drop 0).take ((1+l.length)*1))=cellsSM l_7∧1+l.length=l_7.length ∧
 l_7.length≤1000∧∀s_8:List UInt8,Membership.mem l_7 s_8→s_8.length≤100000)∧∀o_8:List UInt8,Lf (o_8=sumSM l_7)→ckQ (eqAVL (((cells32M ks).drop 0).take 72) (((cells32M ks).drop 0).take 72)&&Option.some ((cells32M
 ks).length+1)==Option.some ((cells32M ks).length+1)) (Lf (((cells32M ks).drop 0).take 72=cells32M makM)∧∃l_9:List (List UInt8),Lf ([AV.str x_4,.str o_8]=cellsSM l_9∧2=l_9.length∧l_9.length≤1000∧∀s_10:List
 UInt8,Membership.mem l_9 s_10→s_10.length≤100000)∧∀o_10:List UInt8,Lf (o_10=sumSM l_9)→Q (.ret (.str o_10)) [] {})))))))))))))) else ckQ (Nat.beq (cells32M ks).length (cells32M ks).length&&Nat.ble 72 (cells32M ks).length)
 (ckQ (Nat.beq (cells32M ks).length (cells32M ks).length&&Nat.ble 72 (cells32M ks).length) (∃n_1:Nat,Lf (Nat.blt 1 (List.length [Blk.mk BK.exact (oldL 0 (cells32M ks)) (cells32M ks),Blk.mk BK.exact true [.str key]])=true∧92 =
 (n_1:Int)∧key.length≤64)∧∀x_2:List UInt8,Lf (x_2=withM n_1 key)→ckQ (eqAVL (((cells32M ks).drop 0).take 72) (((cells32M ks).drop 0).take 72)&&Option.some ((cells32M ks).length+1)==Option.some ((cells32M ks).length +
 1)) (ckQ (eqAVL (((cells32M ks).drop 0).take 72) (((cells32M ks).drop 0).take 72)&&Option.some ((cells32M ks).length+1)==Option.some ((cells32M ks).length+1)) (∃n_3:Nat,Lf (Nat.blt 1 (List.length [Blk.mk BK.exact (oldL 0
 (cells32M ks)) (cells32M ks),Blk.mk BK.exact true [.str key]])=true∧54=(n_3:Int)∧key.length≤64)∧∀x_4:List UInt8,Lf (x_4=withM n_3 key)→ckQ (eqAVL (((cells32M ks).drop 0).take 72) (((cells32M ks).drop 0).take 72) &&
 Option.some ((cells32M ks).length+1)==Option.some ((cells32M ks).length+1)) (ckQ (eqAVL (((cells32M ks).drop 0).take 72) (((cells32M ks).drop 0).take 72)&&Option.some ((cells32M ks).length+1)==Option.some ((cells32M ks).length
 + 1)) (ckQ (Nat.beq (cellsSM l).length (l.length*1)&&oneL (cellsSM l)&&true&&Nat.ble (l.length*16) 1099511627776) (bif Nat.beq l.length 0 then ckQ (Nat.beq l.length 0) (ckQ (eqAVL (((cells32M ks).drop 0).take 72) (((cells32M
 ks).drop 0).take 72)&&Option.some ((cells32M ks).length+1)==Option.some ((cells32M ks).length+1)) (ckQ (eqAVL (((cells32M ks).drop 0).take 72) (((cells32M ks).drop 0).take 72)&&Option.some ((cells32M ks).length+1) ==
 Option.some ((cells32M ks).length+1)) (Lf (((cells32M ks).drop 0).take 72=cells32M makM)∧∃l_5:List (List UInt8),Lf ([AV.str x_4]=cellsSM l_5∧1=l_5.length∧l_5.length≤1000∧∀s_6:List UInt8,Membership.mem l_5 s_6 →
 s_6.length≤100000)∧∀o_6:List UInt8,Lf (o_6=sumSM l_5)→ckQ (eqAVL (((cells32M ks).drop 0).take 72) (((cells32M ks).drop 0).take 72)&&Option.some ((cells32M ks).length+1)==Option.some ((cells32M ks).length+1)) (Lf
 (((cells32M ks).drop 0).take 72=cells32M makM)∧∃l_7:List (List UInt8),Lf ([AV.str x_2,.str o_6]=cellsSM l_7∧2=l_7.length∧l_7.length≤1000∧∀s_8:List UInt8,Membership.mem l_7 s_8→s_8.length≤100000)∧∀o_8:List
 UInt8,Lf (o_8=sumSM l_7)→Q (.ret (.str o_8)) [] {})))) else ckQ (Nat.blt 0 l.length) (ckQ (Nat.ble (1+l.length) 1099511627776&&Nat.ble ((1+l.length)*16) 1099511627776) (ckQ (eqAVL (((cells32M ks).drop 0).take 72) (((cells32M
 ks).drop 0).take 72)&&Option.some ((cells32M ks).length+1)==Option.some ((cells32M ks).length+1)) (ckQ (eqAVL (((cells32M ks).drop 0).take 72) (((cells32M ks).drop 0).take 72)&&Option.some ((cells32M ks).length+1) ==
 Option.some ((cells32M ks).length+1)) (Lf (((cells32M ks).drop 0).take 72=cells32M makM)∧ckQ (Nat.beq ([AV.str x_4]++cellsSM l).length (1+(cellsSM l).length)&&Nat.ble (0+(1+l.length)*1) (1+(cellsSM l).length)&&true)
 (∃l_5:List (List UInt8),Lf (List.map (fun (x_6:AV)=>frzV 1 [Blk.mk BK.exact (oldL 0 (cells32M ks)) (cells32M ks),Blk.mk BK.exact true [.str key],Blk.mk BK.exact true [.str x_4],Blk.mk BK.grow (oldL 0 ([AV.str x_4]++cellsSM l))
 ([AV.str x_4]++cellsSM l)] 8 x_6) ((([AV.str x_4]++cellsSM l).drop 0).take ((1+l.length)*1))=cellsSM l_5∧1+l.length=l_5.length∧l_5.length≤1000∧∀s_6:List UInt8,Membership.mem l_5 s_6→s_6.length≤100000)∧∀o_6
 : List UInt8,Lf (o_6=sumSM l_5)→ckQ (eqAVL (((cells32M ks).drop 0).take 72) (((cells32M ks).drop 0).take 72)&&Option.some ((cells32M ks).length+1)==Option.some ((cells32M ks).length+1)) (Lf (((cells32M ks).drop 0).take 72 =
 cells32M makM)∧∃l_7:List (List UInt8),Lf ([AV.str x_2,.str o_6]=cellsSM l_7∧2=l_7.length∧l_7.length≤1000∧∀s_8:List UInt8,Membership.mem l_7 s_8→s_8.length≤100000)∧∀o_8:List UInt8,Lf (o_8=sumSM l_7)→Q
 (.ret (.str o_8)) [] {})))))))))))))):=by kernel_rfl

end Go.Proofs.YtjenieljapmehaaGreatDoor

set_option linter.unusedSimpArgs false
set_option linter.unusedVariables false
set_option linter.unusedSectionVars false
namespace Go.Proofs.YtjenieljapmehaaGreatDoor
open Go.RowKit
set_option maxRecDepth 1000000

theorem ckT {b:Bool} {A B:Prop} (h:b=true) (k:A):bif b then A else B:=by rw[h];exact k
theorem ckN {b:Bool} {A B:Prop} (h:b=false) (k:B):bif b then A else B:=by rw[h];exact k
theorem frzCS (H:List Blk) (l:List (List UInt8)):(cellsSM l).map (fun x=>frzV 1 H 8 x)=cellsSM l:=by
 simp only[cellsSM,List.map_map]
 exact List.map_congr_left fun x _=>rfl
theorem oneL_cs (l:List (List UInt8)):oneL (cellsSM l)=true:=by
 induction l with
 | nil=>rfl
 | cons x l ih=>simpa [cellsSM,oneL,one] using ih
def macSM (key:List UInt8) (l:List (List UInt8)):List UInt8:=
 sumSM [withM 92 (if 64<key.length then sumSM [key] else key),sumSM (withM 54 (if 64<key.length then sumSM [key] else key)::l)]
theorem mac_len (key:List UInt8) (l:List (List UInt8)):(macSM key l).length=32:=sumS_len _
theorem with_len {c:Nat} {key:List UInt8} (h:key.length≤64):(withM c key).length=64:=by rw[withM,List.length_map,pad_len h]
theorem mac_run (tg:Nat) (ks:List Nat) (key:List UInt8) (l:List (List UInt8)) (hks:ks=makM) (hk:key.length≤100000) (h3:l.length≤900) (h4:∀s∈l,s.length≤100000) (Q:Out→List Blk→Gh→Prop)
  (hq:Q (.ret (.str (macSM key l))) [] {}):∃hv hb,goal_35 hv hb tg ks key l Q:=by
 obtain ⟨hv',hb',e'⟩:∃hv hb,goal_35 hv hb tg ks key l Q=_:=⟨_,_,vc_35 tg ks key l Q⟩
 refine ⟨hv',hb',e'.mpr ?_⟩
 clear e'
 have hN:(cells32M ks).length=72:=by rw[hks,cells32_len];rfl
 have hT:List.take 72 (List.drop 0 (cells32M ks))=cells32M makM:=by
  rw[List.drop_zero,List.take_of_length_le (by omega),hks]
 have hE:(eqAVL (List.take 72 (List.drop 0 (cells32M ks))) (List.take 72 (List.drop 0 (cells32M ks)))&&((some ((cells32M ks).length+1))==some ((cells32M ks).length+1)))=true:=by
  rw[hT,eqAVL_32]
  simp
 have hA:(Nat.beq (cells32M ks).length (cells32M ks).length&&Nat.ble 72 (cells32M ks).length)=true:=by rw[hN];rfl
 have hL:∀a b:List UInt8,a.length≤100000→b.length≤100000→∀s∈[a,b],s.length≤100000:=fun a b ha hb s hs=>by
  simp only[List.mem_cons,List.not_mem_nil,or_false] at hs
  rcases hs with rfl | rfl<;>assumption
 have hO:((((cellsSM l).length.beq (l.length*1))&&oneL (cellsSM l))&&true&&Nat.ble (l.length*16) 1099511627776)=true:=by
  rw[oneL_cs]
  simp[cellsS_len]
  omega
 refine ⟨_,rfl,splitD (fun h => ?_) (fun h => ?_)⟩
 ·have hq':Q (.ret (.str (sumSM [withM 92 (sumSM [key]),sumSM (withM 54 (sumSM [key])::l)]))) [] {}:=by
   rw[macSM,if_pos (by omega)] at hq
   exact hq
  refine ckI hA ⟨⟨hT⟩,[key],⟨rfl,rfl,by simp,fun s hs=>by simp at hs;subst hs;exact hk⟩, ?_⟩
  rintro k ⟨ek⟩
  rw[←ek] at hq'
  have hk':k.length≤64:=by rw[ek,sumS_len];omega
  clear ek hq
  refine ckI hA (ckI hA ⟨92,⟨rfl,rfl,hk'⟩, ?_⟩)
  rintro x4 ⟨rfl⟩
  refine ckI hE (ckI hE ⟨54,⟨rfl,rfl,hk'⟩, ?_⟩)
  rintro x6 ⟨rfl⟩
  have hw1:=with_len (c:=92) hk'
  have hw2:=with_len (c:=54) hk'
  refine ckI hE (ckI hE (ckI hO ?_))
  cases l with
  | nil=>
   refine ckT rfl (ckI rfl (ckI hE (ckI hE ⟨⟨hT⟩,[withM 54 k],⟨rfl,rfl,by simp,fun s hs=>by simp at hs;subst hs;omega⟩, ?_⟩)))
   rintro o8 ⟨rfl⟩
   refine ckI hE ⟨⟨hT⟩,[withM 92 k,sumSM [withM 54 k]],⟨rfl,rfl,by simp,hL _ _ (by omega) (by rw[sumS_len];omega)⟩, ?_⟩
   rintro o ⟨rfl⟩
   exact hq'
  | cons a l=>
   refine ckN rfl (ckI (by simp) (ckI (by simp at h3 ⊢;omega) (ckI hE (ckI hE ⟨⟨hT⟩,ckI (by simp[cellsS_len];omega) ⟨withM 54 k::a::l,⟨?_,by simp;omega,by simp at h3 ⊢;omega,fun s hs => ?_⟩, ?_⟩⟩))))
   ·rw[List.drop_zero,List.take_of_length_le (by simp[cellsS_len];omega)]
    exact frzCS _ (withM 54 k::a::l)
   ·simp only[List.mem_cons] at hs
    rcases hs with rfl | hs
    ·omega
    ·exact h4 s (by simpa using hs)
   rintro o8 ⟨rfl⟩
   refine ckI hE ⟨⟨hT⟩,[withM 92 k,sumSM (withM 54 k::a::l)],⟨rfl,rfl,by simp,hL _ _ (by omega) (by rw[sumS_len];omega)⟩, ?_⟩
   rintro o ⟨rfl⟩
   exact hq'
 ·have hq':Q (.ret (.str (sumSM [withM 92 key,sumSM (withM 54 key::l)]))) [] {}:=by
   rw[macSM,if_neg (by omega)] at hq
   exact hq
  have hk':key.length≤64:=by omega
  clear hq
  refine ckI hA (ckI hA ⟨92,⟨rfl,rfl,hk'⟩, ?_⟩)
  rintro x4 ⟨rfl⟩
  refine ckI hE (ckI hE ⟨54,⟨rfl,rfl,hk'⟩, ?_⟩)
  rintro x6 ⟨rfl⟩
  have hw1:=with_len (c:=92) hk'
  have hw2:=with_len (c:=54) hk'
  refine ckI hE (ckI hE (ckI hO ?_))
  cases l with
  | nil=>
   refine ckT rfl (ckI rfl (ckI hE (ckI hE ⟨⟨hT⟩,[withM 54 key],⟨rfl,rfl,by simp,fun s hs=>by simp at hs;subst hs;omega⟩, ?_⟩)))
   rintro o8 ⟨rfl⟩
   refine ckI hE ⟨⟨hT⟩,[withM 92 key,sumSM [withM 54 key]],⟨rfl,rfl,by simp,hL _ _ (by omega) (by rw[sumS_len];omega)⟩, ?_⟩
   rintro o ⟨rfl⟩
   exact hq'
  | cons a l=>
   refine ckN rfl (ckI (by simp) (ckI (by simp at h3 ⊢;omega) (ckI hE (ckI hE ⟨⟨hT⟩,ckI (by simp[cellsS_len];omega) ⟨withM 54 key::a::l,⟨?_,by simp;omega,by simp at h3 ⊢;omega,fun s hs => ?_⟩, ?_⟩⟩))))
   ·rw[List.drop_zero,List.take_of_length_le (by simp[cellsS_len];omega)]
    exact frzCS _ (withM 54 key::a::l)
   ·simp only[List.mem_cons] at hs
    rcases hs with rfl | hs
    ·omega
    ·exact h4 s (by simpa using hs)
   rintro o8 ⟨rfl⟩
   refine ckI hE ⟨⟨hT⟩,[withM 92 key,sumSM (withM 54 key::a::l)],⟨rfl,rfl,by simp,hL _ _ (by omega) (by rw[sumS_len];omega)⟩, ?_⟩
   rintro o ⟨rfl⟩
   exact hq'
def cMac:Con
 | [.agg cs,.str key,.lst _ ss n 1],H,K=>∃l:List (List UInt8),Lf (cs=cells32M makM∧key.length≤100000∧ss=cellsSM l∧n=l.length∧l.length≤900∧∀s∈l,s.length≤100000)∧∀o,Lf (o=macSM key l)→K (.ret (.str o)) H
 | _,_,_=>False
theorem mac_raw:ValidF Tryz.prog gl0 68 cMac:=by
 refine valid_flat (enters_of (by kernel_rfl)) gl0_noY fun args H Q hc => ?_
 unfold cMac at hc
 split at hc
 ·rename_i cs key tg ss n
  obtain ⟨l,⟨rfl,k1,rfl,rfl,k2,k3⟩,hq⟩:=hc
  obtain ⟨hv,hb',h⟩:=mac_run tg makM key l rfl k1 k2 k3 (Q:=fun o H' _=>H'=[]∧(∃v,o=.ret v∧old 0 v=true∧noY v=true)∧Q o H) ⟨rfl,⟨_,rfl,rfl,rfl⟩,hq _ ⟨rfl⟩⟩
  exact ⟨by simp[oldL,old,old32,cellsS_old],by simp[noYL,noY,noY32,cellsS_noY],_,1000,envFor18 smC1_ok _ hv hb',rfl,h⟩
 ·exact hc.elim
def cMacX:Con
 | [.agg cs,.str key,x],H,K=>Lf (cs=cells32M makM∧key.length≤100000)∧lendV H 1 x fun x'=>match x' with
  | .lst _ ss n 1=>∃l:List (List UInt8),Lf (ss=cellsSM l∧n=l.length∧l.length≤900∧∀s∈l,s.length≤100000)∧∀o,Lf (o=macSM key l)→K (.ret (.str o)) H
  | _=>False
 | _,_,_=>False
theorem macV_ok:ValidF Tryz.prog gl0 68 fun args H Q=>lendL [0,0,1] H args fun a=>cMac a H Q:=valid_view mac_raw gl0_noY [0,0,1] fun args H Q hc=>by
 unfold cMac at hc
 split at hc
 ·obtain ⟨l,h,hq⟩:=hc
  exact ⟨l,h,fun x hx=>⟨rfl,⟨_,rfl,rfl⟩,hq x hx⟩⟩
 ·exact hc.elim
theorem macX_ok:ValidF Tryz.prog gl0 68 cMacX:=by
 refine ⟨mac_raw.1,fun args H Q hc=>macV_ok.2 args H Q ?_⟩
 unfold cMacX at hc
 split at hc
 ·rename_i cs key x
  obtain ⟨⟨rfl,hk⟩,hc⟩:=hc
  have hz:∀H0:List Blk,(cells32M makM).map (fun x=>frzV 1 H0 8 x)=cells32M makM:=fun H0=>frz_nums _ _
  have h2:lendV _ 1 x fun x'=>cMac [.agg (cells32M makM),.str key,x'] _ _:=lendV_mono (fun x' h=>by
   split at h
   ·obtain ⟨l,⟨h1,h2,h3,h4⟩,h5⟩:=h
    exact ⟨l,⟨rfl,hk,h1,h2,h3,h4⟩,h5⟩
   ·exact h.elim) hc
  exact (id (congrArg (fun a=>lendV _ 1 x fun x'=>cMac [.agg a,.str key,x'] _ _) (hz _)).mpr h2:_)
 ·exact hc.elim
def smC2:SM:=lookS [(67,cMade),(68,cMacX)]
theorem smC2_ok:∀f g,smC2 f=some g→ValidF Tryz.prog gl0 f g:=lookS_ok _ (by simp only[List.mem_cons,List.not_mem_nil,or_false,forall_eq_or_imp,forall_eq];exact ⟨made_ok,macX_ok⟩)
abbrev zer72:List AV:=List.replicate 72 (AV.int .u32 0)
abbrev setK (ks:List Nat):List AV:=setRange zer72 0 (cells32M ks)
def stepM (key label:List UInt8):Nat→List UInt8×List UInt8
 | 0=>([],[])
 | n+1=>(macSM key [(stepM key label n).1,label,[UInt8.ofNat (n+1)]],(stepM key label n).2++macSM key [(stepM key label n).1,label,[UInt8.ofNat (n+1)]])
def inv_15 (key label:List UInt8) (s:S):List (List LInv):=[[{ α:=Nat,pre:=fun i=>Lf (i≤8),st:=fun i=>⟨mkT [(2,s.tm.get 2),(3,s.tm.get 3),(10,s.tm.get 10),(11,s.tm.get 11),(12,.str (stepM key label i).1),(13,.str (stepM key label i).2),(14,.int .i64 ((i+1:Nat):Int))],s.hp⟩,mu:=fun i=>8-i }]]
noncomputable def env_15 (hv:Nat→Option Pa) (hb:Nat→Option Bool) (key label:List UInt8):Env:=e18 smC2 (fun i=>bif Nat.beq i 31001 then some (inv_15 key label) else none) hv hb
noncomputable def goal_15 (hv:Nat→Option Pa) (hb:Nat→Option Bool) (key:List UInt8) (secret salt label:List UInt8) (n:Int) (Q:Out→List Blk→Gh→Prop):Prop:=
 callx (env_15 hv hb key label) (wpx (env_15 hv hb key label) 1000) 31 [.str secret,.str salt,.str label,.int .i64 n] [] {} Q
theorem vc_15 (key:List UInt8) (secret:List UInt8) (salt:List UInt8) (label:List UInt8) (n:Int) (Q:Out→List Blk→Gh→Prop):goal_15 (lookV [(270348,.int .i64),(127011,.int .i64),(127020,.int .i64),(127021,.int .u8),
 (127023,.str),(127028,.str),(127014,.int .i64),(127015,.int .i64),(127031,.str)]) (lookB [(1126980096,true)]) key secret salt label n Q=(exI .i64 (secret.length:Int) fun n_0=>bif decide (n_0>4096) then Q (.ret (.tup [.str
 [],.int .i64 3])) [] {} else exI .i64 (salt.length:Int) fun n_1=>bif decide (n_1>4096) then Q (.ret (.tup [.str [],.int .i64 3])) [] {} else exI .i64 (label.length:Int) fun n_2=>bif decide (n_2>4096) then Q (.ret (.tup [.str
 [],.int .i64 3])) [] {} else bif decide (n<0) then Q (.ret (.tup [.str [],.int .i64 2])) [] {} else bif decide (n>255) then Q (.ret (.tup [.str [],.int .i64 2])) [] {} else ∀ks_3:List Nat,Lf (ks_3=startM++kkM)→ckQ (Nat.beq
 (cells32M ks_3).length 72&&oneL (cells32M ks_3)&&true) (ckQ (Nat.beq (setK ks_3).length 72&&true) (Lf (((setK ks_3).drop 0).take 72=cells32M makM∧salt.length≤100000)∧∃l_4:List (List UInt8),Lf ([AV.str secret]=cellsSM
 l_4∧1=l_4.length∧l_4.length≤900∧∀s_5:List UInt8,Membership.mem l_4 s_5→s_5.length≤100000)∧∀o_5:List UInt8,Lf (o_5=macSM salt l_4)→(∃x_6:Nat,Lf (x_6≤8)∧eqqQ [AV.str secret,.str salt,.str label]∧ckQ
 (oldL 0 (cells32M ks_3)==oldL 0 (cells32M ks_3)) (eqqQ (setK ks_3)∧eqqQ [AV.str secret]∧eqqQ (AV.int .i64 n)∧eqqQ (AV.str o_5)∧AV.str []=AV.str (stepM key label x_6).2∧eqqQ (AV.str label)∧AV.str []=AV.str (stepM key label
 x_6).1∧eqqQ (AV.ptr 1 72 0)∧AV.int .i64 1=AV.int .i64 ((x_6+1:Nat):Int)∧True))∧∀x_6:Nat,Lf (x_6≤8)→exI .i64 ((stepM key label x_6).2.length:Int) fun n_7=>bif decide (n_7<n) then ckQ (Nat.beq (setK ks_3).length
 72&&true) (exI .i64 ((x_6+1:Nat):Int) fun n_8=>exW .u8 n_8 fun n_9=>exS (.str [toB (.int .u8 n_9)]) fun s_10=>Lf (((setK ks_3).drop 0).take 72=cells32M makM∧o_5.length≤100000)∧∃l_11:List (List UInt8),Lf ([AV.str
 (stepM key label x_6).1,.str label,.str s_10]=cellsSM l_11∧3=l_11.length∧l_11.length≤900∧∀s_12:List UInt8,Membership.mem l_11 s_12→s_12.length≤100000)∧∀o_12:List UInt8,Lf (o_12=macSM o_5 l_11)→ckQ (decide
 ((stepM key label x_6).2.length+o_12.length≤9223372036854775807)&&true) (exS (.str ((stepM key label x_6).2++o_12)) fun s_13=>exI .i64 ((x_6+1:Nat):Int) fun n_14=>exW .i64 (n_14+1) fun n_15=>((oldL 0 (cells32M ks_3)
 || oldL 3 (setK ks_3))&&true)=true∧(True∧(0:Nat)=(0:Nat))∧∃y_16:Nat,Lf (y_16≤8)∧8-y_16<8-x_6∧eqqQ [AV.str secret,.str salt,.str label]∧ckQ (oldL 0 (cells32M ks_3)==oldL 0 (cells32M ks_3)) (eqqQ (setK
 ks_3)∧eqqQ [AV.str secret]∧eqqQ (AV.int .i64 n)∧eqqQ (AV.str o_5)∧AV.str s_13=AV.str (stepM key label y_16).2∧eqqQ (AV.str label)∧AV.str o_12=AV.str (stepM key label y_16).1∧eqqQ (AV.ptr 1 72 0)∧AV.int .i64 n_15 =
 AV.int .i64 ((y_16+1:Nat):Int)∧True))) else ckQ (decide (0≤n)&&true&&Nat.ble n.toNat (stepM key label x_6).2.length) (exS (.str (((stepM key label x_6).2.drop 0).take (n.toNat-0))) fun s_8=>Q (.ret (.tup [.str s_8,.int
 .i64 0])) [] {})))):=by kernel_rfl

end Go.Proofs.YtjenieljapmehaaGreatDoor

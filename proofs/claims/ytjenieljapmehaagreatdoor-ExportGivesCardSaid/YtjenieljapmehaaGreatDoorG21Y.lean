/-
  Chapter 21: Records, proved; Media's residual.
-/
import Derived.Test.YtjenieljapmehaaGreatDoorG21X
set_option linter.unusedSimpArgs false
set_option linter.unusedVariables false
set_option linter.unusedSectionVars false
namespace Go.Proofs.YtjenieljapmehaaGreatDoor
open Go.RowKit
set_option maxRecDepth 1000000

theorem tkI {o:List UInt8} {p k n0:Nat} {zs:List AV} {pos:Int} {g:Bool} {R:Int→List UInt8→Prop} (hz:zs=List.replicate k (.int .u8 0)) (hp:pos=(p:Nat)) (hk:1≤k) (hl:p+k≤o.length) (ho:o.length≤255) (hg:g=true) (hR:R ((p+k:Nat):Int) ((o.drop p).take k)) :
  ∃n_2:Int,AV.int .i64 (o.length:Int)=AV.int .i64 n_2∧bif decide (pos≥n_2) then False else bif g then (∃s_3:List UInt8,AV.str (List.take (o.length-pos.toNat) (List.drop pos.toNat o))=AV.str s_3 ∧
   bif oneL (ofBytes s_3) then (∃n_4:Int,AV.int .i64 ((min s_3.length k:Nat):Int)=AV.int .i64 n_4∧∃n_5:Int,AV.int .i64 (IntKind.wrap .i64 (pos+n_4))=AV.int .i64 n_5 ∧
    ((oldL 0 (List.take (min s_3.length k*1) (ofBytes s_3))||oldL n0 (setRange zs 0 (List.take (min s_3.length k*1) (ofBytes s_3))))&&true)=true ∧
    bif ((((Nat.beq (setRange zs 0 (List.take (min s_3.length k*1) (ofBytes s_3))).length k)&&true)&&true)&&allU8 (List.take k (List.drop 0 (setRange zs 0 (List.take (min s_3.length k*1) (ofBytes s_3)))))) then
     (∃s_6:List UInt8,AV.str (List.map toB (List.take k (List.drop 0 (setRange zs 0 (List.take (min s_3.length k*1) (ofBytes s_3))))))=AV.str s_6∧R n_5 s_6) else False) else False) else False:=by
 subst hz hp hg
 have hs:(List.take (o.length-p) (List.drop p o))=o.drop p:=List.take_of_length_le (by simp)
 have hlen:(o.drop p).length=o.length-p:=by simp
 have hmin:min (o.drop p).length k=k:=by omega
 have h0:List.take (k*1) (ofBytes (o.drop p))=ofBytes ((o.drop p).take k):=by rw[Nat.mul_one];simp[ofBytes]
 have hl2:((o.drop p).take k).length=k:=by rw[List.length_take];omega
 have hset:setRange (List.replicate k (AV.int .u8 0)) 0 (ofBytes ((o.drop p).take k))=ofBytes ((o.drop p).take k):=by
  unfold setRange
  rw[Nat.zero_add,ofB_len,hl2,List.drop_replicate]
  simp
 refine ⟨_,rfl,splitD (fun h=>by omega) (fun _=>⟨_,rfl,ckI (oneL_ofB _) ⟨_,rfl, ?_⟩⟩)⟩
 rw[Int.toNat_natCast,hs,hmin,h0,hset]
 refine wrapI (by omega) (by omega) ⟨by rw[oldL_ofB];rfl, ?_⟩
 have e:List.take k (List.drop 0 (ofBytes ((o.drop p).take k)))=ofBytes ((o.drop p).take k):=by
  rw[List.drop_zero,List.take_of_length_le (by rw[ofB_len];omega)]
 rw[e,toB_ofB]
 refine ckI (by rw[ofB_len,hl2,allU8_ofB];simp) ⟨_,rfl, ?_⟩
 rw[show ((p:Nat):Int)+((k:Nat):Int)=((p+k:Nat):Int) by omega]
 exact hR
def recBM:List UInt8:=[114,101,99,111,114,100,115]
def recSM (m:List UInt8) (r:Int):List UInt8:=octSM (ofSM m r.toNat) [] recBM 88
def recM (o:List UInt8) (c:Bool):List UInt8×List UInt8×List UInt8×List UInt8:=
 if c=true then (o.take 32,(o.drop 32).take 12,(o.drop 44).take 32,(o.drop 76).take 12) else ((o.drop 44).take 32,(o.drop 76).take 12,o.take 32,(o.drop 32).take 12)
theorem eqAV_mp (a b c d:List UInt8):(eqAVL [AV.tup [.str a,.str b,.str c,.str d]] [AV.tup [.str a,.str b,.str c,.str d]]&&true)=true:=by simp[eqAVL,eqAV,eqB_t]
theorem eqAV_int (k:IntKind) (n:Int):(eqAVL [AV.int k n] [AV.int k n]&&true)=true:=by simp[eqAVL,eqAV,eqB_t]
def cRec:Con
 | [.str m,.int .i64 r,.bool c],H,K=>bif okRndM m r then (∀k1 s1 k2 s2,Lf (recM (recSM m r) c=(k1,s1,k2,s2))→K (.ret (.tup [.agg [.int .i64 r,.int .i64 0,.str k1,.str s1],.agg [.int .i64 r,.str k2,.str s2,.int .i64 (-1),.int .u64 0],.int .i64 0])) H)
  else K (.ret (.tup [.agg [.int .i64 0,.int .i64 0,.str [],.str []],.agg [.int .i64 0,.str [],.str [],.int .i64 0,.int .u64 0],.int .i64 2])) H
 | _,_,_=>False
theorem rec_ok13:ValidF Tryz.prog gl0 13 cRec:=by
 refine valid_flat (enters_of (by kernel_rfl)) gl0_noY fun args H Q hc => ?_
 unfold cRec at hc
 split at hc
 ·rename_i m r c
  obtain ⟨hv',hb',e'⟩:∃hv hb,goal_13 hv hb m r c (fun o H' _=>H'=[]∧(∃v,o=.ret v∧old 0 v=true∧noY v=true)∧Q o H)=_:=⟨_,_,vc_13 m r c _⟩
  refine ⟨rfl,rfl,_,1000,envFor18 (smR_ok hv' hb') _ hv' hb',rfl,e'.mpr ?_⟩
  clear e'
  refine ⟨rfl, ?_⟩
  cases h:okRndM m r with
  | false=>
   rw[h] at hc
   cases c<;>exact ⟨rfl,rfl,⟨_,rfl,rfl,rfl⟩,hc⟩
  | true=>
   rw[h] at hc
   have hh:=of_decide_eq_true h
   have hlo:=of_len hh.1 r.toNat
   have hok:okOctM (ofSM m r.toNat) [] 88=true:=decide_eq_true ⟨hlo,by simp,by omega,by omega⟩
   have hol:(recSM m r).length=88:=oct_len (by omega) (by omega)
   cases c with
   | true=>
    rintro o0 ⟨rfl⟩
    refine ⟨⟨by simp⟩, ?_⟩
    rw[hok]
    rintro o ⟨eo⟩
    have eo:o=recSM m r:=eo
    rw[←eo] at hol hc
    refine tkI (p:=0) (k:=32) rfl rfl (by omega) (by omega) (by omega) (by simp) ?_
    refine tkI (p:=32) (k:=12) rfl rfl (by omega) (by omega) (by omega) (by simp;omega) ?_
    refine tkI (p:=44) (k:=32) rfl rfl (by omega) (by omega) (by omega) (by simp;omega) ?_
    refine tkI (p:=76) (k:=12) rfl rfl (by omega) (by omega) (by omega) (by simp;omega) ?_
    exact ⟨rfl,ckI (eqAV_mp _ _ _ _) (ckI (eqAV_mp _ _ _ _) (ckI (eqAV_int _ _) ⟨rfl,⟨_,rfl,rfl,rfl⟩,hc _ _ _ _ ⟨rfl⟩⟩))⟩
   | false=>
    rintro o0 ⟨rfl⟩
    refine ⟨⟨by simp⟩, ?_⟩
    rw[hok]
    rintro o ⟨eo⟩
    have eo:o=recSM m r:=eo
    rw[←eo] at hol hc
    refine tkI (p:=0) (k:=32) rfl rfl (by omega) (by omega) (by omega) (by simp) ?_
    refine tkI (p:=32) (k:=12) rfl rfl (by omega) (by omega) (by omega) (by simp;omega) ?_
    refine tkI (p:=44) (k:=32) rfl rfl (by omega) (by omega) (by omega) (by simp;omega) ?_
    refine tkI (p:=76) (k:=12) rfl rfl (by omega) (by omega) (by omega) (by simp;omega) ?_
    exact ⟨rfl,ckI (eqAV_mp _ _ _ _) (ckI (eqAV_mp _ _ _ _) (ckI (eqAV_int _ _) ⟨rfl,⟨_,rfl,rfl,rfl⟩,hc _ _ _ _ ⟨rfl⟩⟩))⟩
 ·exact hc.elim
end Go.Proofs.YtjenieljapmehaaGreatDoor

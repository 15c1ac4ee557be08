/-
  Chapter 4: the run of tag is proved.
-/
import Derived.Test.YtnhechnaemmdiaaGreatDoorK25SI
set_option linter.unusedSimpArgs false
set_option linter.unusedVariables false
namespace Go.Proofs.YtnhechnaemmdiaaGreatDoor
open Go.RowKit
set_option maxRecDepth 1000000

def mskAtM (l:List UInt8) (j:Nat) (m:UInt8):List UInt8:=l.set j (l.getD j 0 &&& m)
def clampM (l:List UInt8):List UInt8:=mskAtM (mskAtM (mskAtM (mskAtM (mskAtM (mskAtM (mskAtM l 3 15) 7 15) 11 15) 15 15) 4 252) 8 252) 12 252
def leBM:Nat→Nat→List UInt8
 | 0,_=>[]
 | n+1,x=>UInt8.ofNat (x%256)::leBM n (x/256)
def tagM (key s:List UInt8):List UInt8:=leBM 16 ((polyM (leNM (clampM (key.take 16))) s.length 0 s+leNM (key.drop 16))%340282366920938463463374607431768211456)

theorem and8 (a:UInt8) (M:Nat) (m:UInt8) (hm:m.toNat=M):IntKind.wrap .u8 ((((a.toNat:Int)%256).toNat &&& M:Nat):Int)=((a &&& m).toNat:Int):=by
 subst hm
 have h1:((a.toNat:Int)%256).toNat=a.toNat:=by have:=a.toNat_lt;omega
 rw[h1,u8_wrap,UInt8.toNat_and]
 congr 1
 exact Nat.mod_eq_of_lt (Nat.lt_of_le_of_lt Nat.and_le_left a.toNat_lt)
theorem msk_len (l:List UInt8) (j:Nat) (m:UInt8):(mskAtM l j m).length=l.length:=by simp[mskAtM]
theorem lendB (τ:Nat) (H:List Blk) (d:Nat) (xs:List UInt8) {n:Nat} (hn:n=xs.length):List.map (fun x=>frzV τ H (d+1) x) (List.take (n*1) (List.drop 0 (ofBytes xs)))=ofBytes xs:=by
 subst hn
 rw[List.drop_zero,Nat.mul_one,List.take_of_length_le (by rw[ofB_len];omega)]
 unfold ofBytes
 rw[List.map_map]
 rfl
theorem val_lim {n a b c d e:Nat} (hn:n<1361129467683753853853498429727072845824) (h:limM n=[a,b,c,d,e]):n=valM a b c d e∧a≤67108863∧b≤67108863∧c≤67108863∧d≤67108863∧e≤67108863:=by
 simp only[limM,List.cons.injEq,and_true] at h
 obtain ⟨h0,h1,h2,h3,h4⟩:=h
 unfold valM
 refine ⟨?_, ?_, ?_, ?_, ?_, ?_⟩<;>omega

theorem poly_step {V N X R o c l c':Nat} (hx:V+N=X) (h1:X*R=o+pM*c) (h2:o=l+pM*c'):((V%pM+N)*R)%pM=l%pM:=by
 have e:((V%pM+N)*R)%pM=((V+N)*R)%pM:=by
  rw[Nat.mul_mod,Nat.add_mod,Nat.mod_mod,←Nat.add_mod,←Nat.mul_mod]
 rw[e,hx,h1,h2,Nat.add_mul_mod_self_left,Nat.add_mul_mod_self_left]
theorem poly_nil (r h:Nat):∀f,polyM r f h []=h
 | 0=>rfl
 | f+1=>by rw[polyM,if_pos rfl]
theorem leB_cons {b:Nat} (hb:b≤255) (n y:Nat):leBM (n+1) (b+256*y)=UInt8.ofNat b::leBM n y:=by
 rw[leBM,show (b+256*y)%256=b by omega,show (b+256*y)/256=y by omega]
theorem leB_16 {x y0 y1 y2 y3 y4 y5 y6 y7 y8 y9 y10 y11 y12 y13 y14 y15:Nat} (h:x=y0+256*(y1+256*(y2+256*(y3+256*(y4+256*(y5+256*(y6+256*(y7+256*(y8+256*(y9+256*(y10+256*(y11+256*(y12+256*(y13+256*(y14+256*(y15))))))))))))))))
  (c0:y0≤255) (c1:y1≤255) (c2:y2≤255) (c3:y3≤255) (c4:y4≤255) (c5:y5≤255) (c6:y6≤255) (c7:y7≤255) (c8:y8≤255) (c9:y9≤255) (c10:y10≤255) (c11:y11≤255) (c12:y12≤255) (c13:y13≤255) (c14:y14≤255) (c15:y15≤255):leBM 16 x=[UInt8.ofNat y0,UInt8.ofNat y1,UInt8.ofNat y2,UInt8.ofNat y3,UInt8.ofNat y4,UInt8.ofNat y5,UInt8.ofNat y6,UInt8.ofNat y7,UInt8.ofNat y8,UInt8.ofNat y9,UInt8.ofNat y10,UInt8.ofNat y11,UInt8.ofNat y12,UInt8.ofNat y13,UInt8.ofNat y14,UInt8.ofNat y15]:=by
 have e:y15=y15+256*0:=by omega
 rw[h,leB_cons c0,leB_cons c1,leB_cons c2,leB_cons c3,leB_cons c4,leB_cons c5,leB_cons c6,leB_cons c7,leB_cons c8,leB_cons c9,leB_cons c10,leB_cons c11,leB_cons c12,leB_cons c13,leB_cons c14,e,leB_cons c15]
 simp[leBM]
theorem toB_nat (y:Nat):toB (.int .u8 (y:Int))=UInt8.ofNat y:=by simp[toB]
theorem tag_end {V key s f R x} (g3:polyM R f (V%pM) []=polyM R s.length 0 s) (hR:R=leNM (clampM (List.take 16 key))) (hx:x=V%pM+leNM (List.drop 16 key)):leBM 16 (x%340282366920938463463374607431768211456)=tagM key s:=by
 rw[poly_nil] at g3
 rw[tagM,hx,g3,hR]

set_option maxHeartbeats 4000000 in
theorem tag_run (key s rb:List UInt8) (r0 r1 r2 r3 r4:Nat) (hkey:key.length=32) (hrb:clampM (key.take 16)=rb) (hr:limM (leNM rb)=[r0,r1,r2,r3,r4]) (Q:Out→List Blk→Gh→Prop) (hq:Q (.ret (.str (tagM key s))) [] ⟨0,1,[]⟩):∃hv hb,goal_34 hv hb rb r0 r1 r2 r3 r4 key s Q:=by
 obtain ⟨hv,hb',e⟩:∃hv hb,goal_34 hv hb rb r0 r1 r2 r3 r4 key s Q=_:=⟨_,_,vc_34 rb r0 r1 r2 r3 r4 key s Q⟩
 refine ⟨hv,hb',e.mpr ?_⟩
 clear e
 have hk16:(key.take 16).length=16:=by simp[hkey]
 refine ckI (by rw[hkey];rfl) ⟨_,rfl, ?_⟩
 rw[List.drop_zero]
 have hkeep:=hrb
 unfold clampM at hrb
 obtain ⟨l0,hl0⟩:∃l,key.take 16=l:=⟨_,rfl⟩
 rw[hl0] at hrb hk16 ⊢
 have hB0:=ofB_len l0
 refine ckI (by rw[hB0,hk16];rfl) (ckI (by rw[hB0,hk16];rfl) (ldB (j:=3) (by omega) rfl ⟨_,by rw[and8 _ 15 15 rfl],ckI (by rw[hB0,hk16];rfl) (ckI (by rw[hB0,hk16];rfl) ⟨by simp[oldL_ofB], ?_⟩)⟩))
 rw[stB (j:=3) (by omega) rfl]
 rw[show l0.set 3 (l0.getD 3 0 &&& 15)=mskAtM l0 3 15 from rfl]
 have hk16':(mskAtM l0 3 15).length=16:=by rw[msk_len];exact hk16
 rw[show l0.length=(mskAtM l0 3 15).length from (msk_len _ _ _).symm]
 clear hk16 hB0
 generalize hl1:mskAtM l0 3 15=l1 at *
 have hk16:=hk16'
 clear hk16'
 have hB1:=ofB_len l1
 refine ckI (by rw[hB1,hk16];rfl) (ckI (by rw[hB1,hk16];rfl) (ldB (j:=7) (by omega) rfl ⟨_,by rw[and8 _ 15 15 rfl],ckI (by rw[hB1,hk16];rfl) (ckI (by rw[hB1,hk16];rfl) ⟨by simp[oldL_ofB], ?_⟩)⟩))
 rw[stB (j:=7) (by omega) rfl]
 rw[show l1.set 7 (l1.getD 7 0 &&& 15)=mskAtM l1 7 15 from rfl]
 have hk16':(mskAtM l1 7 15).length=16:=by rw[msk_len];exact hk16
 rw[show l1.length=(mskAtM l1 7 15).length from (msk_len _ _ _).symm]
 clear hk16 hB1
 generalize hl2:mskAtM l1 7 15=l2 at *
 have hk16:=hk16'
 clear hk16'
 have hB2:=ofB_len l2
 refine ckI (by rw[hB2,hk16];rfl) (ckI (by rw[hB2,hk16];rfl) (ldB (j:=11) (by omega) rfl ⟨_,by rw[and8 _ 15 15 rfl],ckI (by rw[hB2,hk16];rfl) (ckI (by rw[hB2,hk16];rfl) ⟨by simp[oldL_ofB], ?_⟩)⟩))
 rw[stB (j:=11) (by omega) rfl]
 rw[show l2.set 11 (l2.getD 11 0 &&& 15)=mskAtM l2 11 15 from rfl]
 have hk16':(mskAtM l2 11 15).length=16:=by rw[msk_len];exact hk16
 rw[show l2.length=(mskAtM l2 11 15).length from (msk_len _ _ _).symm]
 clear hk16 hB2
 generalize hl3:mskAtM l2 11 15=l3 at *
 have hk16:=hk16'
 clear hk16'
 have hB3:=ofB_len l3
 refine ckI (by rw[hB3,hk16];rfl) (ckI (by rw[hB3,hk16];rfl) (ldB (j:=15) (by omega) rfl ⟨_,by rw[and8 _ 15 15 rfl],ckI (by rw[hB3,hk16];rfl) (ckI (by rw[hB3,hk16];rfl) ⟨by simp[oldL_ofB], ?_⟩)⟩))
 rw[stB (j:=15) (by omega) rfl]
 rw[show l3.set 15 (l3.getD 15 0 &&& 15)=mskAtM l3 15 15 from rfl]
 have hk16':(mskAtM l3 15 15).length=16:=by rw[msk_len];exact hk16
 rw[show l3.length=(mskAtM l3 15 15).length from (msk_len _ _ _).symm]
 clear hk16 hB3
 generalize hl4:mskAtM l3 15 15=l4 at *
 have hk16:=hk16'
 clear hk16'
 have hB4:=ofB_len l4
 refine ckI (by rw[hB4,hk16];rfl) (ckI (by rw[hB4,hk16];rfl) (ldB (j:=4) (by omega) rfl ⟨_,by rw[and8 _ 252 252 rfl],ckI (by rw[hB4,hk16];rfl) (ckI (by rw[hB4,hk16];rfl) ⟨by simp[oldL_ofB], ?_⟩)⟩))
 rw[stB (j:=4) (by omega) rfl]
 rw[show l4.set 4 (l4.getD 4 0 &&& 252)=mskAtM l4 4 252 from rfl]
 have hk16':(mskAtM l4 4 252).length=16:=by rw[msk_len];exact hk16
 rw[show l4.length=(mskAtM l4 4 252).length from (msk_len _ _ _).symm]
 clear hk16 hB4
 generalize hl5:mskAtM l4 4 252=l5 at *
 have hk16:=hk16'
 clear hk16'
 have hB5:=ofB_len l5
 refine ckI (by rw[hB5,hk16];rfl) (ckI (by rw[hB5,hk16];rfl) (ldB (j:=8) (by omega) rfl ⟨_,by rw[and8 _ 252 252 rfl],ckI (by rw[hB5,hk16];rfl) (ckI (by rw[hB5,hk16];rfl) ⟨by simp[oldL_ofB], ?_⟩)⟩))
 rw[stB (j:=8) (by omega) rfl]
 rw[show l5.set 8 (l5.getD 8 0 &&& 252)=mskAtM l5 8 252 from rfl]
 have hk16':(mskAtM l5 8 252).length=16:=by rw[msk_len];exact hk16
 rw[show l5.length=(mskAtM l5 8 252).length from (msk_len _ _ _).symm]
 clear hk16 hB5
 generalize hl6:mskAtM l5 8 252=l6 at *
 have hk16:=hk16'
 clear hk16'
 have hB6:=ofB_len l6
 refine ckI (by rw[hB6,hk16];rfl) (ckI (by rw[hB6,hk16];rfl) (ldB (j:=12) (by omega) rfl ⟨_,by rw[and8 _ 252 252 rfl],ckI (by rw[hB6,hk16];rfl) (ckI (by rw[hB6,hk16];rfl) ⟨by simp[oldL_ofB], ?_⟩)⟩))
 rw[stB (j:=12) (by omega) rfl]
 rw[show l6.set 12 (l6.getD 12 0 &&& 252)=mskAtM l6 12 252 from rfl]
 have hk16':(mskAtM l6 12 252).length=16:=by rw[msk_len];exact hk16
 rw[show l6.length=(mskAtM l6 12 252).length from (msk_len _ _ _).symm]
 clear hk16 hB6
 generalize hl7:mskAtM l6 12 252=l7 at *
 have hk16:=hk16'
 clear hk16'
 subst hrb
 have hR:=leN_lt l7
 rw[hk16,show (2:Nat)^(8*16)=340282366920938463463374607431768211456 from rfl] at hR
 obtain ⟨hvR,hr0,hr1,hr2,hr3,hr4⟩:=val_lim (by omega) hr
 refine ckI (by first | (simp only[Bool.and_eq_true,Bool.and_true,Bool.true_and,decide_eq_true_eq,blt_iff,Nat.ble_eq,nbeq,cellsI_len,ofB_len,List.length_append,List.length_cons,List.length_nil,Int.toNat_natCast,and_true,true_and,Bool.or_eq_true,Bool.not_eq_true',bne_iff_ne,ne_eq];done) | (simp only[Bool.and_eq_true,Bool.and_true,Bool.true_and,decide_eq_true_eq,blt_iff,Nat.ble_eq,nbeq,cellsI_len,ofB_len,List.length_append,List.length_cons,List.length_nil,Int.toNat_natCast,and_true,true_and,Bool.or_eq_true,Bool.not_eq_true',bne_iff_ne,ne_eq];omega) | rfl | (simp;done) | (simp;omega)) ⟨l7,⟨lendB _ _ _ _ rfl,rfl,by omega,by omega⟩, ?_⟩
 have hv0:valM 0 0 0 0 0%pM=0:=by decide
 intro a b c d e he
 have he2:=he.h.symm.trans hr
 simp only[List.cons.injEq,and_true] at he2
 obtain ⟨rfl,rfl,rfl,rfl,rfl⟩:=he2
 refine ⟨⟨(s,s.length,0,0,0,0,0),⟨Nat.le_refl _,Nat.le_refl _,Nat.zero_le _,Nat.zero_le _,Nat.zero_le _,Nat.zero_le _,Nat.zero_le _,by rw[hv0]⟩, ?_⟩, ?_⟩
 ·rw[oldL_ofB]
  simp
 rintro ⟨q,f,a0,a1,a2,a3,a4⟩ ⟨g1,g2,ha0,ha1,ha2,ha3,ha4,g3⟩
 dsimp only at *
 refine ⟨_,rfl,splitD (fun hgt => ?_) (fun hle => ?_)⟩
 ·have him:imin (q.length:Int) 16=((q.take 16).length:Int):=by
   rw[List.length_take]
   unfold imin
   split<;>omega
  refine ⟨_,rfl,_,rfl, ?_⟩
  rw[him]
  refine ckI (by first | (simp only[Bool.and_eq_true,Bool.and_true,Bool.true_and,decide_eq_true_eq,blt_iff,Nat.ble_eq,nbeq,cellsI_len,List.length_take,List.length_append,List.length_cons,List.length_nil,Int.toNat_natCast,and_true,true_and,Bool.or_eq_true,Bool.not_eq_true',bne_iff_ne,ne_eq];done) | (simp only[Bool.and_eq_true,Bool.and_true,Bool.true_and,decide_eq_true_eq,blt_iff,Nat.ble_eq,nbeq,cellsI_len,List.length_take,List.length_append,List.length_cons,List.length_nil,Int.toNat_natCast,and_true,true_and,Bool.or_eq_true,Bool.not_eq_true',bne_iff_ne,ne_eq];omega) | rfl | (simp;done) | (simp;omega)) ⟨q.take 16, ?_, ?_⟩
  ·rw[List.drop_zero,Int.toNat_natCast,Nat.sub_zero,List.length_take]
   congr 1
   rw[List.take_eq_take_iff]
   omega
  ·have hPl:(q.take 16).length≤16:=by rw[List.length_take];omega
   have hPe:(q.take 16).length=min 16 q.length:=List.length_take
   have hap:ofBytes (q.take 16)++[AV.int .u8 1]=ofBytes (q.take 16++[1]):=by simp[ofBytes]
   try dsimp only
   rw[hap]
   have hlB:=ofB_len (q.take 16)
   have hlB2:=ofB_len (q.take 16++[1])
   have hl1:(q.take 16++[1]).length=(q.take 16).length+1:=by simp
   have hN:leNM (q.take 16++[1])<1361129467683753853853498429727072845824:=by
    have h1:=leN_lt (q.take 16++[1])
    have h2:=leN_lt (q.take 16)
    rw[leN_snoc]
    have h3:(2:Nat)^(8*(q.take 16).length)≤2^128:=Nat.pow_le_pow_right (by omega) (by omega)
    rw[show (2:Nat)^128=340282366920938463463374607431768211456 from rfl] at h3
    rw[show (1:UInt8).toNat=1 from rfl]
    omega
   refine ckI (by rw[hlB];simp;omega) (ckI (by rw[hlB2,hl1];simp) ⟨q.take 16++[1],⟨lendB _ _ _ _ hl1.symm,hl1.symm,by omega,hN⟩, ?_⟩)
   intro p0 p1 p2 p3 p4 hp
   obtain ⟨hvN,hp0,hp1,hp2,hp3,hp4⟩:=val_lim hN hp.h
   refine addB 67108864 67108863 134217728 (by decide) (by decide) ha0 hp0 (fun x0 ex0 bx0=>⟨by simp[oldL_ofB], ?_⟩)
   refine addB 67108864 67108863 134217728 (by decide) (by decide) ha1 hp1 (fun x1 ex1 bx1=>⟨by simp[oldL_ofB], ?_⟩)
   refine addB 67108864 67108863 134217728 (by decide) (by decide) ha2 hp2 (fun x2 ex2 bx2=>⟨by simp[oldL_ofB], ?_⟩)
   refine addB 67108864 67108863 134217728 (by decide) (by decide) ha3 hp3 (fun x3 ex3 bx3=>⟨by simp[oldL_ofB], ?_⟩)
   refine addB 67108864 67108863 134217728 (by decide) (by decide) ha4 hp4 (fun x4 ex4 bx4=>⟨by simp[oldL_ofB], ?_⟩)
   refine mulI (by simp[oldL_ofB]) bx0 bx1 bx2 bx3 bx4 hr0 hr1 hr2 hr3 hr4 (fun o0 o1 o2 o3 o4 bo0 bo1 bo2 bo3 bo4 hmul => ?_)
   refine carryI (by simp[oldL_ofB]) bo0 bo1 bo2 bo3 bo4 (fun l0 l1 l2 l3 l4 bl0 bl1 bl2 bl3 bl4 hcar => ?_)
   obtain ⟨c1,hmul⟩:=hmul
   obtain ⟨c2,hcar⟩:=hcar
   refine ⟨by simp[oldL_ofB],ckI (by first | (simp only[Bool.and_eq_true,Bool.and_true,Bool.true_and,decide_eq_true_eq,blt_iff,Nat.ble_eq,nbeq,cellsI_len,List.length_take,List.length_append,List.length_cons,List.length_nil,Int.toNat_natCast,and_true,true_and,Bool.or_eq_true,Bool.not_eq_true',bne_iff_ne,ne_eq];done) | (simp only[Bool.and_eq_true,Bool.and_true,Bool.true_and,decide_eq_true_eq,blt_iff,Nat.ble_eq,nbeq,cellsI_len,List.length_take,List.length_append,List.length_cons,List.length_nil,Int.toNat_natCast,and_true,true_and,Bool.or_eq_true,Bool.not_eq_true',bne_iff_ne,ne_eq];omega) | rfl | (simp;done) | (simp;omega)) ⟨q.drop 16, ?_, ?_⟩⟩
   ·rw[Int.toNat_natCast,List.length_take]
    congr 1
    by_cases h16:q.length≤16
    ·rw[List.drop_of_length_le (by omega),List.drop_of_length_le h16,List.take_nil]
    ·rw[Nat.min_eq_left (by omega),List.take_of_length_le (by rw[List.length_drop];omega)]
   ·obtain ⟨f',rfl⟩:∃f',f=f'+1:=⟨f-1,by omega⟩
    have hne:q≠[]:=by intro h;rw[h] at hgt;simp at hgt
    rw[polyM,if_neg hne] at g3
    have hxs:valM a0 a1 a2 a3 a4+leNM (q.take 16++[1])=valM x0 x1 x2 x3 x4:=by
     rw[hvN,ex0,ex1,ex2,ex3,ex4]
     unfold valM
     omega
    rw[←hvR] at hmul
    rw[poly_step hxs hmul hcar] at g3
    refine ⟨?_,(q.drop 16,f',l0,l1,l2,l3,l4),⟨?_, ?_,bl0,bl1,bl2,bl3,bl4,g3⟩, ?_, ?_⟩
    ·first | trivial | exact ⟨rfl,rfl⟩
    ·show (q.drop 16).length≤f'
     rw[List.length_drop];omega
    ·show f'≤s.length
     omega
    ·show f'<f'+1
     omega
    ·simp
 ·have hq0:q=[]:=List.length_eq_zero_iff.1 (by omega)
  subst hq0
  refine carryI rfl (Nat.le_trans ha0 (by decide)) (Nat.le_trans ha1 (by decide)) (Nat.le_trans ha2 (by decide)) (Nat.le_trans ha3 (by decide)) (Nat.le_trans ha4 (by decide)) (fun l0 l1 l2 l3 l4 bl0 bl1 bl2 bl3 bl4 hcar => ?_)
  obtain ⟨c2,hcar⟩:=hcar
  refine moreI bl0 bl1 bl2 bl3 bl4 (fun m0 m1 m2 m3 m4 cc bm0 bm1 bm2 bm3 bm4 hmore => ?_)
  have hVl:valM a0 a1 a2 a3 a4%pM=valM l0 l1 l2 l3 l4%pM:=by rw[hcar,Nat.add_mul_mod_self_left]
  have hbl:valM l0 l1 l2 l3 l4<2*1361129467683753853853498429727072845819:=by
   unfold valM
   omega
  have hbm:valM m0 m1 m2 m3 m4<1361129467683753853853498429727072845824:=by
   unfold valM
   omega
  have hkl:(key.drop 16).length=16:=by rw[List.length_drop];omega
  have hN:=leN_lt (key.drop 16)
  rw[hkl,show (2:Nat)^(8*16)=340282366920938463463374607431768211456 from rfl] at hN
  have hlB:=ofB_len (key.drop 16)
  have htk:List.take (key.length-16) (List.drop 16 key)=List.drop 16 key:=List.take_of_length_le (by rw[List.length_drop];omega)
  refine splitD (fun hcc => ?_) (fun hcc => ?_)
  ·refine ckI (by first | (simp only[Bool.and_eq_true,Bool.and_true,Bool.true_and,decide_eq_true_eq,blt_iff,Nat.ble_eq,nbeq,cellsI_len,List.length_append,List.length_cons,List.length_nil,Int.toNat_natCast,and_true,true_and,Bool.or_eq_true,Bool.not_eq_true',bne_iff_ne,ne_eq];done) | (simp only[Bool.and_eq_true,Bool.and_true,Bool.true_and,decide_eq_true_eq,blt_iff,Nat.ble_eq,nbeq,cellsI_len,List.length_append,List.length_cons,List.length_nil,Int.toNat_natCast,and_true,true_and,Bool.or_eq_true,Bool.not_eq_true',bne_iff_ne,ne_eq];omega) | rfl | (simp;done) | (simp;omega)) ⟨key.drop 16,by rw[htk], ?_⟩
   refine ckI (by rw[hlB];simp) ⟨key.drop 16,⟨lendB _ _ _ _ rfl,rfl,by omega,by omega⟩, ?_⟩
   intro k0 k1 k2 k3 k4 hk
   obtain ⟨hvK,hk0,hk1,hk2,hk3,hk4⟩:=val_lim (by omega) hk.h
   refine addB 67108863 67108863 134217728 (by decide) (by decide) bm0 hk0 (fun t0 et0 bt0=>⟨by simp[oldL_ofB], ?_⟩)
   refine addB 67108863 67108863 134217728 (by decide) (by decide) bm1 hk1 (fun t1 et1 bt1=>⟨by simp[oldL_ofB], ?_⟩)
   refine addB 67108863 67108863 134217728 (by decide) (by decide) bm2 hk2 (fun t2 et2 bt2=>⟨by simp[oldL_ofB], ?_⟩)
   refine addB 67108863 67108863 134217728 (by decide) (by decide) bm3 hk3 (fun t3 et3 bt3=>⟨by simp[oldL_ofB], ?_⟩)
   refine addB 67108863 67108863 134217728 (by decide) (by decide) bm4 hk4 (fun t4 et4 bt4=>⟨by simp[oldL_ofB], ?_⟩)
   refine outI bt0 bt1 bt2 bt3 bt4 (fun y0 y1 y2 y3 y4 y5 y6 y7 y8 y9 y10 y11 y12 y13 y14 y15 c0 c1 c2 c3 c4 c5 c6 c7 c8 c9 c10 c11 c12 c13 c14 c15 hout => ?_)
   have hV:valM a0 a1 a2 a3 a4%pM=valM m0 m1 m2 m3 m4:=by
    rw[hVl,Nat.mod_eq_sub_mod (by unfold pM;omega),Nat.mod_eq_of_lt (by unfold pM;omega)]
    unfold pM
    omega
   have hT:valM t0 t1 t2 t3 t4=valM a0 a1 a2 a3 a4%pM+leNM (key.drop 16):=by
    rw[hV,hvK,et0,et1,et2,et3,et4]
    unfold valM
    omega
   have hE:=tag_end g3 (congrArg leNM hkeep.symm) hT
   rw[leB_16 hout c0 c1 c2 c3 c4 c5 c6 c7 c8 c9 c10 c11 c12 c13 c14 c15] at hE
   refine ⟨_,rfl, ?_⟩
   simp only[toB_nat]
   rw[hE]
   exact hq
  ·refine ckI (by first | (simp only[Bool.and_eq_true,Bool.and_true,Bool.true_and,decide_eq_true_eq,blt_iff,Nat.ble_eq,nbeq,cellsI_len,List.length_append,List.length_cons,List.length_nil,Int.toNat_natCast,and_true,true_and,Bool.or_eq_true,Bool.not_eq_true',bne_iff_ne,ne_eq];done) | (simp only[Bool.and_eq_true,Bool.and_true,Bool.true_and,decide_eq_true_eq,blt_iff,Nat.ble_eq,nbeq,cellsI_len,List.length_append,List.length_cons,List.length_nil,Int.toNat_natCast,and_true,true_and,Bool.or_eq_true,Bool.not_eq_true',bne_iff_ne,ne_eq];omega) | rfl | (simp;done) | (simp;omega)) ⟨key.drop 16,by rw[htk], ?_⟩
   refine ckI (by rw[hlB];simp) ⟨key.drop 16,⟨lendB _ _ _ _ rfl,rfl,by omega,by omega⟩, ?_⟩
   intro k0 k1 k2 k3 k4 hk
   obtain ⟨hvK,hk0,hk1,hk2,hk3,hk4⟩:=val_lim (by omega) hk.h
   refine addB 67108864 67108863 134217728 (by decide) (by decide) bl0 hk0 (fun t0 et0 bt0=>⟨by simp[oldL_ofB], ?_⟩)
   refine addB 67108864 67108863 134217728 (by decide) (by decide) bl1 hk1 (fun t1 et1 bt1=>⟨by simp[oldL_ofB], ?_⟩)
   refine addB 67108864 67108863 134217728 (by decide) (by decide) bl2 hk2 (fun t2 et2 bt2=>⟨by simp[oldL_ofB], ?_⟩)
   refine addB 67108864 67108863 134217728 (by decide) (by decide) bl3 hk3 (fun t3 et3 bt3=>⟨by simp[oldL_ofB], ?_⟩)
   refine addB 67108864 67108863 134217728 (by decide) (by decide) bl4 hk4 (fun t4 et4 bt4=>⟨by simp[oldL_ofB], ?_⟩)
   refine outI bt0 bt1 bt2 bt3 bt4 (fun y0 y1 y2 y3 y4 y5 y6 y7 y8 y9 y10 y11 y12 y13 y14 y15 c0 c1 c2 c3 c4 c5 c6 c7 c8 c9 c10 c11 c12 c13 c14 c15 hout => ?_)
   have hV:valM a0 a1 a2 a3 a4%pM=valM l0 l1 l2 l3 l4:=by
    rw[hVl]
    exact Nat.mod_eq_of_lt (by unfold pM;omega)
   have hT:valM t0 t1 t2 t3 t4=valM a0 a1 a2 a3 a4%pM+leNM (key.drop 16):=by
    rw[hV,hvK,et0,et1,et2,et3,et4]
    unfold valM
    omega
   have hE:=tag_end g3 (congrArg leNM hkeep.symm) hT
   rw[leB_16 hout c0 c1 c2 c3 c4 c5 c6 c7 c8 c9 c10 c11 c12 c13 c14 c15] at hE
   refine ⟨_,rfl, ?_⟩
   simp only[toB_nat]
   rw[hE]
   exact hq
end Go.Proofs.YtnhechnaemmdiaaGreatDoor

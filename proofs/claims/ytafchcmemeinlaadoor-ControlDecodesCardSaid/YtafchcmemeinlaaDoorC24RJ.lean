/-
  Chapter 24: the reference reads back what was written.
-/
import Derived.Test.YtafchcmemeinlaaDoorCrB
import Derived.Test.YtafchcmemeinlaaDoorCmG
set_option linter.unusedSimpArgs false
set_option linter.unusedVariables false
set_option linter.unusedSectionVars false
namespace Go.Proofs.YtafchcmemeinlaaDoor
open Go.RowKit
set_option maxRecDepth 1000000

theorem aYp (l:List UInt8):∀k,k≤l.length→qR (l.take k)=(nbM l k:Nat)
 | 0,_=>rfl
 | k+1,h=>by
  have hk:k<l.length:=by omega
  rw[jE hk,aYp l k (by omega),nbM,List.getD_eq_getElem?_getD,List.getElem?_eq_getElem hk]
  simp
theorem nZ {k:Nat} {l l':List UInt8} {b b':Bool} {x:Int} (h:tkM k l b=(x,l',b')) (hb:b'=false):b=false∧x=(nbM l k:Nat)∧l'=l.drop k:=by
 subst hb
 unfold tkM at h
 split at h
 ·simp at h
 ·simp only[Prod.mk.injEq] at h
  obtain ⟨h1,h2,h3⟩:=h
  exact ⟨h3,by rw[←h1,aYp l k (by omega)],h2.symm⟩
theorem bQ7 {l l':List UInt8} {b b':Bool} {r:Rc} (h:gB l b=(r,l',b')) (hb:b'=false):b=false∧r=zD l∧l'=l.drop 24:=by
 unfold gB at h
 rcases e1:tkM 4 l b with ⟨x1,l1,b1⟩
 rw[e1] at h;dsimp only at h
 rcases e2:tkM 1 l1 b1 with ⟨x2,l2,b2⟩
 rw[e2] at h;dsimp only at h
 rcases e3:tkM 3 l2 b2 with ⟨x3,l3,b3⟩
 rw[e3] at h;dsimp only at h
 rcases e4:tkM 4 l3 b3 with ⟨x4,l4,b4⟩
 rw[e4] at h;dsimp only at h
 rcases e5:tkM 4 l4 b4 with ⟨x5,l5,b5⟩
 rw[e5] at h;dsimp only at h
 rcases e6:tkM 4 l5 b5 with ⟨x6,l6,b6⟩
 rw[e6] at h;dsimp only at h
 rcases e7:tkM 4 l6 b6 with ⟨x7,l7,b7⟩
 rw[e7] at h;dsimp only at h
 simp only[Prod.mk.injEq] at h
 obtain ⟨h1,h2,h3⟩:=h
 obtain ⟨k6,y7,z7⟩:=nZ e7 (h3.trans hb)
 obtain ⟨k5,y6,z6⟩:=nZ e6 k6
 obtain ⟨k4,y5,z5⟩:=nZ e5 k5
 obtain ⟨k3,y4,z4⟩:=nZ e4 k4
 obtain ⟨k2,y3,z3⟩:=nZ e3 k3
 obtain ⟨k1,y2,z2⟩:=nZ e2 k2
 obtain ⟨k0,y1,z1⟩:=nZ e1 k1
 refine ⟨k0, ?_, ?_⟩
 ·rw[←h1,y7,y6,y5,y4,y3,y2,y1,z6,z5,z4,z3,z2,z1]
  simp only[List.drop_drop,zD,xA]
  congr 3
  have e:∀m:Nat,(if (8388608:Int)≤(m:Nat) then ((m:Nat):Int)-16777216 else (m:Nat))=if 8388608≤m then ((m:Nat):Int)-16777216 else (m:Nat):=fun m=>by split<;>split<;>omega
  exact e _
 ·rw[←h2,z7,z6,z5,z4,z3,z2,z1]
  simp only[List.drop_drop]
theorem aE9 (l:List UInt8):∀n,fT l (n+1)=zD l::fT (l.drop 24) n
 | 0=>by simp[fT]
 | n+1=>by
  rw[fT,aE9 l n,fT,List.cons_append,List.drop_drop,show 24+24*n=24*(n+1) by omega]
theorem bCy:∀ (n:Nat) {l l':List UInt8} {b b':Bool} {rs:List Rc},eU n l b=(rs,l',b')→b'=false→b=false∧rs=fT l n
 | 0,l,l',b,b',rs,h,hb=>by
  simp only[eU,Prod.mk.injEq] at h
  exact ⟨h.2.2.trans hb,by rw[←h.1];rfl⟩
 | n+1,l,l',b,b',rs,h,hb=>by
  rcases e1:gB l b with ⟨r,l1,b1⟩
  rcases e2:eU n l1 b1 with ⟨rs',l2,b2⟩
  simp only[eU,e1,e2,Prod.mk.injEq] at h
  obtain ⟨k1,y1⟩:=bCy n e2 (h.2.2.trans hb)
  obtain ⟨k0,y0,z0⟩:=bQ7 e1 k1
  refine ⟨k0, ?_⟩
  rw[←h.1,aE9,y1,y0,z0]
theorem bQu:∀ (n:Nat) {l l':List UInt8} {b b':Bool} {lo:List Int},gZ n l b=(lo,l',b')→b'=false→b=false∧lo=aGq n l
 | 0,l,l',b,b',lo,h,hb=>by
  simp only[gZ,Prod.mk.injEq] at h
  exact ⟨h.2.2.trans hb,by rw[←h.1];rfl⟩
 | n+1,l,l',b,b',lo,h,hb=>by
  rcases e1:tkM 2 l b with ⟨x,l1,b1⟩
  rcases e2:tkM 2 l1 b1 with ⟨y,l2,b2⟩
  rcases e3:gZ n l2 b2 with ⟨lo',l3,b3⟩
  rw[gZ] at h
  split at h
  ·rename_i hc
   have hl:l≠[]:=fun hh=>by rw[hh] at hc;simp at hc
   simp only[e1,e2,e3,Prod.mk.injEq] at h
   obtain ⟨k2,y2⟩:=bQu n e3 (h.2.2.trans hb)
   obtain ⟨k1,y1,z1⟩:=nZ e2 k2
   obtain ⟨k0,y0,z0⟩:=nZ e1 k1
   refine ⟨k0, ?_⟩
   rw[←h.1,aGq,if_neg hl,y2,y1,y0,z1,z0,List.drop_drop]
  ·rename_i hc
   simp only[Prod.mk.injEq] at h
   have hb0:=h.2.2.trans hb
   refine ⟨hb0, ?_⟩
   have hl:l=[]:=by
    cases l with
    | nil=>rfl
    | cons c l=>exact absurd ⟨by simp,hb0⟩ hc
   rw[←h.1,aGq,if_pos hl]
theorem bQl (l0:List UInt8) (c m:Nat) (hm:m=(c+6)/7):∀ (f j:Nat) {b b':Bool} {sg:List Int} {l':List UInt8},j≤m→m≤j+f→jC f c (kT l0 j) (l0.drop (2*j)) b=(sg,l',b')→b'=false→b=false∧sg=kT l0 m∧l'=l0.drop (2*m)
 | 0,j,b,b',sg,l',h1,h2,h,hb=>by
  obtain rfl:j=m:=by omega
  simp only[jC,Prod.mk.injEq] at h
  exact ⟨h.2.2.trans hb,h.1.symm,h.2.1.symm⟩
 | f+1,j,b,b',sg,l',h1,h2,h,hb=>by
  rw[jC] at h
  rcases e1:tkM 2 (l0.drop (2*j)) b with ⟨x,l1,b1⟩
  split at h
  ·rename_i hc
   rw[qW] at hc
   rw[e1] at h
   dsimp only at h
   have hb1:b1=false:=by
    cases b1 with
    | false=>rfl
    | true=>
     exfalso
     cases f with
     | zero=>
      simp only[jC,Prod.mk.injEq] at h
      rw[hb] at h
      simp at h
     | succ f=>
      rw[jC,if_neg (by simp)] at h
      simp only[Prod.mk.injEq] at h
      rw[hb] at h
      simp at h
   obtain ⟨k0,y0,z0⟩:=nZ e1 hb1
   rw[y0,z0,List.drop_drop,show 2*j+2=2*(j+1) by omega,show kT l0 j++rH (nbM (l0.drop (2*j)) 2:Nat)=kT l0 (j+1) from rfl] at h
   obtain ⟨_,r⟩:=bQl l0 c m hm f (j+1) (by omega) (by omega) h hb
   exact ⟨k0,r⟩
  ·rename_i hc
   rw[qW] at hc
   simp only[Prod.mk.injEq] at h
   have hb0:=h.2.2.trans hb
   obtain rfl:j=m:=by
    have:¬ ((7*j:Nat):Int)<(c:Int):=fun hh=>hc ⟨hh,hb0⟩
    omega
   exact ⟨hb0,h.1.symm,h.2.1.symm⟩
theorem bL4 (sg:List Int):∀ (n i:Nat) {la:Int} {l:List UInt8} {b:Bool} {acc tm:List Int} {bf:Bool},(∀i,0≤sg.getD i 0∧sg.getD i 0≤3)→eH sg n i la l b acc=(tm,bf)→bf=false→b=false∧tm=aCx sg n i la l acc∧tm.length=acc.length+n
 | 0,i,la,l,b,acc,tm,bf,hs,h,hb=>by
  simp only[eH,Prod.mk.injEq] at h
  exact ⟨h.2.trans hb,by rw[←h.1];rfl,by rw[←h.1];rfl⟩
 | n+1,i,la,l,b,acc,tm,bf,hs,h,hb=>by
  rw[eH] at h
  have hsi:=hs i
  split at h
  ·simp only[Prod.mk.injEq] at h
   rw[hb] at h
   simp at h
  ·rename_i hc
   have hb0:b=false:=by
    cases b with
    | false=>rfl
    | true=>exact absurd (.inl rfl) hc
   have h3:sg.getD i 0≠3:=fun hh=>hc (.inr hh)
   split at h
   ·rename_i h0
    obtain ⟨k,y,z⟩:=bL4 sg n (i+1) hs h hb
    refine ⟨hb0, ?_,by rw[z,List.length_append,List.length_singleton];omega⟩
    rw[aCx,if_neg (by omega),if_neg (by omega),y]
   ·split at h
    ·rename_i h1
     rcases e:tkM 1 l b with ⟨x,l1,b1⟩
     rw[e] at h
     dsimp only at h
     obtain ⟨k,y,z⟩:=bL4 sg n (i+1) hs h hb
     obtain ⟨_,y1,z1⟩:=nZ e k
     refine ⟨hb0, ?_,by rw[z,List.length_append,List.length_singleton];omega⟩
     rw[aCx,if_pos h1,y,y1,z1]
    ·rename_i h1
     rcases e:tkM 2 l b with ⟨x,l1,b1⟩
     rw[e] at h
     dsimp only at h
     obtain ⟨k,y,z⟩:=bL4 sg n (i+1) hs h hb
     obtain ⟨_,y1,z1⟩:=nZ e k
     refine ⟨hb0, ?_,by rw[z,List.length_append,List.length_singleton];omega⟩
     rw[aCx,if_neg h1,if_pos (by omega),y,y1,z1]
theorem bRe:∀ (f:Nat) {c:Int} {acc l b sg l'},jC f c acc l b=(sg,l',false)→b=false
 | 0,c,acc,l,b,sg,l',h=>by
  simp only[jC,Prod.mk.injEq] at h
  exact h.2.2
 | f+1,c,acc,l,b,sg,l',h=>by
  cases b with
  | false=>rfl
  | true=>
   rw[jC,if_neg (by simp)] at h
   simp at h
theorem bMg (sg:List Int):∀ (n i:Nat) {la:Int} {l:List UInt8} {b:Bool} {acc tm:List Int},eH sg n i la l b acc=(tm,false)→b=false∧tm.length=acc.length+n
 | 0,i,la,l,b,acc,tm,h=>by
  simp only[eH,Prod.mk.injEq] at h
  exact ⟨h.2,by rw[←h.1];rfl⟩
 | n+1,i,la,l,b,acc,tm,h=>by
  rw[eH] at h
  split at h
  ·simp at h
  ·rename_i hc
   have hb0:b=false:=by
    cases b with
    | false=>rfl
    | true=>exact absurd (.inl rfl) hc
   refine ⟨hb0, ?_⟩
   split at h
   ·have:=(bMg sg n (i+1) h).2
    rw[this,List.length_append,List.length_singleton];omega
   ·split at h
    ·have:=(bMg sg n (i+1) h).2
     rw[this,List.length_append,List.length_singleton];omega
    ·have:=(bMg sg n (i+1) h).2
     rw[this,List.length_append,List.length_singleton];omega
theorem aMp {l:List UInt8} {b:Bool} (h:aF2 l b=true):b=false:=by
 cases b with
 | false=>rfl
 | true=>simp[aF2] at h
theorem bRu {k n:Nat} {s:List UInt8} {c:Ctl} (h:eD k n s=(c,true)) (hk:k=205→n=1∨n=15) (ht:c.ti.length≤64):aAi k n s=c:=by
 unfold eD at h
 unfold aAi
 have e200:((k:Int)=200)=(k=200):=by simp only[eq_iff_iff];omega
 have e201:((k:Int)=201)=(k=201):=by simp only[eq_iff_iff];omega
 have e203:((k:Int)=203)=(k=203):=by simp only[eq_iff_iff];omega
 have e205:((k:Int)=205)=(k=205):=by simp only[eq_iff_iff];omega
 have e206:((k:Int)=206)=(k=206):=by simp only[eq_iff_iff];omega
 have e1:((n:Int)=1)=(n=1):=by simp only[eq_iff_iff];omega
 have e15:((n:Int)=15)=(n=15):=by simp only[eq_iff_iff];omega
 simp only[e200,e201,e203,e205,e206,e1,e15] at h
 by_cases k0:k=200
 ·rw[if_pos k0] at h ⊢
  unfold aEj at h
  rcases e0:tkM 4 s false with ⟨x0,l0,b0⟩
  rw[e0] at h;dsimp only at h
  rcases e1:tkM 4 l0 b0 with ⟨x1,l1,b1⟩
  rw[e1] at h;dsimp only at h
  rcases e2:tkM 4 l1 b1 with ⟨x2,l2,b2⟩
  rw[e2] at h;dsimp only at h
  rcases e3:tkM 4 l2 b2 with ⟨x3,l3,b3⟩
  rw[e3] at h;dsimp only at h
  rcases e4:tkM 4 l3 b3 with ⟨x4,l4,b4⟩
  rw[e4] at h;dsimp only at h
  rcases e5:tkM 4 l4 b4 with ⟨x5,l5,b5⟩
  rw[e5] at h;dsimp only at h
  rcases e6:eU (n:Int).toNat l5 b5 with ⟨rs,l6,b6⟩
  rw[e6] at h;dsimp only at h
  simp only[Prod.mk.injEq] at h
  obtain ⟨k5,y6⟩:=bCy _ e6 (aMp h.2)
  obtain ⟨k4,y5,z5⟩:=nZ e5 k5
  obtain ⟨k3,y4,z4⟩:=nZ e4 k4
  obtain ⟨k2,y3,z3⟩:=nZ e3 k3
  obtain ⟨k1,y2,z2⟩:=nZ e2 k2
  obtain ⟨k0,y1,z1⟩:=nZ e1 k1
  obtain ⟨_,y0,z0⟩:=nZ e0 k0
  rw[←h.1,y6,y5,y4,y3,y2,y1,y0,z5,z4,z3,z2,z1,z0,Int.toNat_natCast]
  simp only[List.drop_drop]
 by_cases k1:k=201
 ·rw[if_neg k0,if_pos k1] at h ⊢
  unfold aFa at h
  rcases e0:tkM 4 s false with ⟨x0,l0,b0⟩
  rw[e0] at h;dsimp only at h
  rcases e6:eU (n:Int).toNat l0 b0 with ⟨rs,l6,b6⟩
  rw[e6] at h;dsimp only at h
  simp only[Prod.mk.injEq] at h
  obtain ⟨k5,y6⟩:=bCy _ e6 (aMp h.2)
  obtain ⟨_,y0,z0⟩:=nZ e0 k5
  rw[←h.1,y6,y0,z0,Int.toNat_natCast]
 by_cases k3:k=203
 ·rw[if_neg k0,if_neg k1,if_pos k3] at h ⊢
  unfold nJ at h
  rcases e0:tkM 4 s false with ⟨x0,l0,b0⟩
  rw[e0] at h;dsimp only at h
  simp only[Prod.mk.injEq] at h
  obtain ⟨_,y0,z0⟩:=nZ e0 (aMp h.2)
  rw[←h.1,y0]
 by_cases k6:k=206
 ·rw[if_neg k0,if_neg k1,if_neg k3,if_pos k6] at h ⊢
  unfold aFg at h
  rcases e0:tkM 4 s false with ⟨x0,l0,b0⟩
  rw[e0] at h;dsimp only at h
  rcases e1:tkM 4 l0 b0 with ⟨x1,l1,b1⟩
  rw[e1] at h;dsimp only at h
  simp only[Prod.mk.injEq] at h
  obtain ⟨k1,y1,z1⟩:=nZ e1 (aMp h.2)
  obtain ⟨_,y0,z0⟩:=nZ e0 k1
  rw[←h.1,y1,y0,z0]
 by_cases k5:k=205
 ·rw[if_neg k0,if_neg k1,if_neg k3,if_neg k6] at h ⊢
  rcases hk k5 with hn | hn
  ·rw[if_pos ⟨k5,hn⟩] at h ⊢
   unfold bKw at h
   rcases e0:tkM 4 s false with ⟨x0,l0,b0⟩
   rw[e0] at h;dsimp only at h
   rcases e1:tkM 4 l0 b0 with ⟨x1,l1,b1⟩
   rw[e1] at h;dsimp only at h
   rcases e2:gZ l1.length l1 b1 with ⟨lo,l2,b2⟩
   rw[e2] at h;dsimp only at h
   simp only[Prod.mk.injEq] at h
   obtain ⟨k2,y2⟩:=bQu _ e2 (aMp h.2)
   obtain ⟨k1,y1,z1⟩:=nZ e1 k2
   obtain ⟨_,y0,z0⟩:=nZ e0 k1
   rw[←h.1,y2,y1,y0,z1,z0]
   simp only[List.drop_drop]
  ·rw[if_neg (by omega),if_pos ⟨k5,hn⟩] at h
   rw[if_neg (by omega),if_pos k5]
   unfold bJc at h
   rcases e0:tkM 4 s false with ⟨x0,l0,b0⟩
   rw[e0] at h;dsimp only at h
   rcases e1:tkM 4 l0 b0 with ⟨x1,l1,b1⟩
   rw[e1] at h;dsimp only at h
   rcases e2:tkM 2 l1 b1 with ⟨x2,l2,b2⟩
   rw[e2] at h;dsimp only at h
   rcases e3:tkM 2 l2 b2 with ⟨x3,l3,b3⟩
   rw[e3] at h;dsimp only at h
   rcases e4:tkM 3 l3 b3 with ⟨x4,l4,b4⟩
   rw[e4] at h;dsimp only at h
   rcases e5:tkM 1 l4 b4 with ⟨x5,l5,b5⟩
   rw[e5] at h;dsimp only at h
   rcases e6:jC x3.toNat x3 [] l5 b5 with ⟨sg,l6,b6⟩
   rw[e6] at h;dsimp only at h
   rcases e7:eH sg x3.toNat 0 (x4*256) l6 b6 [] with ⟨tm,bf⟩
   rw[e7] at h;dsimp only at h
   simp only[Prod.mk.injEq,Bool.not_eq_true'] at h
   obtain ⟨h,hbf⟩:=h
   subst hbf
   obtain ⟨q6,hl⟩:=bMg sg _ _ e7
   subst q6
   have q5:=bRe _ e6
   obtain ⟨q4,y5,z5⟩:=nZ e5 q5
   obtain ⟨q3,y4,z4⟩:=nZ e4 q4
   obtain ⟨q2,y3,z3⟩:=nZ e3 q3
   obtain ⟨q1,y2,z2⟩:=nZ e2 q2
   obtain ⟨q0,y1,z1⟩:=nZ e1 q1
   obtain ⟨_,y0,z0⟩:=nZ e0 q0
   rw[y3,Int.toNat_natCast] at e6 e7 hl
   have ht':tm.length≤64:=by rw[←h] at ht;exact ht
   rw[List.length_nil,Nat.zero_add] at hl
   obtain ⟨_,ys,zs⟩:=bQl l5 (nbM l2 2) _ rfl (nbM l2 2) 0 (Nat.zero_le _) (by omega) (by rw[show kT l5 0=[] from rfl,Nat.mul_zero,List.drop_zero];exact e6) rfl
   obtain ⟨_,yt,_⟩:=bL4 sg _ _ (by rw[ys];exact aRv (aOw _ _)) e7 rfl
   have hr:rnM (nbM l2 2)=(nbM l2 2+6)/7:=if_neg (by omega)
   have e:uW (nbM l2 2) x4 l5=tm:=by
    rw[uW,hr,Nat.min_eq_left (by omega),yt,ys,zs,Int.mul_comm]
   rw[←h,←e,y5,y4,y2,y1,y0,z5,z4,z3,z2,z1,z0]
   simp only[List.drop_drop]
 ·rw[if_neg k0,if_neg k1,if_neg k3,if_neg k6,if_neg (by omega)] at h
  rw[if_neg k0,if_neg k1,if_neg k3,if_neg k6,if_neg (by omega),if_neg k5]
  rw[if_neg (by omega)] at h
  unfold nJ at h
  rcases e0:tkM 4 s false with ⟨x0,l0,b0⟩
  rw[e0] at h;dsimp only at h
  simp only[Prod.mk.injEq] at h
  obtain ⟨_,y0,z0⟩:=nZ e0 (aMp h.2)
  rw[←h.1,y0]
theorem aV0 {c:Ctl} (h:aQ c=true):(iX c.k=205→jV c=1∨jV c=15)∧c.ti.length≤64:=by
 rcases eO h with ⟨f,s1,s2,s3,s4,s5,rs,rfl,hrs⟩ | ⟨f,rs,rfl,hrs⟩ | ⟨f,rfl⟩ | ⟨f,a,lo,rfl,hlo⟩ | ⟨f,a,rfl⟩ | ⟨f,a,ba,ro,ti,rfl,hti⟩
 ·exact ⟨fun h=>by simp[iX] at h,Nat.zero_le _⟩
 ·exact ⟨fun h=>by simp[iX] at h,Nat.zero_le _⟩
 ·exact ⟨fun h=>by simp[iX] at h,Nat.zero_le _⟩
 ·exact ⟨fun _=>.inl rfl,Nat.zero_le _⟩
 ·exact ⟨fun h=>by simp[iX] at h,Nat.zero_le _⟩
 ·obtain ⟨ref,l,h1,h2,h3⟩:=fI hti
  exact ⟨fun _=>.inr rfl,by dsimp only;omega⟩
theorem bDg {c:Ctl} (h:aQ c=true):aJ0 (cZ c)=c:=by
 obtain ⟨hw1,hw2⟩:=aRa h
 obtain ⟨h5,h64⟩:=aV0 h
 obtain ⟨k,hk⟩:=Int.eq_ofNat_of_zero_le hw1.1
 obtain ⟨n,hn⟩:=Int.eq_ofNat_of_zero_le hw2.1
 have e0:=rY (128+jV c) 0
 rw[Int.pow_zero,Int.ediv_one] at e0
 have e1:=rY (iX c.k) 0
 rw[Int.pow_zero,Int.ediv_one] at e1
 have hb:=aFr h
 rw[hk,hn] at hb
 have hr:=bRu hb (fun hh=>by have:=h5 (by omega);omega) h64
 rw[aJ0,cZ,aFu]
 simp only[List.drop_succ_cons,List.drop_zero,nbM,List.getD_cons_zero]
 have a0:(0*256+(kV (128+jV c) 0).toNat)%32=n:=by omega
 have a1:0*256+(kV (iX c.k) 0).toNat=k:=by omega
 rw[a0,a1]
 exact hr
theorem aJ5:∀ (l:List Ctl) (fuel:Nat) (acc:List Ctl),(∀c∈l,aQ c=true)→(bX l).length≤fuel→lN fuel (bX l) acc=some (acc++l)
 | [],fuel,acc,_,_=>by
  rw[List.append_nil]
  cases fuel with
  | zero=>rfl
  | succ n=>rw[lN];exact if_pos rfl
 | c::l,fuel,acc,h,hf=>by
  have hc:=h c (by simp)
  have e:bX (c::l)=cZ c++bX l:=rfl
  obtain ⟨h1,h2⟩:=aKo hc (bX l)
  have h3:=(vU hc).1
  rw[e,List.length_append] at hf
  obtain ⟨fuel,rfl⟩:∃g,fuel=g+1:=⟨fuel-1,by omega⟩
  have hn:cZ c++bX l≠[]:=fun hh=>by
   have:=congrArg List.length hh
   rw[List.length_append,List.length_nil] at this
   omega
  rw[e,lN,if_neg hn,h1,if_neg (by rw[List.length_append];omega),List.drop_left' rfl,List.take_left' rfl,bDg hc]
  rw[aJ5 l fuel _ (fun d hd=>h d (by simp[hd])) (by omega)]
  simp
theorem aI0:∀ (n:Nat) (s:List UInt8) (acc:List Ctl) (g:Bool) (acc':List Ctl),gW n s acc g=none↔lN n s acc'=none
 | 0,s,acc,g,acc'=>by simp[gW,lN]
 | n+1,s,acc,g,acc'=>by
  rw[gW,lN]
  split
  ·simp
  ·split
   ·simp
   ·exact aI0 n _ _ _ _
def tK (s:List UInt8):List Ctl×Int:=
 if 1200<s.length then ([],3) else if s=[] then ([],7) else match lN s.length s [] with
  | none=>([],7)
  | some l=>if bP l=true∧bX l=s then (l,0) else ([],5)
theorem bEy (s:List UInt8):tK s=fV s:=by
 unfold tK
 by_cases h1:1200<s.length
 ·rw[if_pos h1,fV,if_pos h1]
 ·rw[if_neg h1]
  by_cases h2:s=[]
  ·rw[if_pos h2,fV,if_neg h1,if_pos h2]
  ·rw[if_neg h2]
   rcases e:lN s.length s [] with _ | l
   ·have:=(aI0 s.length s [] true []).2 e
    rw[fV,if_neg h1,if_neg h2,this]
   ·dsimp only
    by_cases h3:bP l=true∧bX l=s
    ·rw[if_pos h3,←h3.2,aZw h3.1 (by rw[h3.2];omega)]
    ·rw[if_neg h3]
     rcases e4:gW s.length s [] true with _ | p
     ·have:=(aI0 s.length s [] true []).1 e4
      rw[e] at this
      cases this
     ·rw[fV,if_neg h1,if_neg h2,e4]
      dsimp only
      rw[if_neg]
      rintro ⟨_,p2,p3⟩
      have hc:=(gT p.1).1 p2
      have:=aJ5 p.1 s.length [] hc.2.2 (by rw[p3];exact Nat.le_refl _)
      rw[p3,e,List.nil_append] at this
      cases this
      exact h3 ⟨p2,p3⟩
end Go.Proofs.YtafchcmemeinlaaDoor

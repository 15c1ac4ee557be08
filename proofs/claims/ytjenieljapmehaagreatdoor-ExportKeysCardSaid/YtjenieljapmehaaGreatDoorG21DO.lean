/-
  Chapter 18: the reference's Mixed proved.
-/
import Derived.Test.YtjenieljapmehaaGreatDoorG21DJ
import Derived.Test.YtjenieljapmehaaGreatDoorGmE
set_option linter.unusedSimpArgs false
set_option linter.unusedVariables false
set_option linter.unusedSectionVars false
namespace Go.Proofs.YtjenieljapmehaaGreatDoor
open Go.RowKit
set_option maxRecDepth 1000000

theorem wordI {v:Nat} (hv:v<4294967296) {K:Nat→Prop} (h:K v):Lf (0≤(v:Int)∧(v:Int)<4294967296)∧∀x:Nat,Lf ((x:Int)=(v:Int))→K x:=by
 refine ⟨⟨by omega,by omega⟩, ?_⟩
 rintro x ⟨hx⟩
 obtain rfl:x=v:=by omega
 exact h
theorem turnI {x:Nat} {k:Int} (hx:x<4294967296) (hk:0<k∧k<32) {K:Nat→Prop} (h:K (rotW (32-k.toNat) x)):∃x':Nat,Lf (wL x=wL x'∧x'<4294967296∧0<k∧k<32)∧∀y:Nat,Lf (y=rotW (32-k.toNat) x')→K y:=
 ⟨x,⟨rfl,hx,hk⟩,fun y ⟨hy⟩=>by rw[hy];exact h⟩
theorem moveI {x:Nat} {k:Int} (hx:x<4294967296) (hk:0<k∧k<32) {K:Nat→Prop} (h:K (x/2^k.toNat)):∃x':Nat,Lf (wL x=wL x'∧x'<4294967296∧0<k∧k<32)∧∀y:Nat,Lf (y=x'/2^k.toNat)→K y:=
 ⟨x,⟨rfl,hx,hk⟩,fun y ⟨hy⟩=>by rw[hy];exact h⟩
theorem xorI {x y:Nat} {K:Nat→Prop} (h:K (xorW x y)):∃x' y':Nat,Lf (wL x=wL x'∧wL y=wL y')∧∀z:Nat,Lf (z=xorW x' y')→K z:=
 ⟨x,y,⟨rfl,rfl⟩,fun z ⟨hz⟩=>by rw[hz];exact h⟩
theorem andI {x y:Nat} {K:Nat→Prop} (h:K (andW x y)):∃x' y':Nat,Lf (wL x=wL x'∧wL y=wL y')∧∀z:Nat,Lf (z=andW x' y')→K z:=
 ⟨x,y,⟨rfl,rfl⟩,fun z ⟨hz⟩=>by rw[hz];exact h⟩
theorem notI {x:Nat} {K:Nat→Prop} (h:K (notW x)):∃x':Nat,Lf (wL x=wL x')∧∀z:Nat,Lf (z=notW x')→K z:=
 ⟨x,⟨rfl⟩,fun z ⟨hz⟩=>by rw[hz];exact h⟩
theorem valueI {x:Nat} (hx:x<4294967296) {K:Int→Prop} (h:K (x:Int)):∃x':Nat,Lf (wL x=wL x'∧x'<4294967296)∧∀n:Int,Lf (n=(x':Int))→K n:=
 ⟨x,⟨rfl,hx⟩,fun n ⟨hn⟩=>by rw[hn];exact h⟩
theorem eqW (x:Nat):eqAVL (wL x) (wL x)=true:=by
 simp[wL,wbM,eqAVL,eqAV]
theorem sumI {x y:Nat} (h:x+y≤9223372036854775807) {K:Int→Prop} (hk:K ((x+y:Nat):Int)):∃n,AV.int .i64 (IntKind.wrap .i64 ((x:Int)+(y:Int)))=AV.int .i64 n∧K n:=by
 rw[show (x:Int)+(y:Int)=((x+y:Nat):Int) by omega]
 exact wrapI (by omega) (by omega) hk
theorem sum0I {x:Nat} (h:x≤9223372036854775807) {K:Int→Prop} (hk:K (x:Int)):∃n,AV.int .i64 (IntKind.wrap .i64 ((x:Int)+0))=AV.int .i64 n∧K n:=by
 rw[Int.add_zero]
 exact wrapI (by omega) (by omega) hk
theorem modI {x:Nat} {K:Int→Prop} (hk:K ((x%4294967296:Nat):Int)):∃n,AV.int .i64 (Int.tmod (x:Int) 4294967296)=AV.int .i64 n∧K n:=
 ⟨_,rfl,hk⟩
theorem be4_num (b:List UInt8) (i:Nat) (h:4*i+4≤b.length):beM ((b.drop (4*i)).take 4)=(be4W b (4*i):Int):=by
 have e:(b.drop (4*i)).take 4=[b.getD (4*i) 0,b.getD (4*i+1) 0,b.getD (4*i+2) 0,b.getD (4*i+3) 0]:=by
  have g:∀j,4*i+j<b.length→b.drop (4*i+j)=b.getD (4*i+j) 0::b.drop (4*i+j+1):=fun j hj=>by
   rw[List.drop_eq_getElem_cons hj,List.getD_eq_getElem?_getD,List.getElem?_eq_getElem hj];rfl
  have g0:=g 0 (by omega)
  rw[Nat.add_zero] at g0
  rw[g0,g 1 (by omega),g 2 (by omega),g 3 (by omega)]
  rfl
 rw[e]
 simp[beM,natM,be4W]
 done
theorem valueG {x:Nat} (hx:x<4294967296) {K:Int→Prop} (h:∀m:Nat,m=x→m<4294967296→K (m:Int)):∃x':Nat,Lf (wL x=wL x'∧x'<4294967296)∧∀n:Int,Lf (n=(x':Int))→K n:=
 valueI hx (h x rfl hx)
theorem sch_lt' (b:List UInt8):∀ (t j:Nat),(schM b t).getD j 0<4294967296:=fun t j=>sch_lt b t j
theorem getC6 {w:List Nat} {k j:Nat} (hk:k=j) (hj:j<w.length) {K:Int→Prop} (h:K (w.getD j 0:Nat)):∃n,(cells6M w).getD k AV.undef=AV.int .i64 n∧K n:=by
 refine ⟨_, ?_,h⟩
 subst hk
 rw[List.getD_eq_getElem?_getD,cells6M,List.getElem?_map,List.getElem?_eq_getElem hj,List.getD_eq_getElem?_getD,List.getElem?_eq_getElem hj]
 rfl
theorem rnd_eq {v:W8} {kk ww m2 m1 m0 m:Nat} (h2:m2=xorW (xorW (rotW 26 v.e) (rotW 21 v.e)) (rotW 7 v.e)) (h1:m1=xorW (andW v.e v.f) (andW (notW v.e) v.g)) (h0:m0=xorW (xorW (rotW 30 v.a) (rotW 19 v.a)) (rotW 10 v.a)) (h:m=xorW (xorW (andW v.a v.b) (andW v.a v.c)) (andW v.b v.c)) :
  [AV.int .i64 ((((v.h+m2+m1+kk+ww)%4294967296+(m0+m)%4294967296)%4294967296:Nat):Int),.int .i64 (v.a:Int),.int .i64 (v.b:Int),.int .i64 (v.c:Int),.int .i64 (((v.d+(v.h+m2+m1+kk+ww)%4294967296)%4294967296:Nat):Int),.int .i64 (v.e:Int),.int .i64 (v.f:Int),.int .i64 (v.g:Int)]=cel6 (rndW kk ww v):=by
 have e1:(v.h+m2+m1+kk+ww)%4294967296=oneW kk ww v:=by
  rw[oneW,x3W,←h2,←h1]
  unfold addW
  omega
 have e2:(m0+m)%4294967296=twoW v:=by
  rw[twoW,x3W,x3W,←h0,←h,addW]
 rw[e1,e2]
 rfl
theorem rnd_w8 {v:W8} (kk ww:Nat) (hv:okW8 v):okW8 (rndW kk ww v):=by
 obtain ⟨q1,q2,q3,q4,q5,q6,q7,q8⟩:=hv
 exact ⟨addW_lt _ _,q1,q2,q3,addW_lt _ _,q5,q6,q7⟩
theorem mixed_run (ss:List Nat) (b:List UInt8) (ks:List Nat) (v0:W8) (hv:okW8 v0) (hk:ks.length=64) (hk2:∀i,ks.getD i 0<4294967296) (hb:b.length=64) (Q:Out→List Blk→Gh→Prop) (hq:∀c0 c1 c2 c3,Q (.ret (.sl 4 8 0 8 1)) [c0,c1,c2,c3,⟨.grow,true,cel6 (hashM ks v0 b)⟩] {}):∃hv hb,goal_116 hv hb ss b ks v0 Q:=by
 obtain ⟨hv',hb',e'⟩:∃hv hb,goal_116 hv hb ss b ks v0 Q=_:=⟨_,_,vc_116 ss b ks v0 Q⟩
 refine ⟨hv',hb',e'.mpr ?_⟩
 clear e'
 refine ⟨.inl ⟨0,⟨rfl⟩,rfl,rfl,rfl,rfl,rfl,rfl,trivial⟩, ?_, ?_⟩
 ·rintro _ ⟨rfl⟩
  refine ⟨_,rfl,splitD (fun _ => ?_) (fun h=>absurd (show (0:Int)<64 by decide) h)⟩
  refine ⟨_,rfl,splitD (fun _ => ?_) (fun h=>absurd (show (0:Int)<16 by decide) h)⟩
  have e0:=be4_num b 0 (by omega)
  refine ⟨_,rfl,wrapI (by decide) (by decide) ⟨_,rfl,wrapI (by decide) (by decide) (wrapI (by decide) (by decide) (ckI (by simp;omega) ⟨(b.drop 0).take 4,rfl,⟨by rw[List.length_take];omega⟩, ?_⟩))⟩⟩
  rintro x ⟨hx⟩
  refine ⟨_,rfl,wrapI (by decide) (by decide) ⟨⟨trivial,rfl⟩,.inr ⟨[be4W b 0],⟨Nat.le_refl _,by simp,rfl⟩,by simp,rfl, ?_,rfl,rfl,rfl,rfl,rfl,trivial⟩⟩⟩
  rw[hx]
  exact congrArg (fun z=>[AV.int .i64 z]) e0
 rintro w ⟨h1,h2,h3⟩
 have hlt:∀j,w.getD j 0<4294967296:=fun j=>by rw[h3];exact sch_lt' b _ j
 refine ⟨_,rfl,splitD (fun h4 => ?_) (fun h4 => ?_)⟩
 ·refine ⟨_,rfl,splitD (fun h5 => ?_) (fun h5 => ?_)⟩
  ·refine ⟨_,rfl,wrapI (by omega) (by omega) ⟨_,rfl,wrapI (by omega) (by omega) (wrapI (by omega) (by omega) (ckI (by simp;omega) ⟨(b.drop (4*w.length)).take 4, ?_,⟨by rw[List.length_take];omega⟩, ?_⟩))⟩⟩
   ·rw[show (4*(w.length:Int)).toNat=4*w.length by omega,show (4*(w.length:Int)+4).toNat-4*w.length=4 by omega]
   rintro x ⟨hx⟩
   have e4:=be4_num b w.length (by omega)
   rw[←hx] at e4
   have hw:w++[be4W b (4*w.length)]=schM b (w.length+1):=by rw[schM,if_pos (by omega),←h3]
   refine ckI (by rw[c6_len];simp;omega) ⟨_,rfl,wrapI (by omega) (by omega) ⟨⟨trivial,rfl⟩,.inr ⟨w++[be4W b (4*w.length)],⟨by rw[List.length_append];omega,by rw[List.length_append,List.length_singleton];omega,by rw[List.length_append,List.length_singleton];exact hw⟩,by rw[List.length_append,List.length_singleton];omega,rfl, ?_,rfl,rfl,by rw[List.length_append,List.length_singleton],rfl,by rw[List.length_append,List.length_singleton];exact congrArg _ (by omega),trivial⟩⟩⟩
   rw[e4]
   exact c6_snoc _ _
  ·have g2:=hlt (w.length-2)
   have g7:=hlt (w.length-7)
   have g15:=hlt (w.length-15)
   have g16:=hlt (w.length-16)
   refine ⟨_,rfl,wrapI (by omega) (by omega) (ld6 rfl (j:=w.length-15) (by omega) (by omega) ⟨_,rfl,wrapI (by omega) (by omega) (ld6 rfl (j:=w.length-2) (by omega) (by omega) (wordI g15 ?_))⟩)⟩
   repeat (first
    | ((with_reducible refine ckI ?_ ?_);(focus (first | (rw[eqW];rfl) | (rw[c6_sub,eq_c6];simp;done) | (simp;done) | (rw[c6_len];simp;omega) | (simp;omega))))
    | ((with_reducible refine turnI ?_ ?_ ?_);(focus (first | assumption | exact rotW_lt _ _));(focus decide))
    | ((with_reducible refine moveI ?_ ?_ ?_);(focus (first | assumption | exact rotW_lt _ _));(focus decide))
    | with_reducible refine xorI ?_
    | with_reducible refine andI ?_
    | with_reducible refine notI ?_
    | ((with_reducible refine valueG ?_ ?_);(focus (first | exact xorW_lt _ _ | exact andW_lt _ _ | assumption));intro m hm hmb)
    | ((with_reducible refine sumI ?_ ?_);(focus omega))
    | ((with_reducible refine sum0I ?_ ?_);(focus omega))
    | with_reducible refine modI ?_
    | ((with_reducible refine wrapI ?_ ?_ ?_);(focus omega);(focus omega))
    | with_reducible refine ⟨_,rfl, ?_⟩
    | with_reducible refine ⟨rfl, ?_⟩)
   refine wordI g2 ⟨_,rfl,wrapI (by omega) (by omega) (ld6 rfl (j:=w.length-16) (by omega) (by omega) ⟨_,rfl,wrapI (by omega) (by omega) (ld6 rfl (j:=w.length-7) (by omega) (by omega) ?_)⟩)⟩
   have hw:schM b (w.length+1)=w++[nextW w w.length]:=by rw[schM,if_neg (by omega),←h3]
   generalize hx2:w.getD (w.length-2) 0=x2 at *
   generalize hx7:w.getD (w.length-7) 0=x7 at *
   generalize hx15:w.getD (w.length-15) 0=x15 at *
   generalize hx16:w.getD (w.length-16) 0=x16 at *
   repeat (first
    | ((with_reducible refine ckI ?_ ?_);(focus (first | (rw[eqW];rfl) | (rw[c6_sub,eq_c6];simp;done) | (simp;done) | (rw[c6_len];simp;omega) | (simp;omega))))
    | ((with_reducible refine turnI ?_ ?_ ?_);(focus (first | assumption | exact rotW_lt _ _));(focus decide))
    | ((with_reducible refine moveI ?_ ?_ ?_);(focus (first | assumption | exact rotW_lt _ _));(focus decide))
    | with_reducible refine xorI ?_
    | with_reducible refine andI ?_
    | with_reducible refine notI ?_
    | ((with_reducible refine valueG ?_ ?_);(focus (first | exact xorW_lt _ _ | exact andW_lt _ _ | assumption));intro m hm hmb)
    | ((with_reducible refine sumI ?_ ?_);(focus omega))
    | ((with_reducible refine sum0I ?_ ?_);(focus omega))
    | with_reducible refine modI ?_
    | ((with_reducible refine wrapI ?_ ?_ ?_);(focus omega);(focus omega))
    | with_reducible refine ⟨_,rfl, ?_⟩
    | with_reducible refine ⟨rfl, ?_⟩)
   rename_i m1 hm1 hmb1
   have a1:x3W (rotW 25 x15) (rotW 14 x15) (x15/8)=m1:=by rw[hm1];rfl
   have a2:x3W (rotW 15 x2) (rotW 13 x2) (x2/1024)=m:=by rw[hm];rfl
   have a3:(x16+x7+m1+m)%4294967296=nextW w w.length:=by
    rw[nextW,hx16,hx7,hx15,hx2,a1,a2]
    unfold addW
    omega
   rw[a3,c6_snoc]
   exact ⟨⟨trivial,rfl⟩,.inr ⟨w++[nextW w w.length],⟨by rw[List.length_append];omega,by rw[List.length_append,List.length_singleton];omega,by rw[List.length_append,List.length_singleton];exact hw.symm⟩,by rw[List.length_append,List.length_singleton];omega,rfl,rfl,rfl,rfl,by rw[List.length_append,List.length_singleton],rfl,by rw[List.length_append,List.length_singleton];exact congrArg _ (by omega),trivial⟩⟩
 ·have h64:w.length=64:=by omega
  obtain ⟨q1,q2,q3,q4,q5,q6,q7,q8⟩:=id hv
  have hk0:=hk2
  refine ⟨.inl ⟨0,⟨rfl⟩,rfl,rfl,rfl,rfl,rfl,rfl,rfl,rfl,trivial⟩, ?_, ?_⟩
  ·rintro _ ⟨rfl⟩
   refine ⟨_,rfl,splitD (fun _ => ?_) (fun h=>absurd (show (0:Int)<64 by decide) h)⟩
   repeat (first
    | ((with_reducible refine ckI ?_ ?_);(focus (first | (rw[eqW];rfl) | (rw[c6_sub,eq_c6];simp;done) | (simp;done) | (rw[c6_len];simp;omega) | (simp[eqAVL,eqAV,eq_c6];done) | (simp;omega))))
    | ((with_reducible refine turnI ?_ ?_ ?_);(focus (first | assumption | exact rotW_lt _ _));(focus decide))
    | ((with_reducible refine moveI ?_ ?_ ?_);(focus (first | assumption | exact rotW_lt _ _));(focus decide))
    | ((with_reducible refine wordI ?_ ?_);(focus assumption))
    | with_reducible refine xorI ?_
    | with_reducible refine andI ?_
    | with_reducible refine notI ?_
    | ((with_reducible refine valueG ?_ ?_);(focus (first | exact xorW_lt _ _ | exact andW_lt _ _ | assumption));intro m hm hmb)
    | ((with_reducible refine sumI ?_ ?_);(focus omega))
    | ((with_reducible refine sum0I ?_ ?_);(focus omega))
    | with_reducible refine modI ?_
    | ((with_reducible refine wrapI ?_ ?_ ?_);(focus omega);(focus omega))
    | with_reducible refine ⟨_,rfl, ?_⟩
    | with_reducible refine ⟨rfl, ?_⟩)
   refine getC6 (j:=0) rfl (by omega) ⟨_,rfl,ld6 rfl (j:=0) rfl (by omega) ?_⟩
   have ek:=hk2 0
   have ew:=hlt 0
   generalize hk':ks.getD 0 0=kk at *
   generalize hw':w.getD 0 0=ww at *
   repeat (first
    | ((with_reducible refine ckI ?_ ?_);(focus (first | (rw[eqW];rfl) | (rw[c6_sub,eq_c6];simp;done) | (simp;done) | (rw[c6_len];simp;omega) | (simp[eqAVL,eqAV,eq_c6];done) | (simp;omega))))
    | ((with_reducible refine turnI ?_ ?_ ?_);(focus (first | assumption | exact rotW_lt _ _));(focus decide))
    | ((with_reducible refine moveI ?_ ?_ ?_);(focus (first | assumption | exact rotW_lt _ _));(focus decide))
    | ((with_reducible refine wordI ?_ ?_);(focus assumption))
    | with_reducible refine xorI ?_
    | with_reducible refine andI ?_
    | with_reducible refine notI ?_
    | ((with_reducible refine valueG ?_ ?_);(focus (first | exact xorW_lt _ _ | exact andW_lt _ _ | assumption));intro m hm hmb)
    | ((with_reducible refine sumI ?_ ?_);(focus omega))
    | ((with_reducible refine sum0I ?_ ?_);(focus omega))
    | with_reducible refine modI ?_
    | ((with_reducible refine wrapI ?_ ?_ ?_);(focus omega);(focus omega))
    | with_reducible refine ⟨_,rfl, ?_⟩
    | with_reducible refine ⟨rfl, ?_⟩)
   rename_i m2 hm2 _ m1 hm1 _ m0 hm0 _
   have er:=rnd_eq (v:=v0) (kk:=kk) (ww:=ww) hm2 hm1 hm0 hm
   exact ⟨⟨trivial,rfl⟩,.inr ⟨(1,rndW kk ww v0),⟨Nat.le_refl _,by show 1≤64;decide,rnd_w8 _ _ hv,by rw[ws_c6,←hk',←hw'];rfl⟩,by show 64-1<100;decide,rfl,rfl,rfl,rfl,rfl,rfl,congrArg (AV.lst 0 · 8 1) er,rfl,trivial⟩⟩
  ·rintro ⟨i,v⟩ ⟨i1,i2,hv2,hr⟩
   dsimp only at i1 i2 hv2 hr
   dsimp only
   obtain ⟨r1,r2,r3,r4,r5,r6,r7,r8⟩:=id hv2
   refine ⟨_,rfl,splitD (fun h => ?_) (fun h => ?_)⟩
   ·have hi:i<64:=by omega
    have ek:=hk2 i
    have ew:=hlt i
    repeat (first
    | ((with_reducible refine ckI ?_ ?_);(focus (first | (rw[eqW];rfl) | (rw[c6_sub,eq_c6];simp;done) | (simp;done) | (rw[c6_len];simp;omega) | (simp[eqAVL,eqAV,eq_c6];done) | (simp;omega))))
    | ((with_reducible refine turnI ?_ ?_ ?_);(focus (first | assumption | exact rotW_lt _ _));(focus decide))
    | ((with_reducible refine moveI ?_ ?_ ?_);(focus (first | assumption | exact rotW_lt _ _));(focus decide))
    | ((with_reducible refine wordI ?_ ?_);(focus assumption))
    | with_reducible refine xorI ?_
    | with_reducible refine andI ?_
    | with_reducible refine notI ?_
    | ((with_reducible refine valueG ?_ ?_);(focus (first | exact xorW_lt _ _ | exact andW_lt _ _ | assumption));intro m hm hmb)
    | ((with_reducible refine sumI ?_ ?_);(focus omega))
    | ((with_reducible refine sum0I ?_ ?_);(focus omega))
    | with_reducible refine modI ?_
    | ((with_reducible refine wrapI ?_ ?_ ?_);(focus omega);(focus omega))
    | with_reducible refine ⟨_,rfl, ?_⟩
    | with_reducible refine ⟨rfl, ?_⟩)
    refine getC6 (j:=i) (by omega) (by omega) ⟨_,rfl,ld6 rfl (j:=i) rfl (by omega) ?_⟩
    generalize hk':ks.getD i 0=kk at *
    generalize hw':w.getD i 0=ww at *
    repeat (first
    | ((with_reducible refine ckI ?_ ?_);(focus (first | (rw[eqW];rfl) | (rw[c6_sub,eq_c6];simp;done) | (simp;done) | (rw[c6_len];simp;omega) | (simp[eqAVL,eqAV,eq_c6];done) | (simp;omega))))
    | ((with_reducible refine turnI ?_ ?_ ?_);(focus (first | assumption | exact rotW_lt _ _));(focus decide))
    | ((with_reducible refine moveI ?_ ?_ ?_);(focus (first | assumption | exact rotW_lt _ _));(focus decide))
    | ((with_reducible refine wordI ?_ ?_);(focus assumption))
    | with_reducible refine xorI ?_
    | with_reducible refine andI ?_
    | with_reducible refine notI ?_
    | ((with_reducible refine valueG ?_ ?_);(focus (first | exact xorW_lt _ _ | exact andW_lt _ _ | assumption));intro m hm hmb)
    | ((with_reducible refine sumI ?_ ?_);(focus omega))
    | ((with_reducible refine sum0I ?_ ?_);(focus omega))
    | with_reducible refine modI ?_
    | ((with_reducible refine wrapI ?_ ?_ ?_);(focus omega);(focus omega))
    | with_reducible refine ⟨_,rfl, ?_⟩
    | with_reducible refine ⟨rfl, ?_⟩)
    rename_i m2 hm2 _ m1 hm1 _ m0 hm0 _
    have er:=rnd_eq (v:=v) (kk:=kk) (ww:=ww) hm2 hm1 hm0 hm
    exact ⟨⟨trivial,rfl⟩,.inr ⟨(i+1,rndW kk ww v),⟨by show 1≤i+1;omega,hi,rnd_w8 _ _ hv2,by rw[ws_c6] at hr ⊢;show _=rndW (ks.getD i 0) (w.getD i 0) (rndsM ks w i v0);rw[hk',hw',←hr]⟩,by show 64-(i+1)<64-i;omega,rfl,rfl,rfl,rfl,rfl,rfl,congrArg (AV.lst 0 · 8 1) er,congrArg _ (by show (i:Int)+1=((i+1:Nat):Int);omega),trivial⟩⟩
   ·repeat (first
    | ((with_reducible refine ckI ?_ ?_);(focus (first | (rw[eqW];rfl) | (rw[c6_sub,eq_c6];simp;done) | (simp;done) | (rw[c6_len];simp;omega) | (simp[eqAVL,eqAV,eq_c6];done) | (simp;omega))))
    | ((with_reducible refine turnI ?_ ?_ ?_);(focus (first | assumption | exact rotW_lt _ _));(focus decide))
    | ((with_reducible refine moveI ?_ ?_ ?_);(focus (first | assumption | exact rotW_lt _ _));(focus decide))
    | ((with_reducible refine wordI ?_ ?_);(focus assumption))
    | with_reducible refine xorI ?_
    | with_reducible refine andI ?_
    | with_reducible refine notI ?_
    | ((with_reducible refine valueG ?_ ?_);(focus (first | exact xorW_lt _ _ | exact andW_lt _ _ | assumption));intro m hm hmb)
    | ((with_reducible refine sumI ?_ ?_);(focus omega))
    | ((with_reducible refine sum0I ?_ ?_);(focus omega))
    | with_reducible refine modI ?_
    | ((with_reducible refine wrapI ?_ ?_ ?_);(focus omega);(focus omega))
    | with_reducible refine ⟨_,rfl, ?_⟩
    | with_reducible refine ⟨rfl, ?_⟩)
    have hi:i=64:=by omega
    have hu:v=rndsM ks (schM b 64) 64 v0:=by rw[hr,ws_c6,hi,←h64,←h3]
    have:=hq ⟨.exact,true,[.lst 0 (cells6M ss) 8 1,.lst 0 (cells6M ks) 64 1]⟩ ⟨.grow,true,cells6M w⟩ ⟨.grow,true,cel6 v0⟩ ⟨.exact,true,[.int .i64 (((v0.a+v.a)%4294967296:Nat):Int)]⟩
    rw[hashM,←hu] at this
    exact this
theorem mixed_ok:ValidF Tryz.prog gl0 147 cMixed:=by
 refine valid_frz (enters_of (by kernel_rfl)) gl0_noY 9 id (fun a=>wk_refl a) fun args H Q hc => ?_
 unfold cMixed at hc
 split at hc
 ·rename_i sc kc hs b
  obtain ⟨v,⟨rfl,rfl,rfl,h1,h2⟩,hq⟩:=hc
  obtain ⟨hv,hb',h⟩:=mixed_run startM b kkM v h1 kk_ok.1 kk_ok.2 h2 (Q:=fun o H' _=>∃w,o=.ret w∧Q (.ret (id (frzV 0 H' 9 w))) H) (fun c0 c1 c2 c3=>⟨_,rfl,hq _ ⟨rfl⟩⟩)
  exact ⟨rfl,rfl,_,1000,envFor_116 _ _ _ _ _,rfl,h⟩
 ·exact hc.elim
theorem smAl_ok:∀f g,smAl f=some g→ValidF Tryz.prog gl0 f g:=lookS_ok _ (by simp only[List.mem_cons,List.not_mem_nil,or_false,forall_eq];exact mixed_ok)
theorem all_ok:ValidF Tryz.prog gl0 138 cAll:=by
 refine valid_flat (enters_of (by kernel_rfl)) gl0_noY fun args H Q hc => ?_
 unfold cAll at hc
 split at hc
 ·rename_i sc kc hs s
  obtain ⟨v,⟨rfl,rfl,rfl,h1,h2⟩,hq⟩:=hc
  obtain ⟨hv,hb',h⟩:=all_run v s h1 h2 (Q:=fun o H' _=>H'=[]∧(∃v,o=.ret v∧old 0 v=true∧noY v=true)∧Q o H) ⟨rfl,⟨_,rfl,rfl,rfl⟩,hq _ ⟨rfl⟩⟩
  exact ⟨rfl,rfl,_,1000,envFor18 smAl_ok _ _ _,rfl,h⟩
 ·exact hc.elim
theorem smSu_ok:∀f g,smSu f=some g→ValidF Tryz.prog gl0 f g:=lookS_ok _ (by simp only[List.mem_cons,List.not_mem_nil,or_false,forall_eq_or_imp,forall_eq];exact ⟨octs_ok,all_ok,closing_ok⟩)
theorem sum58_ok:ValidF Tryz.prog gl0 112 cSum58:=by
 refine valid_flat (enters_of (by kernel_rfl)) gl0_noY fun args H Q hc => ?_
 unfold cSum58 at hc
 split at hc
 ·rename_i sc kc s
  obtain ⟨⟨rfl,rfl,h2⟩,hq⟩:=hc
  obtain ⟨hv,hb',h⟩:=sum58_run s h2 (Q:=fun o H' _=>H'=[]∧(∃v,o=.ret v∧old 0 v=true∧noY v=true)∧Q o H) ⟨rfl,⟨_,rfl,rfl,rfl⟩,hq _ ⟨rfl⟩⟩
  exact ⟨rfl,rfl,_,1000,envFor18 smSu_ok _ _ _,rfl,h⟩
 ·exact hc.elim
end Go.Proofs.YtjenieljapmehaaGreatDoor

/-
  Chapter 18: the program's mix, proved.
-/
import Derived.Test.YtjenieljapmehaaGreatDoorG21F
set_option linter.unusedSimpArgs false
set_option linter.unusedVariables false
set_option linter.unusedSectionVars false
namespace Go.Proofs.YtjenieljapmehaaGreatDoor
open Go.RowKit
set_option maxRecDepth 1000000

theorem addW_lt (x y:Nat):addW x y<4294967296:=Nat.mod_lt _ (by omega)
theorem andW_lt (x y:Nat):andW x y<4294967296:=Nat.and_lt_two_pow (n:=32) _ (Nat.mod_lt _ (by omega))
theorem notW_lt (x:Nat):notW x<4294967296:=Nat.xor_lt_two_pow (n:=32) (by omega) (Nat.mod_lt _ (by omega))
theorem andW_w (x y:Nat):IntKind.wrap .u32 ((((x:Int)%4294967296).toNat &&& ((y:Int)%4294967296).toNat:Nat):Int)=((andW x y:Nat):Int):=by
 rw[mod32,mod32,u32_wrap]
 exact congrArg _ (bits32 (andW_lt x y))
theorem notW_w (x:Nat):IntKind.wrap .u32 ((4294967295 ^^^ ((x:Int)%4294967296).toNat:Nat):Int)=((notW x:Nat):Int):=by
 rw[mod32,u32_wrap]
 exact congrArg _ (bits32 (notW_lt x))
theorem fdiv8 (x:Nat):Int.fdiv (x:Int) 8=((x/8:Nat):Int):=by
 rw[Int.fdiv_eq_ediv_of_nonneg _ (by omega)]
 omega
theorem fdiv1024 (x:Nat):Int.fdiv (x:Int) 1024=((x/1024:Nat):Int):=by
 rw[Int.fdiv_eq_ediv_of_nonneg _ (by omega)]
 omega
theorem cells32_len (l:List Nat):(cells32M l).length=l.length:=by simp[cells32M]
theorem ld32 {l:List Nat} {j m:Nat} (hj:j<l.length) (hm:m=j) {K:Int→Prop} (hk:K ((l.getD j 0:Nat):Int)):∃n:Int,(List.take 1 (List.drop m (cells32M l))).getD 0 AV.undef=AV.int .u32 n∧K n:=by
 subst hm
 refine ⟨_, ?_,hk⟩
 rw[List.getD_eq_getElem?_getD,List.getElem?_take,if_pos (by omega),List.getElem?_drop,cells32M,List.getElem?_map,Nat.add_zero,List.getElem?_eq_getElem hj]
 simp[List.getD_eq_getElem?_getD,hj]
theorem st32 {L:List Nat} {j m x:Nat} (hj:j<L.length) (hm:m=j):setRange (cells32M L) m [AV.int .u32 (x:Int)]=cells32M (L.set j x):=by
 subst hm
 rw[List.set_eq_take_append_cons_drop,if_pos hj]
 simp[setRange,cells32M]
theorem eqAVL_32 (l:List Nat):eqAVL (cells32M l) (cells32M l)=true:=by
 induction l with
 | nil=>rfl
 | cons c s ih=>simp only[cells32M,List.map_cons,eqAVL,eqAV,decide_true,Bool.true_and] at ih ⊢;exact ih
theorem eq32 (l:List Nat) (m:Nat):eqAVL (List.take 1 (List.drop m (cells32M l))) (List.take 1 (List.drop m (cells32M l)))=true:=by
 rw[cells32M,←List.map_drop,←List.map_take]
 exact eqAVL_32 _
theorem ws32 (l:List Nat):wsM (cells32M l)=l:=by
 induction l with
 | nil=>rfl
 | cons c s ih=>simp only[wsM,cells32M,List.map_cons,unI,Int.toNat_natCast] at ih ⊢;rw[ih]
theorem old32 (n:Nat) (l:List Nat):oldL n (cells32M l)=true:=by
 induction l with
 | nil=>rfl
 | cons c s ih=>simp only[cells32M,List.map_cons,oldL,old,Bool.true_and] at ih ⊢;exact ih
theorem noY32 (l:List Nat):noYL (cells32M l)=true:=by
 induction l with
 | nil=>rfl
 | cons c s ih=>simp only[cells32M,List.map_cons,noYL,noY,Bool.true_and] at ih ⊢;exact ih
theorem rotI {x:Nat} {k:Int} {K:Nat→Prop} (hx:x<4294967296) (hk:rotOk k) (h:K (rotW (32+k).toNat x)):∃n:Nat,Lf ((x:Int)=(n:Int)∧n<4294967296∧rotOk k)∧∀r:Nat,Lf (r=rotW (32+k).toNat n)→K r:=
 ⟨x,⟨rfl,hx,hk⟩,fun r hr=>by rw[hr.h];exact h⟩
theorem be4_or {a b c d:Nat} (ha:a<256) (hb:b<256) (hc:c<256) (hd:d<256):(((a*16777216 ||| b*65536) ||| c*256) ||| d)=((a*256+b)*256+c)*256+d:=by
 have e1:=Nat.two_pow_add_eq_or_of_lt (i:=24) (b:=b*65536) (by omega) a
 have e2:=Nat.two_pow_add_eq_or_of_lt (i:=16) (b:=c*256) (by omega) (a*256+b)
 have e3:=Nat.two_pow_add_eq_or_of_lt (i:=8) (b:=d) (by omega) ((a*256+b)*256+c)
 rw[show a*16777216 ||| b*65536=(a*256+b)*65536 by rw[show a*16777216=2^24*a by omega,←e1];omega]
 rw[show (a*256+b)*65536 ||| c*256=((a*256+b)*256+c)*256 by rw[show (a*256+b)*65536=2^16*(a*256+b) by omega,←e2];omega]
 rw[show ((a*256+b)*256+c)*256=2^8*((a*256+b)*256+c) by omega,←e3]
theorem wr32 {x:Nat} (h:x<4294967296):IntKind.wrap .u32 (x:Int)=(x:Int):=by rw[u32_wrap,bits32 h]
theorem wrA {x:Nat} (h:x<256):IntKind.wrap .u32 ((x:Int)*16777216)=((x*16777216:Nat):Int):=by
 show (x:Int)*16777216%4294967296=_
 omega
theorem wrB {x:Nat} (h:x<256):IntKind.wrap .u32 ((x:Int)*65536)=((x*65536:Nat):Int):=by
 show (x:Int)*65536%4294967296=_
 omega
theorem wrC {x:Nat} (h:x<256):IntKind.wrap .u32 ((x:Int)*256)=((x*256:Nat):Int):=by
 show (x:Int)*256%4294967296=_
 omega
theorem or_lt32 {x y:Nat} (hx:x<4294967296) (hy:y<4294967296):x ||| y<4294967296:=Nat.or_lt_two_pow (n:=32) hx hy
theorem orW_w {x y:Nat} (hx:x<4294967296) (hy:y<4294967296):IntKind.wrap .u32 ((((x:Int)%4294967296).toNat ||| ((y:Int)%4294967296).toNat:Nat):Int)=((x ||| y:Nat):Int):=by
 rw[mod32,mod32,bits32 hx,bits32 hy,wr32 (Nat.or_lt_two_pow (n:=32) hx hy)]
theorem be4_lt (b:List UInt8) (i:Nat):be4W b i<4294967296:=by
 have h0:=(b.getD i 0).toNat_lt
 have h1:=(b.getD (i+1) 0).toNat_lt
 have h2:=(b.getD (i+2) 0).toNat_lt
 have h3:=(b.getD (i+3) 0).toNat_lt
 unfold be4W
 omega
theorem sch_len (b:List UInt8):∀t,(schM b t).length=t
 | 0=>rfl
 | t+1=>by rw[schM,List.length_append,sch_len b t];rfl
theorem sch_lt (b:List UInt8):∀t j,(schM b t).getD j 0<4294967296
 | 0,j=>by simp[schM]
 | t+1,j=>by
  rw[schM]
  by_cases h:j<t
  ·rw[List.getD_eq_getElem?_getD,List.getElem?_append_left (by rw[sch_len];exact h),←List.getD_eq_getElem?_getD]
   exact sch_lt b t j
  ·rw[List.getD_eq_getElem?_getD,List.getElem?_append_right (by rw[sch_len];omega),sch_len]
   rcases Nat.eq_zero_or_pos (j-t) with h0 | h0
   ·rw[h0]
    show (if t<16 then be4W b (4*t) else nextW (schM b t) t)<4294967296
    split
    ·exact be4_lt _ _
    ·exact addW_lt _ _
   ·rw[List.getElem?_eq_none (by simp;omega)]
    decide
theorem take_get {L K:List Nat} {i j:Nat} (h:L.take i=K) (hj:j<i):L.getD j 0=K.getD j 0:=by
 rw[←h,List.getD_eq_getElem?_getD,List.getD_eq_getElem?_getD,List.getElem?_take,if_pos hj]
theorem take_set1 {L:List Nat} {i x:Nat} (h:i<L.length):(L.set i x).take (i+1)=L.take i++[x]:=by
 rw[List.take_add_one,List.getElem?_set_self h,List.take_set_of_le (Nat.le_refl _)]
 rfl
theorem get_sub {b:List UInt8} {k j:Nat} (h:j<4):((b.drop k).take 4).getD j 0=b.getD (k+j) 0:=by
 rw[List.getD_eq_getElem?_getD,List.getElem?_take,if_pos h,List.getElem?_drop,←List.getD_eq_getElem?_getD]
theorem adds_ok (v u:W8):okW8 (addsM v u):=⟨addW_lt _ _,addW_lt _ _,addW_lt _ _,addW_lt _ _,addW_lt _ _,addW_lt _ _,addW_lt _ _,addW_lt _ _⟩
set_option maxHeartbeats 4000000 in
theorem mix_run (v:W8) (t:List UInt8) (n:Int) (s:List UInt8) (ks:List Nat) (hv:okW8 v) (hk:ks.length=64) (hk2:∀i,ks.getD i 0<4294967296) (hs:s.length≤9223372036854775807) (Q:Out→List Blk→Gh→Prop)
  (hq:∀v',v'=mixM ks (s.length/64) v s→okW8 v'→∀k,Q (.ret (.tup [])) [⟨.exact,true,celT v' t n⟩] k):∃hv hb,goal_154 hv hb v t n s ks Q:=by
 obtain ⟨hv',hb',e'⟩:∃hv hb,goal_154 hv hb v t n s ks Q=_:=⟨_,_,vc_154 v t n s ks Q⟩
 refine ⟨hv',hb',e'.mpr ?_⟩
 clear e'
 refine ⟨⟨(v,s),⟨hv,Nat.le_refl _,rfl⟩,rfl,rfl,ckI (by simp) ⟨rfl,rfl,rfl,rfl,trivial⟩⟩, ?_⟩
 rintro ⟨u,r⟩ ⟨hu,hr,hm⟩
 dsimp only at hu hr hm ⊢
 refine ⟨_,rfl,splitD (fun h64 => ?_) (fun h64 => ?_)⟩
 ·refine ckI (by rw[Nat.ble_eq];omega) ⟨r.take 64,by rw[List.drop_zero],⟨(0,List.replicate 64 0),⟨by dsimp only;omega,by simp,rfl⟩,rfl,rfl,ckI (by simp) ⟨rfl,rfl,rfl,rfl,rfl,rfl,rfl,rfl,trivial⟩⟩, ?_⟩
  rintro ⟨i,L⟩ ⟨hi,hL,hw⟩
  dsimp only at hi hL hw ⊢
  have hcl:(cells32M L).length=64:=by rw[cells32_len,hL]
  have hckl:(cells32M ks).length=64:=by rw[cells32_len,hk]
  have hO:∀m m',((oldL m (cells32M ks)||oldL m' (cells32M ks))&&true)=true:=fun m m'=>by rw[old32];rfl
  have hB:(oldL 0 (cells32M ks)==oldL 0 (cells32M ks))=true:=by simp
  have hlt:∀j,j<i→L.getD j 0<4294967296:=fun j hj=>by rw[take_get hw hj];exact sch_lt _ _ _
  refine splitD (fun h => ?_) (fun h => ?_)
  ·refine ⟨_,rfl,splitD (fun h16 => ?_) (fun h16 => ?_)⟩
   ·have hbl:(r.take 64).length=64:=by rw[List.length_take];omega
    have e4:((i:Int)*4).toNat=4*i:=by omega
    refine wrapI (by omega) (by omega) (wrapI (by omega) (by omega) (wrapI (by omega) (by omega) (ckI (by simp;omega) ⟨((r.take 64).drop (4*i)).take 4, ?_, ?_⟩)))
    ·rw[show (4*(i:Int)).toNat=4*i by omega,show (4*(i:Int)+4).toNat-4*i=4 by omega]
    ·have hsl:(((r.take 64).drop (4*i)).take 4).length=4:=by rw[List.length_take,List.length_drop,hbl];omega
     have h0:=UInt8.toNat_lt ((((r.take 64).drop (4*i)).take 4).getD 0 (UInt8.ofNat 0))
     have h1:=UInt8.toNat_lt ((((r.take 64).drop (4*i)).take 4).getD 1 (UInt8.ofNat 0))
     have h2:=UInt8.toNat_lt ((((r.take 64).drop (4*i)).take 4).getD 2 (UInt8.ofNat 0))
     have h3:=UInt8.toNat_lt ((((r.take 64).drop (4*i)).take 4).getD 3 (UInt8.ofNat 0))
     have hx:be4W (r.take 64) (4*i)=(((((((r.take 64).drop (4*i)).take 4).getD 0 (UInt8.ofNat 0)).toNat*16777216 ||| ((((r.take 64).drop (4*i)).take 4).getD 1 (UInt8.ofNat 0)).toNat*65536) ||| ((((r.take 64).drop (4*i)).take 4).getD 2 (UInt8.ofNat 0)).toNat*256) ||| ((((r.take 64).drop (4*i)).take 4).getD 3 (UInt8.ofNat 0)).toNat):=by
      rw[be4_or h0 h1 h2 h3]
      have g:∀j,j<4→(((r.take 64).drop (4*i)).take 4).getD j (UInt8.ofNat 0)=(r.take 64).getD (4*i+j) 0:=fun j hj=>get_sub hj
      rw[g 0 (by omega),g 1 (by omega),g 2 (by omega),g 3 (by omega)]
      rfl
     try dsimp only
     generalize ((((r.take 64).drop (4*i)).take 4).getD 0 (UInt8.ofNat 0)).toNat=c0 at *
     generalize ((((r.take 64).drop (4*i)).take 4).getD 1 (UInt8.ofNat 0)).toNat=c1 at *
     generalize ((((r.take 64).drop (4*i)).take 4).getD 2 (UInt8.ofNat 0)).toNat=c2 at *
     generalize ((((r.take 64).drop (4*i)).take 4).getD 3 (UInt8.ofNat 0)).toNat=c3 at *
     have k1:c0*16777216 ||| c1*65536<4294967296:=or_lt32 (by omega) (by omega)
     have k2:(c0*16777216 ||| c1*65536) ||| c2*256<4294967296:=or_lt32 k1 (by omega)
     refine ckI (by rw[hsl];rfl) ⟨_,rfl,_,congrArg (AV.int .u32) (wr32 (by omega)),_,congrArg (AV.int .u32) (wrA h0),ckI (by rw[hsl];rfl) ⟨_,rfl,_,congrArg (AV.int .u32) (wr32 (by omega)),_,congrArg (AV.int .u32) (wrB h1),_,congrArg (AV.int .u32) (orW_w (by omega) (by omega)),ckI (by rw[hsl];rfl) ⟨_,rfl,_,congrArg (AV.int .u32) (wr32 (by omega)),_,congrArg (AV.int .u32) (wrC h2),_,congrArg (AV.int .u32) (orW_w k1 (by omega)),ckI (by rw[hsl];rfl) ⟨_,rfl,_,congrArg (AV.int .u32) (wr32 (by omega)),_,congrArg (AV.int .u32) (orW_w k2 (by omega)), ?_⟩⟩⟩⟩
     rw[←hx]
     refine ckI (by rw[hcl];simp;omega) (ckI (by rw[hcl];simp;omega) (wrapI (by omega) (by omega) ⟨hO _ _,⟨rfl,rfl⟩,(i+1,L.set i (be4W (r.take 64) (4*i))),⟨by dsimp only;omega,by dsimp only;rw[List.length_set,hL], ?_⟩,by dsimp only;omega,rfl,rfl,ckI hB ⟨rfl,rfl,st32 (by omega) (by simp),rfl,rfl,rfl,rfl,rfl,trivial⟩⟩))
     dsimp only
     rw[take_set1 (by omega),hw,schM,if_pos (by omega)]
   ·refine wrapI (by omega) (by omega) (ckI (by rw[hcl];simp;omega) (ckI (by rw[hcl];simp;omega) (ld32 (j:=i-15) (by omega) (by omega) (wrapI (by omega) (by omega) (ckI (by rw[hcl];simp;omega) (ckI (by rw[hcl];simp;omega) (ld32 (j:=i-2) (by omega) (by omega) (wrapI (by omega) (by omega) (ckI (by rw[hcl];simp;omega) (ckI (by rw[hcl];simp;omega) (ld32 (j:=i-16) (by omega) (by omega) (wrapI (by omega) (by omega) (ckI (by rw[hcl];simp;omega) (ckI (by rw[hcl];simp;omega) (ld32 (j:=i-7) (by omega) (by omega) ?_)))))))))))))))
    have g15:=hlt (i-15) (by omega)
    have g2:=hlt (i-2) (by omega)
    have hx:nextW (schM (r.take 64) i) i=addW (addW (addW (L.getD (i-16) 0) (L.getD (i-7) 0)) (x3W (rotW 25 (L.getD (i-15) 0)) (rotW 14 (L.getD (i-15) 0)) (L.getD (i-15) 0/8))) (x3W (rotW 15 (L.getD (i-2) 0)) (rotW 13 (L.getD (i-2) 0)) (L.getD (i-2) 0/1024)):=by
     rw[nextW,take_get hw (show i-16<i by omega),take_get hw (show i-7<i by omega),take_get hw (show i-15<i by omega),take_get hw (show i-2<i by omega)]
    repeat (first
     | with_reducible refine ⟨_,congrArg (AV.int .u32) (addW_w _ _), ?_⟩
     | with_reducible refine ⟨_,congrArg (AV.int .u32) (xorW_w _ _), ?_⟩
     | with_reducible refine ⟨_,congrArg (AV.int .u32) (fdiv8 _), ?_⟩
     | with_reducible refine ⟨_,congrArg (AV.int .u32) (fdiv1024 _), ?_⟩
     | ((with_reducible refine rotI ?_ ?_ ?_);(focus assumption);(focus (unfold rotOk;decide)))
     | ((with_reducible refine ckI ?_ ?_);(focus (first | (rw[eq32];simp;done) | (rw[hcl];simp;omega) | (simp;done))))
     | ((with_reducible refine wrapI ?_ ?_ ?_);(focus omega);(focus omega))
     | with_reducible refine ⟨_,rfl, ?_⟩)
    refine ⟨hO _ _,⟨rfl,rfl⟩,(i+1,L.set i (nextW (schM (r.take 64) i) i)),⟨by dsimp only;omega,by dsimp only;rw[List.length_set,hL], ?_⟩,by dsimp only;omega,rfl,rfl,ckI hB ⟨rfl,rfl, ?_,rfl,rfl,rfl,rfl,rfl,trivial⟩⟩
    ·dsimp only
     rw[take_set1 (by omega),hw,schM,if_neg (by omega)]
    ·dsimp only
     rw[hx,←st32 (m:=0+Int.toNat (i:Int)*1) (by omega) (by simp)]
     rfl
  ·have hi64:i=64:=by omega
   subst hi64
   rw[List.take_of_length_le (by omega)] at hw
   refine ⟨_,_,_,_,_,_,_,_,rfl,⟨(0,u),⟨by dsimp only;omega,hu,rfl⟩,rfl,rfl,ckI hB ⟨rfl,rfl,rfl,rfl,rfl,rfl,rfl,rfl,rfl,trivial⟩⟩, ?_⟩
   rintro ⟨j,q⟩ ⟨hj,hqo,hqe⟩
   dsimp only at hj hqo hqe ⊢
   rw[ws32] at hqe
   obtain ⟨q1,q2,q3,q4,q5,q6,q7,q8⟩:=hqo
   refine splitD (fun h => ?_) (fun h => ?_)
   ·repeat (first
     | with_reducible refine ⟨_,congrArg (AV.int .u32) (addW_w _ _), ?_⟩
     | with_reducible refine ⟨_,congrArg (AV.int .u32) (xorW_w _ _), ?_⟩
     | with_reducible refine ⟨_,congrArg (AV.int .u32) (andW_w _ _), ?_⟩
     | with_reducible refine ⟨_,congrArg (AV.int .u32) (notW_w _), ?_⟩
     | ((with_reducible refine rotI ?_ ?_ ?_);(focus assumption);(focus (unfold rotOk;decide)))
     | ((with_reducible refine ckI ?_ ?_);(focus (first | (rw[eq32];simp;done) | (rw[hcl];simp;omega) | (rw[hckl];simp;omega) | (simp[eqAVL,eqAV];done))))
     | ((with_reducible refine ld32 (j:=j) ?_ ?_ ?_);(focus omega);(focus simp))
     | ((with_reducible refine wrapI ?_ ?_ ?_);(focus omega);(focus omega))
     | with_reducible refine ⟨_,rfl, ?_⟩)
    refine ⟨hO _ _,⟨rfl,rfl⟩,(j+1,rndW (ks.getD j 0) (L.getD j 0) q),⟨by dsimp only;omega,⟨addW_lt _ _,q1,q2,q3,addW_lt _ _,q5,q6,q7⟩, ?_⟩,by dsimp only;omega,rfl,rfl,ckI hB ⟨rfl,rfl,rfl,rfl,rfl,rfl,rfl,rfl,rfl,trivial⟩⟩
    dsimp only
    rw[ws32]
    show _=rndW (ks.getD j 0) (L.getD j 0) (rndsM ks L j _)
    rw[←hqe]
   ·have hj64:j=64:=by omega
    subst hj64
    repeat (first
     | with_reducible refine ⟨_,congrArg (AV.int .u32) (addW_w _ _), ?_⟩
     | with_reducible refine ⟨hO _ _, ?_⟩
     | ((with_reducible refine ckI ?_ ?_);(focus (simp;omega)))
     | with_reducible refine ⟨_,rfl, ?_⟩)
    have hd:(r.drop 64).length=r.length-64:=List.length_drop
    refine ⟨⟨rfl,rfl⟩,(addsM u q,r.drop 64),⟨adds_ok _ _,by dsimp only;omega, ?_⟩,by dsimp only;omega,rfl,rfl,ckI hB ⟨rfl, ?_,rfl,rfl,trivial⟩⟩
    ·dsimp only
     rw[←hm,hd,show r.length/64=(r.length-64)/64+1 by omega,mixM,if_pos (by omega),hashM,←hw]
     congr 2
    ·dsimp only
     rw[List.take_of_length_le (by omega)]
 ·have hO:∀m m',((oldL m (cells32M ks)||oldL m' (cells32M ks))&&true)=true:=fun m m'=>by rw[old32];rfl
  refine ⟨hO _ _,hq u ?_ hu _⟩
  rw[←hm,show r.length/64=0 by omega]
  rfl
end Go.Proofs.YtjenieljapmehaaGreatDoor

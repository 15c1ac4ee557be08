/-
  Chapter 24: read, of the kinds without lists.
-/
import Derived.Test.YtafchcmemeinlaaDoorC24XN
set_option linter.unusedSimpArgs false
set_option linter.unusedVariables false
set_option linter.unusedSectionVars false
namespace Go.Proofs.YtafchcmemeinlaaDoor
open Go.RowKit
set_option maxRecDepth 1000000

def ctK:AV→AV
 | .tup [.agg l,b]=>.tup [.agg (nlL [0,0,0,0,0,0,0,0,7,1,0,0,1] l),b]
 | v=>v
theorem bIp (a:AV):wk a (ctK a):=by
 unfold ctK
 split
 ·exact aYv (aB4 (aJe (yZ _ _)) (mI _))
 ·exact sF _
def aL2 (v:AV) (H:List Blk):AV:=ctK (dK 0 H 9 v)
def aF2 (l:List UInt8) (b:Bool):Bool := !b&&decide (l=[])
theorem uT:∀s:List UInt8,eqB s s=true
 | []=>rfl
 | x::s=>by simp[eqB,uT s]
theorem aOo (s:List UInt8):bK [AV.str s] [AV.str s]=true:=by
 simp[bK,iZ,uT]
theorem aG1 (l:List UInt8):eqB l []=decide (l=[]):=by cases l<;>rfl
theorem aM9 {l:List UInt8} {b:Bool} {P:Bool→Prop} (h:P (aF2 l b)):bif b then P false else bif eqB l [] then (bif bK [AV.str l] [AV.str l]&&true then P true else False) else (bif bK [AV.str l] [AV.str l]&&true then P false else False):=by
 unfold aF2 at h
 rw[aG1,aOo]
 cases b
 ·by_cases hl:l=[]
  ·rw[decide_eq_true hl] at h ⊢;exact h
  ·rw[decide_eq_false hl] at h ⊢;exact h
 ·exact h
theorem aMc {k:Nat} {l l':List UInt8} {b b':Bool} {n:Int} (h:tkM k l b=(n,l',b')) (hk:k≤3):0≤n∧n<16777216:=by
 unfold tkM at h
 split at h
 ·simp only[Prod.mk.injEq] at h;omega
 ·simp only[Prod.mk.injEq] at h
  have:=fM (l:=l.take k) (by rw[List.length_take];omega)
  omega
theorem jB (l:List Rc):dZ (aF l):=⟨(aA6 l).2,(aA6 l).1⟩
theorem vD {c i:Nat} {l l0 l7:List UInt8} {b b0 b7:Bool} {acc:List Rc} {r:Rc} (h:aTf c l b i acc l0 b0) (hi:i<c) (hr:gB l0 b0=(r,l7,b7)):aTf c l b (i+1) (acc++[r]) l7 b7:=by
 obtain ⟨h1,h2⟩:=h
 refine ⟨by simp[h1], ?_⟩
 rw[h2,show c-i=c-(i+1)+1 by omega,eU,hr]
 simp
theorem aDc {c:Nat} {l l7:List UInt8} {b b7:Bool} {r:Rc} (hi:0<c) (hr:gB l b=(r,l7,b7)):aTf c l b 1 [r] l7 b7:=by
 refine ⟨rfl, ?_⟩
 obtain ⟨n,rfl⟩:∃n,c=n+1:=⟨c-1,by omega⟩
 rw[eU,hr]
 rfl
theorem aP3 {c:Nat} {l l0:List UInt8} {b b0:Bool} {acc:List Rc} (h:aTf c l b c acc l0 b0):eU c l b=(acc,l0,b0):=by
 rw[h.2,Nat.sub_self];simp[eU]
theorem iT (acc:List Rc) (r:Rc):aF acc++oW r=aF (acc++[r]):=by simp[aF]
theorem aGf (l:List Rc):∀x∈aF l,aAn x=true:=by
 intro x hx
 simp only[aF,oW,List.mem_flatMap,List.mem_cons,List.not_mem_nil,or_false] at hx
 obtain ⟨r,_,h⟩:=hx
 rcases h with rfl | rfl | rfl | rfl | rfl | rfl | rfl<;>rfl
theorem bKb {H:List Blk} {k f a s1 s2 s3 s4 s5:Int} {acc:List Rc} {fl:Bool} (hH:H[4]? = some ⟨.grow,true,aF acc⟩) :
  aL2 (.tup [.agg [.int .i64 k,.int .i64 f,.int .i64 a,.int .i64 s1,.int .i64 s2,.int .i64 s3,.int .i64 s4,.int .i64 s5,.sl 4 (7*acc.length) 0 acc.length 7,.nils,.int .i64 0,.int .i64 0,.nils],.bool fl]) H=.tup [.agg (ctC ⟨k,f,a,s1,s2,s3,s4,s5,acc,[],0,0,[]⟩),.bool fl]:=by
 have e:dK 0 H 7 (.sl 4 (7*acc.length) 0 acc.length 7)=.lst 0 (aF acc) acc.length 7:=
  mE (d:=5) hH (bI acc) (by omega) (by simp) (by rw[List.drop_zero];exact List.take_of_length_le (by rw[bI];omega)) (aGf acc)
 show ctK (.tup [.agg [.int .i64 k,.int .i64 f,.int .i64 a,.int .i64 s1,.int .i64 s2,.int .i64 s3,.int .i64 s4,.int .i64 s5,dK 0 H 7 (.sl 4 (7*acc.length) 0 acc.length 7),.nils,.int .i64 0,.int .i64 0,.nils],.bool fl])=_
 rw[e]
 rfl
theorem rd_c (c:Nat) (s:List UInt8) (Q:Out→List Blk→Gh→Prop) (hq:∀n l b,tkM 4 s false=(n,l,b)→∀v,aL2 v []=.tup [.agg (ctC ⟨3,n,0,0,0,0,0,0,[],[],0,0,[]⟩),.bool (aF2 l b)]→Q (.ret v) [] {}):∃hv hb,vC hv hb c s Q:=by
 obtain ⟨hv,hb',e⟩:∃hv hb,vC hv hb c s Q=_:=⟨_,_,bHg c s Q⟩
 refine ⟨hv,hb',e.mpr ?_⟩
 delta aAb zT aDw aY2 aFs bL3 uJ
 clear e
 refine ⟨⟨by omega,by omega,gK ⟨rfl,rfl⟩ ⟨rfl,rfl⟩⟩, ?_⟩
 rintro n l b ⟨e⟩
 refine aM9 (P:=fun f=>Q (.ret (.tup [.agg _,.bool f])) [] {}) ?_
 exact hq n l b e _ rfl
theorem bRa (c:Nat) (s:List UInt8) (Q:Out→List Blk→Gh→Prop) (hq:∀n l b n1 l1 b1,tkM 4 s false=(n,l,b)→tkM 4 l b=(n1,l1,b1)→∀v,aL2 v []=.tup [.agg (ctC ⟨5,n,n1,0,0,0,0,0,[],[],0,0,[]⟩),.bool (aF2 l1 b1)]→Q (.ret v) [] {}):∃hv hb,uP hv hb c s Q:=by
 obtain ⟨hv,hb',e⟩:∃hv hb,uP hv hb c s Q=_:=⟨_,_,bGv c s Q⟩
 refine ⟨hv,hb',e.mpr ?_⟩
 delta aAb zT aDw aY2 aFs xO bL7 uJ
 clear e
 refine ⟨⟨by omega,by omega,gK ⟨rfl,rfl⟩ ⟨rfl,rfl⟩⟩, ?_⟩
 rintro n l b ⟨e⟩
 refine ⟨⟨by omega,by omega,gK ⟨rfl,rfl⟩ ⟨rfl,rfl⟩⟩, ?_⟩
 rintro n1 l1 b1 ⟨e1⟩
 refine aM9 (P:=fun f=>Q (.ret (.tup [.agg _,.bool f])) [] {}) ?_
 exact hq n l b n1 l1 b1 e e1 _ rfl
theorem bRr (c:Nat) (hc:c≤1000) (s:List UInt8) (Q:Out→List Blk→Gh→Prop) (hq:∀n l b rs l1 b1,tkM 4 s false=(n,l,b)→eU c l b=(rs,l1,b1)→∀v H,aL2 v H=.tup [.agg (ctC ⟨2,n,0,0,0,0,0,0,rs,[],0,0,[]⟩),.bool (aF2 l1 b1)]→Q (.ret v) H {}):∃hv hb,vB hv hb c s Q:=by
 obtain ⟨hv,hb',e⟩:∃hv hb,vB hv hb c s Q=_:=⟨_,_,bJs c s Q⟩
 refine ⟨hv,hb',e.mpr ?_⟩
 delta aAb zT aDw aY2 aFs aVd aTi bGc bMh xO aL0 aM0 aMq aLc bGd bMf uJ aTe bE1 zU zK zF bCi aLo bDz
 clear e
 refine ⟨⟨by omega,by omega,gK ⟨rfl,rfl⟩ ⟨rfl,rfl⟩⟩, ?_⟩
 rintro n l b ⟨e⟩
 refine ⟨.inl ⟨0,⟨rfl⟩,rfl,rfl,rfl,rfl,rfl,trivial⟩, ?_, ?_⟩
 ·rintro i ⟨hi⟩
  subst hi
  refine aD (fun h => ?_) (fun h => ?_)
  ·obtain ⟨l0,b0,hl0,hb0⟩:∃l0 b0,l0=l∧b0=b:=⟨_,_,rfl,rfl⟩
   subst hl0 hb0
   refine ⟨⟨by omega,by omega,gK ⟨rfl,rfl⟩ ⟨rfl,rfl⟩⟩, ?_⟩
   rintro x1 l1 b1 ⟨e1⟩
   refine ⟨⟨by omega,by omega,gK ⟨rfl,rfl⟩ ⟨rfl,rfl⟩⟩, ?_⟩
   rintro x2 l2 b2 ⟨e2⟩
   refine ⟨⟨by omega,by omega,lD ⟨rfl,rfl⟩ ⟨rfl,rfl⟩ ⟨rfl,rfl⟩⟩, ?_⟩
   rintro x3 l3 b3 ⟨e3⟩
   have hx3:=aMc e3 (by decide)
   refine aD (fun h3 => ?_) (fun h3 => ?_)
   ·refine aC (by omega) (by omega) ?_
    refine ⟨⟨by omega,by omega,lD ⟨rfl,rfl⟩ ⟨rfl,rfl⟩ ⟨rfl,rfl⟩⟩, ?_⟩
    rintro x4 l4 b4 ⟨e4⟩
    refine ⟨⟨by omega,by omega,lD ⟨rfl,rfl⟩ ⟨rfl,rfl⟩ ⟨rfl,rfl⟩⟩, ?_⟩
    rintro x5 l5 b5 ⟨e5⟩
    refine ⟨⟨by omega,by omega,lD ⟨rfl,rfl⟩ ⟨rfl,rfl⟩ ⟨rfl,rfl⟩⟩, ?_⟩
    rintro x6 l6 b6 ⟨e6⟩
    refine ⟨⟨by omega,by omega,lD ⟨rfl,rfl⟩ ⟨rfl,rfl⟩ ⟨rfl,rfl⟩⟩, ?_⟩
    rintro x7 l7 b7 ⟨e7⟩
    have hrd:gB l0 b0=((x1,x2,x3-16777216,x4,x5,x6,x7),l7,b7):=by
     have e1:=e1;have e2:=e2;have e3:=e3;have e4:=e4;have e5:=e5;have e6:=e6;have e7:=e7
     simp only[show Int.toNat 4=4 from rfl,show Int.toNat 1=1 from rfl,show Int.toNat 3=3 from rfl] at e1 e2 e3 e4 e5 e6 e7
     simp only[gB,e1,e2,e3,e4,e5,e6,e7]
     rw[if_pos (by omega)]
    exact aC (by omega) (by omega) ⟨⟨trivial,rfl⟩,.inr ⟨(1,[(x1,x2,x3-16777216,x4,x5,x6,x7)],l7,b7,_,_),⟨by simp,by dsimp only;omega,aDc (by omega) hrd,⟨rfl,rfl⟩,⟨rfl,rfl⟩⟩,by dsimp only;omega,rfl,rfl,rfl,rfl,rfl,rfl,rfl,rfl,trivial⟩⟩
   ·refine ⟨⟨by omega,by omega,lD ⟨rfl,rfl⟩ ⟨rfl,rfl⟩ ⟨rfl,rfl⟩⟩, ?_⟩
    rintro x4 l4 b4 ⟨e4⟩
    refine ⟨⟨by omega,by omega,lD ⟨rfl,rfl⟩ ⟨rfl,rfl⟩ ⟨rfl,rfl⟩⟩, ?_⟩
    rintro x5 l5 b5 ⟨e5⟩
    refine ⟨⟨by omega,by omega,lD ⟨rfl,rfl⟩ ⟨rfl,rfl⟩ ⟨rfl,rfl⟩⟩, ?_⟩
    rintro x6 l6 b6 ⟨e6⟩
    refine ⟨⟨by omega,by omega,lD ⟨rfl,rfl⟩ ⟨rfl,rfl⟩ ⟨rfl,rfl⟩⟩, ?_⟩
    rintro x7 l7 b7 ⟨e7⟩
    have hrd:gB l0 b0=((x1,x2,x3,x4,x5,x6,x7),l7,b7):=by
     have e1:=e1;have e2:=e2;have e3:=e3;have e4:=e4;have e5:=e5;have e6:=e6;have e7:=e7
     simp only[show Int.toNat 4=4 from rfl,show Int.toNat 1=1 from rfl,show Int.toNat 3=3 from rfl] at e1 e2 e3 e4 e5 e6 e7
     simp only[gB,e1,e2,e3,e4,e5,e6,e7]
     rw[if_neg (by omega)]
    exact aC (by omega) (by omega) ⟨⟨trivial,rfl⟩,.inr ⟨(1,[(x1,x2,x3,x4,x5,x6,x7)],l7,b7,_,_),⟨by simp,by dsimp only;omega,aDc (by omega) hrd,⟨rfl,rfl⟩,⟨rfl,rfl⟩⟩,by dsimp only;omega,rfl,rfl,rfl,rfl,rfl,rfl,rfl,rfl,trivial⟩⟩
  ·obtain rfl:c=0:=by omega
   refine aM9 (P:=fun f=>Q (.ret (.tup [.agg _,.bool f])) [] {}) ?_
   exact hq n l b [] _ _ e rfl _ _ rfl
 ·rintro ⟨i,acc,l0,b0,J1,J2⟩ ⟨g1,g2,g3,g4,g5⟩
  dsimp only at g1 g2 g3 g4 g5 ⊢
  have gl:=g3.1
  refine aD (fun h => ?_) (fun h => ?_)
  ·refine ⟨⟨by omega,by omega,aW6 ⟨rfl,rfl⟩ ⟨rfl,rfl⟩ g4 g5 (jB _)⟩, ?_⟩
   rintro x1 l1 b1 ⟨e1⟩
   refine ⟨⟨by omega,by omega,aW6 ⟨rfl,rfl⟩ ⟨rfl,rfl⟩ g4 g5 (jB _)⟩, ?_⟩
   rintro x2 l2 b2 ⟨e2⟩
   refine ⟨⟨by omega,by omega,lF ⟨rfl,rfl⟩ ⟨rfl,rfl⟩ g4 g5 (jB _) ⟨rfl,rfl⟩⟩, ?_⟩
   rintro x3 l3 b3 ⟨e3⟩
   have hx3:=aMc e3 (by decide)
   refine aD (fun h3 => ?_) (fun h3 => ?_)
   ·refine aC (by omega) (by omega) ?_
    refine ⟨⟨by omega,by omega,lF ⟨rfl,rfl⟩ ⟨rfl,rfl⟩ g4 g5 (jB _) ⟨rfl,rfl⟩⟩, ?_⟩
    rintro x4 l4 b4 ⟨e4⟩
    refine ⟨⟨by omega,by omega,lF ⟨rfl,rfl⟩ ⟨rfl,rfl⟩ g4 g5 (jB _) ⟨rfl,rfl⟩⟩, ?_⟩
    rintro x5 l5 b5 ⟨e5⟩
    refine ⟨⟨by omega,by omega,lF ⟨rfl,rfl⟩ ⟨rfl,rfl⟩ g4 g5 (jB _) ⟨rfl,rfl⟩⟩, ?_⟩
    rintro x6 l6 b6 ⟨e6⟩
    refine ⟨⟨by omega,by omega,lF ⟨rfl,rfl⟩ ⟨rfl,rfl⟩ g4 g5 (jB _) ⟨rfl,rfl⟩⟩, ?_⟩
    rintro x7 l7 b7 ⟨e7⟩
    have hrd:gB l0 b0=((x1,x2,x3-16777216,x4,x5,x6,x7),l7,b7):=by
     have e1:=e1;have e2:=e2;have e3:=e3;have e4:=e4;have e5:=e5;have e6:=e6;have e7:=e7
     simp only[show Int.toNat 4=4 from rfl,show Int.toNat 1=1 from rfl,show Int.toNat 3=3 from rfl] at e1 e2 e3 e4 e5 e6 e7
     simp only[gB,e1,e2,e3,e4,e5,e6,e7]
     rw[if_pos (by omega)]
    exact ckI (by simp[bI];omega) (aC (by omega) (by omega) ⟨⟨trivial,rfl⟩,.inr ⟨(i+1,acc++[(x1,x2,x3-16777216,x4,x5,x6,x7)],l7,b7,J1,J2),⟨by simp,by dsimp only;omega,vD g3 (by omega) hrd,g4,g5⟩,by dsimp only;omega,rfl,by simp[Nat.mul_add],rfl,rfl,iT acc (x1,x2,x3-16777216,x4,x5,x6,x7),rfl,rfl,rfl,trivial⟩⟩)
   ·refine ⟨⟨by omega,by omega,lF ⟨rfl,rfl⟩ ⟨rfl,rfl⟩ g4 g5 (jB _) ⟨rfl,rfl⟩⟩, ?_⟩
    rintro x4 l4 b4 ⟨e4⟩
    refine ⟨⟨by omega,by omega,lF ⟨rfl,rfl⟩ ⟨rfl,rfl⟩ g4 g5 (jB _) ⟨rfl,rfl⟩⟩, ?_⟩
    rintro x5 l5 b5 ⟨e5⟩
    refine ⟨⟨by omega,by omega,lF ⟨rfl,rfl⟩ ⟨rfl,rfl⟩ g4 g5 (jB _) ⟨rfl,rfl⟩⟩, ?_⟩
    rintro x6 l6 b6 ⟨e6⟩
    refine ⟨⟨by omega,by omega,lF ⟨rfl,rfl⟩ ⟨rfl,rfl⟩ g4 g5 (jB _) ⟨rfl,rfl⟩⟩, ?_⟩
    rintro x7 l7 b7 ⟨e7⟩
    have hrd:gB l0 b0=((x1,x2,x3,x4,x5,x6,x7),l7,b7):=by
     have e1:=e1;have e2:=e2;have e3:=e3;have e4:=e4;have e5:=e5;have e6:=e6;have e7:=e7
     simp only[show Int.toNat 4=4 from rfl,show Int.toNat 1=1 from rfl,show Int.toNat 3=3 from rfl] at e1 e2 e3 e4 e5 e6 e7
     simp only[gB,e1,e2,e3,e4,e5,e6,e7]
     rw[if_neg (by omega)]
    exact ckI (by simp[bI];omega) (aC (by omega) (by omega) ⟨⟨trivial,rfl⟩,.inr ⟨(i+1,acc++[(x1,x2,x3,x4,x5,x6,x7)],l7,b7,J1,J2),⟨by simp,by dsimp only;omega,vD g3 (by omega) hrd,g4,g5⟩,by dsimp only;omega,rfl,by simp[Nat.mul_add],rfl,rfl,iT acc (x1,x2,x3,x4,x5,x6,x7),rfl,rfl,rfl,trivial⟩⟩)
  ·obtain rfl:i=(c:Int).toNat:=by omega
   rw[Int.toNat_natCast] at g3
   exact aM9 (P:=fun f=>Q (.ret (.tup [.agg _,.bool f])) _ {}) (hq n l b acc _ _ e (aP3 g3) _ _ (bKb rfl))
theorem bRp (c:Nat) (hc:c≤1000) (s:List UInt8) (Q:Out→List Blk→Gh→Prop) (hq:∀n l b n1 n2 n3 n4 n5 l1 b1 l2 b2 l3 b3 l4 b4 l5 b5 rs l6 b6,(tkM 4 s false=(n,l,b)∧tkM 4 l b=(n1,l1,b1)∧tkM 4 l1 b1=(n2,l2,b2)∧tkM 4 l2 b2=(n3,l3,b3)∧tkM 4 l3 b3=(n4,l4,b4)∧tkM 4 l4 b4=(n5,l5,b5))→eU c l5 b5=(rs,l6,b6)→∀v H,aL2 v H=.tup [.agg (ctC ⟨1,n,0,n1,n2,n3,n4,n5,rs,[],0,0,[]⟩),.bool (aF2 l6 b6)]→Q (.ret v) H {}):∃hv hb,vF hv hb c s Q:=by
 obtain ⟨hv,hb',e⟩:∃hv hb,vF hv hb c s Q=_:=⟨_,_,bIe c s Q⟩
 refine ⟨hv,hb',e.mpr ?_⟩
 delta aAb zT aDw aY2 aFs xO aVd aTi bGc bL5 aL0 aM0 aMq aLc bGd aWd uJ aTe bAg zU zK zF aLo
 clear e
 refine ⟨⟨by omega,by omega,gK ⟨rfl,rfl⟩ ⟨rfl,rfl⟩⟩, ?_⟩
 rintro n l b ⟨e⟩
 refine ⟨⟨by omega,by omega,gK ⟨rfl,rfl⟩ ⟨rfl,rfl⟩⟩, ?_⟩
 rintro m1 k1 c1 ⟨d1⟩
 refine ⟨⟨by omega,by omega,gK ⟨rfl,rfl⟩ ⟨rfl,rfl⟩⟩, ?_⟩
 rintro m2 k2 c2 ⟨d2⟩
 refine ⟨⟨by omega,by omega,gK ⟨rfl,rfl⟩ ⟨rfl,rfl⟩⟩, ?_⟩
 rintro m3 k3 c3 ⟨d3⟩
 refine ⟨⟨by omega,by omega,gK ⟨rfl,rfl⟩ ⟨rfl,rfl⟩⟩, ?_⟩
 rintro m4 k4 c4 ⟨d4⟩
 refine ⟨⟨by omega,by omega,gK ⟨rfl,rfl⟩ ⟨rfl,rfl⟩⟩, ?_⟩
 rintro m5 k5 c5 ⟨d5⟩
 refine ⟨.inl ⟨0,⟨rfl⟩,rfl,rfl,rfl,rfl,rfl,trivial⟩, ?_, ?_⟩
 ·rintro i ⟨hi⟩
  subst hi
  refine aD (fun h => ?_) (fun h => ?_)
  ·obtain ⟨l0,b0,hl0,hb0⟩:∃l0 b0,l0=k5∧b0=c5:=⟨_,_,rfl,rfl⟩
   subst hl0 hb0
   refine ⟨⟨by omega,by omega,gK ⟨rfl,rfl⟩ ⟨rfl,rfl⟩⟩, ?_⟩
   rintro x1 l1 b1 ⟨e1⟩
   refine ⟨⟨by omega,by omega,gK ⟨rfl,rfl⟩ ⟨rfl,rfl⟩⟩, ?_⟩
   rintro x2 l2 b2 ⟨e2⟩
   refine ⟨⟨by omega,by omega,lD ⟨rfl,rfl⟩ ⟨rfl,rfl⟩ ⟨rfl,rfl⟩⟩, ?_⟩
   rintro x3 l3 b3 ⟨e3⟩
   have hx3:=aMc e3 (by decide)
   refine aD (fun h3 => ?_) (fun h3 => ?_)
   ·refine aC (by omega) (by omega) ?_
    refine ⟨⟨by omega,by omega,lD ⟨rfl,rfl⟩ ⟨rfl,rfl⟩ ⟨rfl,rfl⟩⟩, ?_⟩
    rintro x4 l4 b4 ⟨e4⟩
    refine ⟨⟨by omega,by omega,lD ⟨rfl,rfl⟩ ⟨rfl,rfl⟩ ⟨rfl,rfl⟩⟩, ?_⟩
    rintro x5 l5 b5 ⟨e5⟩
    refine ⟨⟨by omega,by omega,lD ⟨rfl,rfl⟩ ⟨rfl,rfl⟩ ⟨rfl,rfl⟩⟩, ?_⟩
    rintro x6 l6 b6 ⟨e6⟩
    refine ⟨⟨by omega,by omega,lD ⟨rfl,rfl⟩ ⟨rfl,rfl⟩ ⟨rfl,rfl⟩⟩, ?_⟩
    rintro x7 l7 b7 ⟨e7⟩
    have hrd:gB l0 b0=((x1,x2,x3-16777216,x4,x5,x6,x7),l7,b7):=by
     have e1:=e1;have e2:=e2;have e3:=e3;have e4:=e4;have e5:=e5;have e6:=e6;have e7:=e7
     simp only[show Int.toNat 4=4 from rfl,show Int.toNat 1=1 from rfl,show Int.toNat 3=3 from rfl] at e1 e2 e3 e4 e5 e6 e7
     simp only[gB,e1,e2,e3,e4,e5,e6,e7]
     rw[if_pos (by omega)]
    exact aC (by omega) (by omega) ⟨⟨trivial,rfl⟩,.inr ⟨(1,[(x1,x2,x3-16777216,x4,x5,x6,x7)],l7,b7,_,_),⟨by simp,by dsimp only;omega,aDc (by omega) hrd,⟨rfl,rfl⟩,⟨rfl,rfl⟩⟩,by dsimp only;omega,rfl,rfl,rfl,rfl,rfl,rfl,rfl,rfl,trivial⟩⟩
   ·refine ⟨⟨by omega,by omega,lD ⟨rfl,rfl⟩ ⟨rfl,rfl⟩ ⟨rfl,rfl⟩⟩, ?_⟩
    rintro x4 l4 b4 ⟨e4⟩
    refine ⟨⟨by omega,by omega,lD ⟨rfl,rfl⟩ ⟨rfl,rfl⟩ ⟨rfl,rfl⟩⟩, ?_⟩
    rintro x5 l5 b5 ⟨e5⟩
    refine ⟨⟨by omega,by omega,lD ⟨rfl,rfl⟩ ⟨rfl,rfl⟩ ⟨rfl,rfl⟩⟩, ?_⟩
    rintro x6 l6 b6 ⟨e6⟩
    refine ⟨⟨by omega,by omega,lD ⟨rfl,rfl⟩ ⟨rfl,rfl⟩ ⟨rfl,rfl⟩⟩, ?_⟩
    rintro x7 l7 b7 ⟨e7⟩
    have hrd:gB l0 b0=((x1,x2,x3,x4,x5,x6,x7),l7,b7):=by
     have e1:=e1;have e2:=e2;have e3:=e3;have e4:=e4;have e5:=e5;have e6:=e6;have e7:=e7
     simp only[show Int.toNat 4=4 from rfl,show Int.toNat 1=1 from rfl,show Int.toNat 3=3 from rfl] at e1 e2 e3 e4 e5 e6 e7
     simp only[gB,e1,e2,e3,e4,e5,e6,e7]
     rw[if_neg (by omega)]
    exact aC (by omega) (by omega) ⟨⟨trivial,rfl⟩,.inr ⟨(1,[(x1,x2,x3,x4,x5,x6,x7)],l7,b7,_,_),⟨by simp,by dsimp only;omega,aDc (by omega) hrd,⟨rfl,rfl⟩,⟨rfl,rfl⟩⟩,by dsimp only;omega,rfl,rfl,rfl,rfl,rfl,rfl,rfl,rfl,trivial⟩⟩
  ·obtain rfl:c=0:=by omega
   refine aM9 (P:=fun f=>Q (.ret (.tup [.agg _,.bool f])) [] {}) ?_
   exact hq n l b m1 m2 m3 m4 m5 k1 c1 k2 c2 k3 c3 k4 c4 _ _ [] _ _ ⟨e,d1,d2,d3,d4,d5⟩ rfl _ _ rfl
 ·rintro ⟨i,acc,l0,b0,J1,J2⟩ ⟨g1,g2,g3,g4,g5⟩
  dsimp only at g1 g2 g3 g4 g5 ⊢
  have gl:=g3.1
  refine aD (fun h => ?_) (fun h => ?_)
  ·refine ⟨⟨by omega,by omega,aW6 ⟨rfl,rfl⟩ ⟨rfl,rfl⟩ g4 g5 (jB _)⟩, ?_⟩
   rintro x1 l1 b1 ⟨e1⟩
   refine ⟨⟨by omega,by omega,aW6 ⟨rfl,rfl⟩ ⟨rfl,rfl⟩ g4 g5 (jB _)⟩, ?_⟩
   rintro x2 l2 b2 ⟨e2⟩
   refine ⟨⟨by omega,by omega,lF ⟨rfl,rfl⟩ ⟨rfl,rfl⟩ g4 g5 (jB _) ⟨rfl,rfl⟩⟩, ?_⟩
   rintro x3 l3 b3 ⟨e3⟩
   have hx3:=aMc e3 (by decide)
   refine aD (fun h3 => ?_) (fun h3 => ?_)
   ·refine aC (by omega) (by omega) ?_
    refine ⟨⟨by omega,by omega,lF ⟨rfl,rfl⟩ ⟨rfl,rfl⟩ g4 g5 (jB _) ⟨rfl,rfl⟩⟩, ?_⟩
    rintro x4 l4 b4 ⟨e4⟩
    refine ⟨⟨by omega,by omega,lF ⟨rfl,rfl⟩ ⟨rfl,rfl⟩ g4 g5 (jB _) ⟨rfl,rfl⟩⟩, ?_⟩
    rintro x5 l5 b5 ⟨e5⟩
    refine ⟨⟨by omega,by omega,lF ⟨rfl,rfl⟩ ⟨rfl,rfl⟩ g4 g5 (jB _) ⟨rfl,rfl⟩⟩, ?_⟩
    rintro x6 l6 b6 ⟨e6⟩
    refine ⟨⟨by omega,by omega,lF ⟨rfl,rfl⟩ ⟨rfl,rfl⟩ g4 g5 (jB _) ⟨rfl,rfl⟩⟩, ?_⟩
    rintro x7 l7 b7 ⟨e7⟩
    have hrd:gB l0 b0=((x1,x2,x3-16777216,x4,x5,x6,x7),l7,b7):=by
     have e1:=e1;have e2:=e2;have e3:=e3;have e4:=e4;have e5:=e5;have e6:=e6;have e7:=e7
     simp only[show Int.toNat 4=4 from rfl,show Int.toNat 1=1 from rfl,show Int.toNat 3=3 from rfl] at e1 e2 e3 e4 e5 e6 e7
     simp only[gB,e1,e2,e3,e4,e5,e6,e7]
     rw[if_pos (by omega)]
    exact ckI (by simp[bI];omega) (aC (by omega) (by omega) ⟨⟨trivial,rfl⟩,.inr ⟨(i+1,acc++[(x1,x2,x3-16777216,x4,x5,x6,x7)],l7,b7,J1,J2),⟨by simp,by dsimp only;omega,vD g3 (by omega) hrd,g4,g5⟩,by dsimp only;omega,rfl,by simp[Nat.mul_add],rfl,rfl,iT acc (x1,x2,x3-16777216,x4,x5,x6,x7),rfl,rfl,rfl,trivial⟩⟩)
   ·refine ⟨⟨by omega,by omega,lF ⟨rfl,rfl⟩ ⟨rfl,rfl⟩ g4 g5 (jB _) ⟨rfl,rfl⟩⟩, ?_⟩
    rintro x4 l4 b4 ⟨e4⟩
    refine ⟨⟨by omega,by omega,lF ⟨rfl,rfl⟩ ⟨rfl,rfl⟩ g4 g5 (jB _) ⟨rfl,rfl⟩⟩, ?_⟩
    rintro x5 l5 b5 ⟨e5⟩
    refine ⟨⟨by omega,by omega,lF ⟨rfl,rfl⟩ ⟨rfl,rfl⟩ g4 g5 (jB _) ⟨rfl,rfl⟩⟩, ?_⟩
    rintro x6 l6 b6 ⟨e6⟩
    refine ⟨⟨by omega,by omega,lF ⟨rfl,rfl⟩ ⟨rfl,rfl⟩ g4 g5 (jB _) ⟨rfl,rfl⟩⟩, ?_⟩
    rintro x7 l7 b7 ⟨e7⟩
    have hrd:gB l0 b0=((x1,x2,x3,x4,x5,x6,x7),l7,b7):=by
     have e1:=e1;have e2:=e2;have e3:=e3;have e4:=e4;have e5:=e5;have e6:=e6;have e7:=e7
     simp only[show Int.toNat 4=4 from rfl,show Int.toNat 1=1 from rfl,show Int.toNat 3=3 from rfl] at e1 e2 e3 e4 e5 e6 e7
     simp only[gB,e1,e2,e3,e4,e5,e6,e7]
     rw[if_neg (by omega)]
    exact ckI (by simp[bI];omega) (aC (by omega) (by omega) ⟨⟨trivial,rfl⟩,.inr ⟨(i+1,acc++[(x1,x2,x3,x4,x5,x6,x7)],l7,b7,J1,J2),⟨by simp,by dsimp only;omega,vD g3 (by omega) hrd,g4,g5⟩,by dsimp only;omega,rfl,by simp[Nat.mul_add],rfl,rfl,iT acc (x1,x2,x3,x4,x5,x6,x7),rfl,rfl,rfl,trivial⟩⟩)
  ·obtain rfl:i=(c:Int).toNat:=by omega
   rw[Int.toNat_natCast] at g3
   exact aM9 (P:=fun f=>Q (.ret (.tup [.agg _,.bool f])) _ {}) (hq n l b m1 m2 m3 m4 m5 k1 c1 k2 c2 k3 c3 k4 c4 _ _ acc _ _ ⟨e,d1,d2,d3,d4,d5⟩ (aP3 g3) _ _ (bKb rfl))
end Go.Proofs.YtafchcmemeinlaaDoor

set_option linter.unusedSimpArgs false
set_option linter.unusedVariables false
set_option linter.unusedSectionVars false
namespace Go.Proofs.YtafchcmemeinlaaDoor
open Go.RowKit
set_option maxRecDepth 1000000

def mbM (base mask:Int):Nat→List Int
 | 0=>[]
 | k+1=>mbM base mask k++(if mask/2^k%2=1 then [(base+1+(k:Int))%65536] else [])
def gZ:Nat→List UInt8→Bool→List Int×List UInt8×Bool
 | 0,l,b=>([],l,b)
 | n+1,l,b=>if l.length>0∧b=false then
   (((tkM 2 l b).1::mbM (tkM 2 l b).1 (tkM 2 (tkM 2 l b).2.1 (tkM 2 l b).2.2).1 16)++(gZ n (tkM 2 (tkM 2 l b).2.1 (tkM 2 l b).2.2).2.1 (tkM 2 (tkM 2 l b).2.1 (tkM 2 l b).2.2).2.2).1,(gZ n (tkM 2 (tkM 2 l b).2.1 (tkM 2 l b).2.2).2.1 (tkM 2 (tkM 2 l b).2.1 (tkM 2 l b).2.2).2.2).2)
  else ([],l,b)
def bFr (l0:List UInt8) (b0:Bool) (acc:List Int) (l:List UInt8) (b:Bool):Prop:=acc.length+17*l.length≤17*l0.length∧∃f,l.length≤f∧gZ l0.length l0 b0=(acc++(gZ f l b).1,(gZ f l b).2)
def bHz (s:S):List (List LInv):=match s.hp with
 | [⟨_,_,z⟩,⟨_,_,[c0,c1,c2,c3,c4,c5,c6,c7,c8,_,c10,c11,c12,.str l0,.bool b0]⟩]=>[[
  { α:=Nat,pre:=fun i=>Lf (i=0),st:=fun i=>⟨mkT [(0,.ptr 1 15 0)],s.hp⟩,mu:=fun i=>l0.length+1 },
  { α:=List Int×List UInt8×Bool,pre:=fun x=>Lf (1≤x.1.length∧bFr l0 b0 x.1 x.2.1 x.2.2),st:=fun x=>⟨mkT [(0,.ptr 1 15 0)],[⟨.exact,true,z⟩,⟨.exact,false,[c0,c1,c2,c3,c4,c5,c6,c7,c8,.sl 2 x.1.length 0 x.1.length 1,c10,c11,c12,.str x.2.1,.bool x.2.2]⟩,⟨.grow,true,aA x.1⟩]⟩,mu:=fun x=>x.2.1.length }]]
 | _=>[]
def bBb (s:S):List (List LInv):=match s.tm.get 2,s.tm.get 3,s.hp with
 | .int _ base,.int _ mask,[⟨_,_,z⟩,⟨_,_,[c0,c1,c2,c3,c4,c5,c6,c7,c8,.sl _ tot _ _ _,c10,c11,c12,.str l0,.bool b0]⟩,⟨_,_,g⟩]=>[[
  { α:=Nat,pre:=fun i=>Lf (i≤16),st:=fun i=>⟨mkT [(0,.ptr 1 15 0),(2,.int .i64 base),(3,.int .i64 mask),(34,.int .i64 (i:Nat))],[⟨.exact,true,z⟩,⟨.exact,false,[c0,c1,c2,c3,c4,c5,c6,c7,c8,.sl 2 (tot+(mbM base mask i).length) 0 (tot+(mbM base mask i).length) 1,c10,c11,c12,.str l0,.bool b0]⟩,⟨.grow,true,g++aA (mbM base mask i)⟩]⟩,mu:=fun i=>16-i }]]
 | _,_,_=>[]
noncomputable def aHd (hv:Nat→Option Pa) (hb:Nat→Option Bool):Env:=e24 bMt (fun i=>bif Nat.beq i 60000 then some bHz else bif Nat.beq i 60002 then some bBb else none) hv hb
noncomputable def aCy (hv:Nat→Option Pa) (hb:Nat→Option Bool) (s:List UInt8) (Q:Out→List Blk→Gh→Prop):Prop:=
 bH (aHd hv hb) (wpx (aHd hv hb) 1000) 38 [.int .i64 205,.int .i64 1,.str s] [] {} Q
def aCi:Prop:=(
((((AV.int .i64 (0:Int))::((AV.int .i64 (0:Int))::((AV.int .i64 (0:Int))::((AV.int .i64 (0:Int))::((AV.int .i64 (0:Int))::((AV.int .i64 (0:Int))::((AV.int .i64 (0:Int))::((AV.int .i64 (0:Int))::(AV.nils::(AV.nils::((AV.int .i64 (0:Int))::((AV.int .i64 (0:Int))::(AV.nils::[])))))))))))))=((AV.int .i64 (0:Int))::((AV.int .i64 (0:Int))::((AV.int .i64 (0:Int))::((AV.int .i64 (0:Int))::((AV.int .i64 (0:Int))::((AV.int .i64 (0:Int))::((AV.int .i64 (0:Int))::((AV.int .i64 (0:Int))::(AV.nils::(AV.nils::((AV.int .i64 (0:Int))::((AV.int .i64 (0:Int))::(AV.nils::[])))))))))))))) ∧
 False))
abbrev sH (x_6:List Int×List UInt8×Bool) (Q:Out→List Blk→Gh→Prop) (n_0:Int) (n_3:Int):Prop:=
bif x_6.2.2 then Q (.ret (.tup [.agg [.int .i64 4,.int .i64 n_0,.int .i64 n_3,.int .i64 0,.int .i64 0,.int .i64 0,.int .i64 0,.int .i64 0,.nils,.sl 2 x_6.1.length 0 x_6.1.length 1,.int .i64 0,.int .i64 0,.nils],.bool false]))
 [Blk.mk BK.exact false [.int .i64 4,.int .i64 n_0,.int .i64 n_3,.int .i64 0,.int .i64 0,.int .i64 0,.int .i64 0,.int .i64 0,.nils,.sl 2 x_6.1.length 0 x_6.1.length 1,.int .i64 0,.int .i64 0,.nils],Blk.mk BK.exact false [.int
 .i64 4,.int .i64 n_0,.int .i64 n_3,.int .i64 0,.int .i64 0,.int .i64 0,.int .i64 0,.int .i64 0,.nils,.sl 2 x_6.1.length 0 x_6.1.length 1,.int .i64 0,.int .i64 0,.nils,.str x_6.2.1,.bool x_6.2.2],Blk.mk BK.grow true (aA
 x_6.1)] {} else bif eqB x_6.2.1 [] then ckQ (bK [.str x_6.2.1] [.str x_6.2.1]&&true) (Q (.ret (.tup [.agg [.int .i64 4,.int .i64 n_0,.int .i64 n_3,.int .i64 0,.int .i64 0,.int .i64 0,.int .i64 0,.int .i64 0,.nils,.sl 2
 x_6.1.length 0 x_6.1.length 1,.int .i64 0,.int .i64 0,.nils],.bool true])) [Blk.mk BK.exact false [.int .i64 4,.int .i64 n_0,.int .i64 n_3,.int .i64 0,.int .i64 0,.int .i64 0,.int .i64 0,.int .i64 0,.nils,.sl 2 x_6.1.length 0
 x_6.1.length 1,.int .i64 0,.int .i64 0,.nils],Blk.mk BK.exact false [.int .i64 4,.int .i64 n_0,.int .i64 n_3,.int .i64 0,.int .i64 0,.int .i64 0,.int .i64 0,.int .i64 0,.nils,.sl 2 x_6.1.length 0 x_6.1.length 1,.int .i64 0,
 .int .i64 0,.nils,.str x_6.2.1,.bool x_6.2.2],Blk.mk BK.grow true (aA x_6.1)] {}) else ckQ (bK [.str x_6.2.1] [.str x_6.2.1]&&true) (Q (.ret (.tup [.agg [.int .i64 4,.int .i64 n_0,.int .i64 n_3,.int .i64 0,.int .i64 0,
 .int .i64 0,.int .i64 0,.int .i64 0,.nils,.sl 2 x_6.1.length 0 x_6.1.length 1,.int .i64 0,.int .i64 0,.nils],.bool false])) [Blk.mk BK.exact false [.int .i64 4,.int .i64 n_0,.int .i64 n_3,.int .i64 0,.int .i64 0,.int .i64 0,
 .int .i64 0,.int .i64 0,.nils,.sl 2 x_6.1.length 0 x_6.1.length 1,.int .i64 0,.int .i64 0,.nils],Blk.mk BK.exact false [.int .i64 4,.int .i64 n_0,.int .i64 n_3,.int .i64 0,.int .i64 0,.int .i64 0,.int .i64 0,.int .i64 0,
 .nils,.sl 2 x_6.1.length 0 x_6.1.length 1,.int .i64 0,.int .i64 0,.nils,.str x_6.2.1,.bool x_6.2.2],Blk.mk BK.grow true (aA x_6.1)] {})
abbrev rC (b'_5:Bool) (Q:Out→List Blk→Gh→Prop) (n_0:Int) (n_3:Int) (l'_4:List UInt8):Prop:=
bif b'_5 then Q (.ret (.tup [.agg [.int .i64 4,.int .i64 n_0,.int .i64 n_3,.int .i64 0,.int .i64 0,.int .i64 0,.int .i64 0,.int .i64 0,.nils,.nils,.int .i64 0,.int .i64 0,.nils],.bool false])) [] {} else bif eqB l'_4 [] then
 ckQ (bK [.str l'_4] [.str l'_4]&&true) (Q (.ret (.tup [.agg [.int .i64 4,.int .i64 n_0,.int .i64 n_3,.int .i64 0,.int .i64 0,.int .i64 0,.int .i64 0,.int .i64 0,.nils,.nils,.int .i64 0,.int .i64 0,.nils],.bool true])) []
 {}) else ckQ (bK [.str l'_4] [.str l'_4]&&true) (Q (.ret (.tup [.agg [.int .i64 4,.int .i64 n_0,.int .i64 n_3,.int .i64 0,.int .i64 0,.int .i64 0,.int .i64 0,.int .i64 0,.nils,.nils,.int .i64 0,.int .i64 0,.nils],.bool
 false])) [] {})
abbrev sM (n_0:Int) (n_3:Int) (l'_4:List UInt8) (b'_5:Bool):Prop:=
Lf ((0:Int)≤(2:Int)∧(2:Int)≤(4:Int)∧okH [Blk.mk BK.exact true [.int .i64 0,.int .i64 0,.int .i64 0,.int .i64 0,.int .i64 0,.int .i64 0,.int .i64 0,.int .i64 0,.nils,.nils,.int .i64 0,.int .i64 0,.nils],Blk.mk
 BK.exact true [.int .i64 4,.int .i64 n_0,.int .i64 n_3,.int .i64 0,.int .i64 0,.int .i64 0,.int .i64 0,.int .i64 0,.nils,.nils,.int .i64 0,.int .i64 0,.nils,.str l'_4,.bool b'_5]])
abbrev bKs:Blk:=Blk.mk BK.exact true [.int .i64 0,.int .i64 0,.int .i64 0,.int .i64 0,.int .i64 0,.int .i64 0,.int .i64 0,.int .i64 0,.nils,.nils,.int .i64 0,.int .i64 0,.nils]
abbrev aSz:Prop:=aK [AV.int .i64 0,.int .i64 0,.int .i64 0,.int .i64 0,.int .i64 0,.int .i64 0,.int .i64 0,.int .i64 0,.nils,.nils,.int .i64 0,.int .i64 0,.nils]
abbrev bFp:Prop:=aK (AV.ptr 1 15 0)
abbrev aRx (x_6:List Int×List UInt8×Bool) (l'_4:List UInt8) (b'_5:Bool):Prop:=Lf (1≤x_6.1.length∧bFr l'_4 b'_5 x_6.1 x_6.2.1 x_6.2.2)
abbrev bGj (n_0 n_3 n_8 n_11:Int) (x_14:Nat) (l'_12:List UInt8) (b'_13:Bool):List AV:=[.int .i64 4,.int .i64 n_0,.int .i64 n_3,.int .i64 0,.int .i64 0,.int .i64 0,.int .i64 0,.int .i64 0,.nils,.sl 2 (1+(mbM n_8 n_11 x_14).length) 0 (1+(mbM n_8 n_11 x_14).length) 1,.int .i64 0,.int .i64 0,.nils,.str l'_12,.bool b'_13]
abbrev aFx (n_8 n_11:Int) (x_14:Nat):List AV:=[AV.int .i64 n_8]++aA (mbM n_8 n_11 x_14)
abbrev bHe (n_11:Int):Prop:=aK (AV.int .i64 n_11)
abbrev aSs (n_15:Int):Nat:=(n_15%18446744073709551616).toNat
abbrev bE2:Prop:=True∧(0:Nat)=(0:Nat)
abbrev bIi (n_11 n_8 n_20:Int) (y_21:Nat):Prop:=aK (AV.ptr 1 15 0)∧aK (AV.int .i64 n_11)∧aK (AV.int .i64 n_8)∧AV.int .i64 n_20=AV.int .i64 (y_21:Int)∧True
abbrev bPg (n_0 n_3:Int) (y_15:List Int×List UInt8×Bool):List AV:=[.int .i64 4,.int .i64 n_0,.int .i64 n_3,.int .i64 0,.int .i64 0,.int .i64 0,.int .i64 0,.int .i64 0,.nils,.sl 2 y_15.1.length 0 y_15.1.length 1,.int .i64 0,.int .i64 0,.nils,.str y_15.2.1,.bool y_15.2.2]
abbrev zG (x_6:List Int×List UInt8×Bool) (n_8 n_11:Int) (x_14:Nat):Nat:=x_6.1.length+1+(mbM n_8 n_11 x_14).length
abbrev bFq (n_0 n_3:Int) (x_6:List Int×List UInt8×Bool) (n_8 n_11:Int) (x_14:Nat) (l'_12:List UInt8) (b'_13:Bool):List AV:=[.int .i64 4,.int .i64 n_0,.int .i64 n_3,.int .i64 0,.int .i64 0,.int .i64 0,.int .i64 0,.int .i64 0,.nils,.sl 2 (zG x_6 n_8 n_11 x_14) 0 (zG x_6 n_8 n_11 x_14) 1,.int .i64 0,.int .i64 0,.nils,.str l'_12,.bool b'_13]
abbrev aX9 (x_6:List Int×List UInt8×Bool) (n_8 n_11:Int) (x_14:Nat):List AV:=aA x_6.1++[AV.int .i64 n_8]++aA (mbM n_8 n_11 x_14)
theorem bGz (s:List UInt8) (Q:Out→List Blk→Gh→Prop):aCy (bG [(245769,.int .i64),(245799,.int .i64),(245800,.int .i64),(245809,.int .i64),(245811,.int .i64),(245812,.int .i64),(245818,.int .i64)]) (bF
 []) s Q=(Lf ((0:Int)≤(4:Int)∧(4:Int)≤(4:Int)∧okH [bKs,Blk.mk BK.exact true [.int .i64 0,.int .i64 0,.int .i64 0,.int .i64 0,.int .i64 0,.int .i64 0,.int .i64 0,.int .i64 0,.nils,.nils,.int .i64 0,.int .i64 0,
 .nils,.str s,.bool false]])∧∀n_0:Int,∀l'_1:List UInt8,∀b'_2:Bool,Lf (tkM (Int.toNat 4) s false=Prod.mk n_0 (Prod.mk l'_1 b'_2))→Lf ((0:Int)≤(4:Int)∧(4:Int)≤(4:Int)∧okH [bKs,Blk.mk BK.exact true [.int
 .i64 0,.int .i64 n_0,.int .i64 0,.int .i64 0,.int .i64 0,.int .i64 0,.int .i64 0,.int .i64 0,.nils,.nils,.int .i64 0,.int .i64 0,.nils,.str l'_1,.bool b'_2]])∧∀n_3:Int,∀l'_4:List UInt8,∀b'_5:Bool,Lf (tkM
 (Int.toNat 4) l'_1 b'_2=Prod.mk n_3 (Prod.mk l'_4 b'_5))→((∃x_6:Nat,Lf (x_6=0)∧aSz∧aK [AV.int .i64 4,.int .i64 n_0,.int .i64 n_3,.int .i64 0,.int .i64 0,.int .i64 0,.int .i64 0,.int .i64 0,.nils,.nils,.int .i64
 0,.int .i64 0,.nils,.str l'_4,.bool b'_5]∧bFp∧True)∨∃x_6:List Int×List UInt8×Bool,aRx x_6 l'_4 b'_5∧aCi)∧(∀x_6:Nat,Lf (x_6=0)→exI .i64 (l'_4.length:Int) (fun n_7=>bif decide (n_7>0) then bif b'_5
 then rC b'_5 Q n_0 n_3 l'_4 else sM n_0 n_3 l'_4 b'_5∧∀n_8:Int,∀l'_9:List UInt8,∀b'_10:Bool,Lf (tkM (Int.toNat 2) l'_4 b'_5=Prod.mk n_8 (Prod.mk l'_9 b'_10))→sM n_0 n_3 l'_9 b'_10∧∀n_11:Int,∀
 l'_12:List UInt8,∀b'_13:Bool,Lf (tkM (Int.toNat 2) l'_9 b'_10=Prod.mk n_11 (Prod.mk l'_12 b'_13))→(∃x_14:Nat,Lf (x_14≤16)∧aSz∧[AV.int .i64 4,.int .i64 n_0,.int .i64 n_3,.int .i64 0,.int .i64 0,.int .i64 0,.int
 .i64 0,.int .i64 0,.nils,.sl 2 1 0 1 1,.int .i64 0,.int .i64 0,.nils,.str l'_12,.bool b'_13]=bGj n_0 n_3 n_8 n_11 x_14 l'_12 b'_13∧[AV.int .i64 n_8]=aFx n_8 n_11 x_14∧bFp∧bHe n_11∧bHe n_8∧AV.int .i64 0=AV.int
 .i64 (x_14:Int)∧True)∧∀x_14:Nat,Lf (x_14≤16)→bif decide ((x_14:Int)<16) then exI .i64 (Int.fdiv n_11 ((2:Int)^Min.min (x_14:Int).toNat 64)) (fun n_15=>exW .i64 ((aSs n_15 &&& 1:Nat):Int) (fun n_16=>bif
 n_16==1 then exW .i64 (n_8+1) (fun n_17=>exW .i64 (n_17+(x_14:Int)) (fun n_18=>exW .i64 ((aSs n_18 &&& 65535:Nat):Int) (fun n_19=>ckQ (Nat.beq (aFx n_8 n_11 x_14).length (1+(mbM n_8 n_11 x_14).length)&&true &&
 Nat.beq (0+(1+(mbM n_8 n_11 x_14).length)*1) (1+(mbM n_8 n_11 x_14).length)&&Nat.ble (1+(mbM n_8 n_11 x_14).length+1) 1099511627776&&Nat.ble ((1+(mbM n_8 n_11 x_14).length+1)*8) 1099511627776) (exW .i64 ((x_14:Int)
 + 1) (fun n_20=>bE2∧∃y_21:Nat,Lf (y_21≤16)∧16-y_21<16-x_14∧aSz∧[AV.int .i64 4,.int .i64 n_0,.int .i64 n_3,.int .i64 0,.int .i64 0,.int .i64 0,.int .i64 0,.int .i64 0,.nils,.sl 2 (1+(mbM n_8 n_11
 x_14).length+1) 0 (1+(mbM n_8 n_11 x_14).length+1) 1,.int .i64 0,.int .i64 0,.nils,.str l'_12,.bool b'_13]=bGj n_0 n_3 n_8 n_11 y_21 l'_12 b'_13∧aFx n_8 n_11 x_14++[AV.int .i64 n_19]=aFx n_8 n_11 y_21∧bIi n_11
 n_8 n_20 y_21))))) else exW .i64 ((x_14:Int)+1) (fun n_17=>bE2∧∃y_18:Nat,Lf (y_18≤16)∧16-y_18<16-x_14∧aSz∧bGj n_0 n_3 n_8 n_11 x_14 l'_12 b'_13=bGj n_0 n_3 n_8 n_11 y_18 l'_12 b'_13∧aFx n_8 n_11 x_14 =
 aFx n_8 n_11 y_18∧bIi n_11 n_8 n_17 y_18))) else bE2∧((∃y_15:Nat,Lf (y_15=0)∧l'_4.length+1<l'_4.length+1∧aCi)∨∃y_15:List Int×List UInt8×Bool,aRx y_15 l'_4 b'_5∧y_15.2.1.length<l'_4.length+1 ∧
 aSz∧bGj n_0 n_3 n_8 n_11 x_14 l'_12 b'_13=bPg n_0 n_3 y_15∧aFx n_8 n_11 x_14=aA y_15.1∧bFp∧True) else rC b'_5 Q n_0 n_3 l'_4))∧∀x_6:List Int×List UInt8×Bool,aRx x_6 l'_4 b'_5→exI .i64
 (x_6.2.1.length:Int) (fun n_7=>bif decide (n_7>0) then bif x_6.2.2 then sH x_6 Q n_0 n_3 else Lf ((0:Int)≤(2:Int)∧(2:Int)≤(4:Int)∧okH [bKs,Blk.mk BK.exact false [.int .i64 4,.int .i64 n_0,.int .i64 n_3,
 .int .i64 0,.int .i64 0,.int .i64 0,.int .i64 0,.int .i64 0,.nils,.sl 2 x_6.1.length 0 x_6.1.length 1,.int .i64 0,.int .i64 0,.nils,.str x_6.2.1,.bool x_6.2.2],Blk.mk BK.grow true (aA x_6.1)])∧∀n_8:Int,∀l'_9:List
 UInt8,∀b'_10:Bool,Lf (tkM (Int.toNat 2) x_6.2.1 x_6.2.2=Prod.mk n_8 (Prod.mk l'_9 b'_10))→Lf ((0:Int)≤(2:Int)∧(2:Int)≤(4:Int)∧okH [bKs,Blk.mk BK.exact false [.int .i64 4,.int .i64 n_0,.int .i64 n_3,.int .i64
 0,.int .i64 0,.int .i64 0,.int .i64 0,.int .i64 0,.nils,.sl 2 x_6.1.length 0 x_6.1.length 1,.int .i64 0,.int .i64 0,.nils,.str l'_9,.bool b'_10],Blk.mk BK.grow true (aA x_6.1)])∧∀n_11:Int,∀l'_12:List UInt8,∀b'_13
 : Bool,Lf (tkM (Int.toNat 2) l'_9 b'_10=Prod.mk n_11 (Prod.mk l'_12 b'_13))→ckQ (Nat.beq (aA x_6.1).length x_6.1.length&&true&&Nat.beq (0+x_6.1.length*1) x_6.1.length&&Nat.ble (x_6.1.length+1) 1099511627776&&Nat.ble
 ((x_6.1.length+1)*8) 1099511627776) ((∃x_14:Nat,Lf (x_14≤16)∧aSz∧[AV.int .i64 4,.int .i64 n_0,.int .i64 n_3,.int .i64 0,.int .i64 0,.int .i64 0,.int .i64 0,.int .i64 0,.nils,.sl 2 (x_6.1.length+1) 0 (x_6.1.length
 + 1) 1,.int .i64 0,.int .i64 0,.nils,.str l'_12,.bool b'_13]=bFq n_0 n_3 x_6 n_8 n_11 x_14 l'_12 b'_13∧aA x_6.1++[AV.int .i64 n_8]=aX9 x_6 n_8 n_11 x_14∧bFp∧bHe n_11∧bHe n_8∧AV.int .i64 0=AV.int .i64 (x_14 :
 Int)∧True)∧∀x_14:Nat,Lf (x_14≤16)→bif decide ((x_14:Int)<16) then exI .i64 (Int.fdiv n_11 ((2:Int)^Min.min (x_14:Int).toNat 64)) (fun n_15=>exW .i64 ((aSs n_15 &&& 1:Nat):Int) (fun n_16=>bif n_16==1 then
 exW .i64 (n_8+1) (fun n_17=>exW .i64 (n_17+(x_14:Int)) (fun n_18=>exW .i64 ((aSs n_18 &&& 65535:Nat):Int) (fun n_19=>ckQ (Nat.beq (aX9 x_6 n_8 n_11 x_14).length (zG x_6 n_8 n_11 x_14)&&true&&Nat.beq (0+zG x_6
 n_8 n_11 x_14*1) (zG x_6 n_8 n_11 x_14)&&Nat.ble (zG x_6 n_8 n_11 x_14+1) 1099511627776&&Nat.ble ((zG x_6 n_8 n_11 x_14+1)*8) 1099511627776) (exW .i64 ((x_14:Int)+1) (fun n_20=>bE2∧∃y_21:Nat,Lf (y_21≤16)
 ∧ 16-y_21<16-x_14∧aSz∧[AV.int .i64 4,.int .i64 n_0,.int .i64 n_3,.int .i64 0,.int .i64 0,.int .i64 0,.int .i64 0,.int .i64 0,.nils,.sl 2 (zG x_6 n_8 n_11 x_14+1) 0 (zG x_6 n_8 n_11 x_14+1) 1,.int .i64 0,.int
 .i64 0,.nils,.str l'_12,.bool b'_13]=bFq n_0 n_3 x_6 n_8 n_11 y_21 l'_12 b'_13∧aX9 x_6 n_8 n_11 x_14++[AV.int .i64 n_19]=aX9 x_6 n_8 n_11 y_21∧bIi n_11 n_8 n_20 y_21))))) else exW .i64 ((x_14:Int)+1) (fun n_17=>bE2
 ∧ ∃y_18:Nat,Lf (y_18≤16)∧16-y_18<16-x_14∧aSz∧bFq n_0 n_3 x_6 n_8 n_11 x_14 l'_12 b'_13=bFq n_0 n_3 x_6 n_8 n_11 y_18 l'_12 b'_13∧aX9 x_6 n_8 n_11 x_14=aX9 x_6 n_8 n_11 y_18∧bIi n_11 n_8 n_17 y_18))) else
 bE2∧((∃y_15:Nat,Lf (y_15=0)∧l'_4.length+1<x_6.2.1.length∧aCi)∨∃y_15:List Int×List UInt8×Bool,aRx y_15 l'_4 b'_5∧y_15.2.1.length<x_6.2.1.length∧aSz∧bFq n_0 n_3 x_6 n_8 n_11 x_14 l'_12 b'_13=bPg
 n_0 n_3 y_15∧aX9 x_6 n_8 n_11 x_14=aA y_15.1∧bFp∧True)) else sH x_6 Q n_0 n_3)):=by kernel_rfl

theorem qE (x y:Int):∀k,(mbM x y k).length≤k
 | 0=>Nat.le_refl _
 | k+1=>by
  have:=qE x y k
  rw[mbM,List.length_append]
  split<;>simp<;>omega
theorem nG {k:Nat} {l l':List UInt8} {b b':Bool} {n:Int} (h:tkM k l b=(n,l',b')) (hk:1≤k):l'.length≤l.length∧(0<l.length→l'.length<l.length):=by
 unfold tkM at h
 split at h
 ·simp only[Prod.mk.injEq] at h;obtain ⟨_,rfl,_⟩:=h;simp
 ·simp only[Prod.mk.injEq] at h;obtain ⟨_,rfl,_⟩:=h;simp;omega
theorem nI {l l':List UInt8} {b b':Bool} {n:Int} (h:tkM 2 l b=(n,l',b')):0≤n∧n<65536:=by
 unfold tkM at h
 split at h
 ·simp only[Prod.mk.injEq] at h;omega
 ·simp only[Prod.mk.injEq] at h
  have h1:=aN8 (l.take 2)
  have h2:(256:Int)^(l.take 2).length≤65536:=by
   have:(l.take 2).length≤2:=by rw[List.length_take];omega
   generalize (l.take 2).length=m at this
   obtain rfl | rfl | rfl:m=0∨m=1∨m=2:=by omega
   all_goals decide
  omega
theorem bBf {f:Nat} {l la lb:List UInt8} {b ba bb:Bool} {x y:Int} (h:l.length>0∧b=false) (e1:tkM 2 l b=(x,la,ba)) (e2:tkM 2 la ba=(y,lb,bb)) :
  gZ (f+1) l b=((x::mbM x y 16)++(gZ f lb bb).1,(gZ f lb bb).2):=by
 rw[gZ,if_pos h,e1]
 simp only[e2]
theorem aPa {f:Nat} {l:List UInt8} {b:Bool} (h:¬ (l.length>0∧b=false)):gZ f l b=([],l,b):=by
 cases f with
 | zero=>rfl
 | succ f=>rw[gZ,if_neg h]
theorem aJr {l0 l la lb:List UInt8} {b0 b ba bb:Bool} {acc:List Int} {x y:Int} (g:bFr l0 b0 acc l b) (h:l.length>0∧b=false) (e1:tkM 2 l b=(x,la,ba)) (e2:tkM 2 la ba=(y,lb,bb)):bFr l0 b0 (acc++(x::mbM x y 16)) lb bb:=by
 obtain ⟨g1,f,g2,g3⟩:=g
 have t1:=nG e1 (by omega)
 have t2:=nG e2 (by omega)
 have t3:=qE x y 16
 have t4:=t1.2 h.1
 obtain ⟨f,rfl⟩:∃m,f=m+1:=⟨f-1,by omega⟩
 refine ⟨by simp only[List.length_append,List.length_cons];omega,f,by omega, ?_⟩
 rw[g3,bBf h e1 e2]
 simp
theorem aV6 (l0:List UInt8) (b0:Bool):bFr l0 b0 [] l0 b0:=⟨by simp,_,Nat.le_refl _,by simp⟩
theorem aQx {l0 l:List UInt8} {b0 b:Bool} {acc:List Int} (g:bFr l0 b0 acc l b) (h:¬ (l.length>0∧b=false)):gZ l0.length l0 b0=(acc,l,b):=by
 obtain ⟨_,f,_,g3⟩:=g
 rw[g3,aPa h]
 simp
theorem aSi {m:Int} {k:Nat} (hm:0≤m∧m<65536) (hk:k<16) {K:Int→Prop} (h:K (m/2^k%2)) :
  ∃n15,AV.int .i64 (Int.fdiv m (2^min (Int.toNat (k:Int)) 64))=AV.int .i64 n15∧∃n16,AV.int .i64 (IntKind.wrap .i64 (((n15%18446744073709551616).toNat &&& 1:Nat):Int))=AV.int .i64 n16∧K n16:=by
 have e1:min (Int.toNat (k:Int)) 64=k:=by omega
 have e3:(0:Int)≤2^k:=Int.pow_nonneg (by decide)
 refine ⟨_,rfl, ?_⟩
 rw[e1,Int.fdiv_eq_ediv_of_nonneg _ e3]
 have h1:0≤m/2^k:=Int.ediv_nonneg hm.1 e3
 have h2:m/2^k≤m:=Int.ediv_le_self _ hm.1
 generalize m/2^k=q at h h1 h2 ⊢
 have e4:(q%18446744073709551616).toNat &&& 1=(q%2).toNat:=by
  rw[show (1:Nat)=2^1-1 from rfl,Nat.and_two_pow_sub_one_eq_mod]
  omega
 rw[e4]
 exact aC (by omega) (by omega) (by rwa [show (((q%2).toNat:Nat):Int)=q%2 by omega])
theorem iW (l:List Int):dZ (aA l):=⟨rD 0 l,(gI l).1⟩
theorem bGp {H:List Blk} {k f a:Int} {acc:List Int} {fl:Bool} (hH:H[2]? = some ⟨.grow,true,aA acc⟩) :
  aL2 (.tup [.agg [.int .i64 k,.int .i64 f,.int .i64 a,.int .i64 0,.int .i64 0,.int .i64 0,.int .i64 0,.int .i64 0,.nils,.sl 2 acc.length 0 acc.length 1,.int .i64 0,.int .i64 0,.nils],.bool fl]) H=.tup [.agg (ctC ⟨k,f,a,0,0,0,0,0,[],acc,0,0,[]⟩),.bool fl]:=by
 have e:dK 0 H 7 (.sl 2 acc.length 0 acc.length 1)=.lst 0 (aA acc) acc.length 1:=
  mE (d:=5) hH (aB acc) (by omega) (by simp) (by rw[List.drop_zero];exact List.take_of_length_le (by rw[aB];omega)) (fO acc)
 show ctK (.tup [.agg [.int .i64 k,.int .i64 f,.int .i64 a,.int .i64 0,.int .i64 0,.int .i64 0,.int .i64 0,.int .i64 0,.nils,dK 0 H 7 (.sl 2 acc.length 0 acc.length 1),.int .i64 0,.int .i64 0,.nils],.bool fl])=_
 rw[e]
 rfl
theorem bRb (s:List UInt8) (hs:s.length≤10000) (Q:Out→List Blk→Gh→Prop) (hq:∀n l b n1 l1 b1 lo l2 b2,(tkM 4 s false=(n,l,b)∧tkM 4 l b=(n1,l1,b1))→gZ l1.length l1 b1=(lo,l2,b2)→∀v H,aL2 v H=.tup [.agg (ctC ⟨4,n,n1,0,0,0,0,0,[],lo,0,0,[]⟩),.bool (aF2 l2 b2)]→Q (.ret v) H {}):∃hv hb,aCy hv hb s Q:=by
 obtain ⟨hv,hb',e⟩:∃hv hb,aCy hv hb s Q=_:=⟨_,_,bGz s Q⟩
 refine ⟨hv,hb',e.mpr ?_⟩
 delta bKs aSz bFp aRx bGj aFx bHe aSs bE2 bIi bPg zG bFq aX9
 unfold sH rC sM
 clear e
 refine ⟨⟨by omega,by omega,gK ⟨rfl,rfl⟩ ⟨rfl,rfl⟩⟩, ?_⟩
 rintro n l b ⟨e⟩
 refine ⟨⟨by omega,by omega,gK ⟨rfl,rfl⟩ ⟨rfl,rfl⟩⟩, ?_⟩
 rintro n1 l1 b1 ⟨e1⟩
 refine ⟨.inl ⟨0,⟨rfl⟩,rfl,rfl,rfl,trivial⟩, ?_, ?_⟩
 ·rintro i ⟨hi⟩
  subst hi
  refine ⟨_,rfl,aD (fun h=>splitB (fun hb => ?_) (fun hb => ?_)) (fun h => ?_)⟩
  ·refine aM9 (P:=fun f=>Q (.ret (.tup [.agg _,.bool f])) [] {}) ?_
   exact hq n l b n1 l1 b1 [] _ _ ⟨e,e1⟩ (aPa (by simp[hb])) _ _ rfl
  ·refine ⟨⟨by omega,by omega,gK ⟨rfl,rfl⟩ ⟨rfl,rfl⟩⟩, ?_⟩
   rintro x la ba ⟨d1⟩
   refine ⟨⟨by omega,by omega,gK ⟨rfl,rfl⟩ ⟨rfl,rfl⟩⟩, ?_⟩
   rintro y lb bb ⟨d2⟩
   have hx:=nI d1
   have hy:=nI d2
   skip
   refine ⟨⟨0,⟨by omega⟩,rfl,rfl,rfl,rfl,rfl,rfl,rfl,trivial⟩, ?_⟩
   rintro k ⟨hk⟩
   have hml:=qE x y k
   refine aD (fun h16 => ?_) (fun h16 => ?_)
   ·refine aSi hy (by omega) (aP (fun h1 => ?_) (fun h1 => ?_))
    ·have hm:mbM x y (k+1)=mbM x y k++[(x+1+(k:Int))%65536]:=by rw[mbM,if_pos h1]
     refine aC (by omega) (by omega) (aC (by omega) (by omega) (aVo (ckI (by simp[aB];omega) (aC (by omega) (by omega) ⟨⟨trivial,rfl⟩,k+1,⟨by omega⟩,by omega,rfl,by rw[hm];simp;try omega,by rw[hm];simp[aA],rfl,rfl,rfl,rfl,trivial⟩))))
    ·have hm:mbM x y (k+1)=mbM x y k:=by rw[mbM,if_neg h1,List.append_nil]
     refine aC (by omega) (by omega) ⟨⟨trivial,rfl⟩,k+1,⟨by omega⟩,by omega,rfl,by rw[hm],by rw[hm],rfl,rfl,rfl,rfl,trivial⟩
   ·obtain rfl:k=16:=by omega
    have t1:=nG d1 (by omega)
    have t2:=nG d2 (by omega)
    have t3:=t1.2 (by omega)
    refine ⟨⟨trivial,rfl⟩,.inr ⟨(x::mbM x y 16,lb,bb),⟨by first | (simp;done) | (simp;omega),aJr (aV6 l1 b1) ⟨by omega,hb⟩ d1 d2⟩,by dsimp only;omega,rfl,by simp;try omega,by simp[aA],rfl,trivial⟩⟩
  ·refine aM9 (P:=fun f=>Q (.ret (.tup [.agg _,.bool f])) [] {}) ?_
   exact hq n l b n1 l1 b1 [] _ _ ⟨e,e1⟩ (aPa (by omega)) _ _ rfl
 ·rintro ⟨acc,l',b'⟩ ⟨g1,g2⟩
  dsimp only at g1 g2 ⊢
  have ga:=g2.1
  have hl1:l1.length≤s.length:=Nat.le_trans (nG e1 (by decide)).1 (nG e (by decide)).1
  refine ⟨_,rfl,aD (fun h=>splitB (fun hb => ?_) (fun hb => ?_)) (fun h => ?_)⟩
  ·exact aM9 (P:=fun f=>Q (.ret (.tup [.agg _,.bool f])) _ {}) (hq n l b n1 l1 b1 acc _ _ ⟨e,e1⟩ (aQx g2 (by simp[hb])) _ _ (bGp rfl))
  ·refine ⟨⟨by omega,by omega,bLc ⟨rfl,rfl⟩ ⟨rfl,rfl⟩ (iW _)⟩, ?_⟩
   rintro x la ba ⟨d1⟩
   refine ⟨⟨by omega,by omega,bLc ⟨rfl,rfl⟩ ⟨rfl,rfl⟩ (iW _)⟩, ?_⟩
   rintro y lb bb ⟨d2⟩
   have hx:=nI d1
   have hy:=nI d2
   refine ckI (by simp[aB];omega) ?_
   refine ⟨⟨0,⟨by omega⟩,rfl,rfl,by simp[mbM,aA],rfl,rfl,rfl,rfl,trivial⟩, ?_⟩
   rintro k ⟨hk⟩
   have hml:=qE x y k
   refine aD (fun h16 => ?_) (fun h16 => ?_)
   ·refine aSi hy (by omega) (aP (fun h1 => ?_) (fun h1 => ?_))
    ·have hm:mbM x y (k+1)=mbM x y k++[(x+1+(k:Int))%65536]:=by rw[mbM,if_pos h1]
     refine aC (by omega) (by omega) (aC (by omega) (by omega) (aVo (ckI (by simp[aB];omega) (aC (by omega) (by omega) ⟨⟨trivial,rfl⟩,k+1,⟨by omega⟩,by omega,rfl,by rw[hm];simp;try omega,by rw[hm];simp[aA],rfl,rfl,rfl,rfl,trivial⟩))))
    ·have hm:mbM x y (k+1)=mbM x y k:=by rw[mbM,if_neg h1,List.append_nil]
     refine aC (by omega) (by omega) ⟨⟨trivial,rfl⟩,k+1,⟨by omega⟩,by omega,rfl,by rw[hm],by rw[hm],rfl,rfl,rfl,rfl,trivial⟩
   ·obtain rfl:k=16:=by omega
    have t1:=nG d1 (by omega)
    have t2:=nG d2 (by omega)
    have t3:=t1.2 (by omega)
    refine ⟨⟨trivial,rfl⟩,.inr ⟨(acc++x::mbM x y 16,lb,bb),⟨by first | (simp;done) | (simp;omega),aJr g2 ⟨by omega,hb⟩ d1 d2⟩,by dsimp only;omega,rfl,by simp;try omega,by simp[aA],rfl,trivial⟩⟩
  ·exact aM9 (P:=fun f=>Q (.ret (.tup [.agg _,.bool f])) _ {}) (hq n l b n1 l1 b1 acc _ _ ⟨e,e1⟩ (aQx g2 (by omega)) _ _ (bGp rfl))
end Go.Proofs.YtafchcmemeinlaaDoor

set_option linter.unusedSimpArgs false
set_option linter.unusedVariables false
set_option linter.unusedSectionVars false
namespace Go.Proofs.YtafchcmemeinlaaDoor
open Go.RowKit
set_option maxRecDepth 1000000

def rH (x:Int):List Int:=[x/4096%4,x/1024%4,x/256%4,x/64%4,x/16%4,x/4%4,x%4]
def jC:Nat→Int→List Int→List UInt8→Bool→List Int×List UInt8×Bool
 | 0,_,acc,l,b=>(acc,l,b)
 | n+1,c,acc,l,b=>if (acc.length:Int)<c∧b=false then jC n c (acc++rH (tkM 2 l b).1) (tkM 2 l b).2.1 (tkM 2 l b).2.2 else (acc,l,b)
def sxM (x:Int):Int:=if 32768≤x then x-65536 else x
def eH (sg:List Int):Nat→Nat→Int→List UInt8→Bool→List Int→List Int×Bool
 | 0,_,_,_,b,acc=>(acc,b)
 | n+1,i,last,l,b,acc=>
  if b=true∨sg.getD i 0=3 then (acc,true)
  else if sg.getD i 0=0 then eH sg n (i+1) last l b (acc++[-1])
  else if sg.getD i 0=1 then eH sg n (i+1) (last+(tkM 1 l b).1) (tkM 1 l b).2.1 (tkM 1 l b).2.2 (acc++[last+(tkM 1 l b).1])
  else eH sg n (i+1) (last+sxM (tkM 2 l b).1) (tkM 2 l b).2.1 (tkM 2 l b).2.2 (acc++[last+sxM (tkM 2 l b).1])
def bFt (c:Int) (l0:List UInt8) (b0:Bool) (acc:List Int) (l:List UInt8) (b:Bool):Prop:=∃f:Nat,c≤acc.length+f∧jC c.toNat c [] l0 b0=jC f c acc l b
def bHd (s:S):List (List LInv):=match s.tm.get 2,s.tm.get 3,s.hp with
 | .int _ c,.int _ rf,[⟨_,_,z⟩,⟨_,_,[c0,c1,c2,c3,c4,c5,c6,c7,c8,c9,c10,c11,c12,.str l0,.bool b0]⟩]=>[[
  { α:=Nat,pre:=fun i=>Lf (i=0),st:=fun i=>⟨mkT [(0,.ptr 1 15 0),(2,.int .i64 c),(3,.int .i64 rf),(4,.nils)],s.hp⟩,mu:=fun i=>c.toNat+1 },
  { α:=List Int×List UInt8×Bool,pre:=fun x=>Lf (1≤x.1.length∧x.1.length≤c.toNat+7∧bFt c l0 b0 x.1 x.2.1 x.2.2),st:=fun x=>⟨mkT [(0,.ptr 1 15 0),(2,.int .i64 c),(3,.int .i64 rf),(4,.sl 2 x.1.length 0 x.1.length 1)],[⟨.exact,true,z⟩,⟨.exact,true,[c0,c1,c2,c3,c4,c5,c6,c7,c8,c9,c10,c11,c12,.str x.2.1,.bool x.2.2]⟩,⟨.grow,true,aA x.1⟩]⟩,mu:=fun x=>c.toNat-x.1.length }]]
 | _,_,_=>[]
def unI:AV→Int
 | .int _ n=>n
 | _=>0
def bQf (sg:List Int) (c la0:Int) (l0:List UInt8) (b0:Bool) (i:Nat) (la:Int) (l:List UInt8) (b:Bool) (acc:List Int):Prop:=
 (i:Int)≤c∧acc.length=i∧(b=false→b0=false) ∧ -(65536*(i:Int))≤la∧la≤4294967296+65536*(i:Int)∧eH sg c.toNat 0 la0 l0 b0 []=eH sg (c.toNat-i) i la l b acc
def bCc (s:S):List (List LInv):=match s.tm.get 4,s.tm.get 7,s.tm.get 51,s.hp with
 | .nils,.int _ la,.int _ c,[⟨_,_,z⟩,⟨_,_,[c0,c1,c2,c3,c4,c5,c6,c7,c8,c9,c10,c11,c12,.str l0,.bool b0]⟩]=>[[
  { α:=Nat,pre:=fun i=>Lf (i=0∧(c≤0∨b0=true)),st:=fun i=>⟨mkT [(0,.ptr 1 15 0),(4,.nils),(7,.int .i64 la),(51,.int .i64 c),(52,.int .i64 (i:Nat))],s.hp⟩,mu:=fun i=>0 }]]
 | .sl _ tot _ _ _,.int _ la,.int _ c,[⟨_,_,z⟩,⟨_,_,[c0,c1,c2,c3,c4,c5,c6,c7,c8,c9,c10,c11,c12,.str l0,.bool b0]⟩,⟨_,_,g⟩]=>[[
  { α:=List Int,pre:=fun sg=>Lf (g=aA sg∧tot=sg.length∧(b0=false→c≤sg.length)∧0≤la∧la≤4294967296),st:=fun sg=>⟨mkT [(0,.ptr 1 15 0),(4,.sl 2 sg.length 0 sg.length 1),(7,.int .i64 la),(51,.int .i64 c),(52,.int .i64 0)],[⟨.exact,true,z⟩,⟨.exact,true,[c0,c1,c2,c3,c4,c5,c6,c7,c8,c9,c10,c11,c12,.str l0,.bool b0]⟩,⟨.grow,true,aA sg⟩]⟩,mu:=fun _=>c.toNat+1 },
  { α:=List Int×Nat×Int×List UInt8×Bool×List Int,pre:=fun x=>Lf (g=aA x.1∧tot=x.1.length∧(b0=false→c≤x.1.length)∧1≤x.2.1∧bQf x.1 c la l0 b0 x.2.1 x.2.2.1 x.2.2.2.1 x.2.2.2.2.1 x.2.2.2.2.2),st:=fun x=>⟨mkT [(0,.ptr 1 15 0),(4,.sl 2 x.1.length 0 x.1.length 1),(7,.int .i64 x.2.2.1),(51,.int .i64 c),(52,.int .i64 (x.2.1:Nat))],[⟨.exact,true,z⟩,⟨.exact,false,[c0,c1,c2,c3,c4,c5,c6,c7,c8,c9,c10,c11,.sl 3 x.2.2.2.2.2.length 0 x.2.2.2.2.2.length 1,.str x.2.2.2.1,.bool x.2.2.2.2.1]⟩,⟨.grow,true,aA x.1⟩,⟨.grow,true,aA x.2.2.2.2.2⟩]⟩,mu:=fun x=>c.toNat-x.2.1 }]]
 | _,_,_,_=>[]
noncomputable def aG3 (hv:Nat→Option Pa) (hb:Nat→Option Bool):Env:=e24 bMt (fun i=>bif Nat.beq i 61000 then some bHd else bif Nat.beq i 61004 then some bCc else none) hv hb
noncomputable def aCr (hv:Nat→Option Pa) (hb:Nat→Option Bool) (s:List UInt8) (Q:Out→List Blk→Gh→Prop):Prop:=
 bH (aG3 hv hb) (wpx (aG3 hv hb) 1000) 38 [.int .i64 205,.int .i64 15,.str s] [] {} Q
def mJ:Prop:=
aK [AV.int .i64 0,.int .i64 0,.int .i64 0,.int .i64 0,.int .i64 0,.int .i64 0,.int .i64 0,.int .i64 0,.nils,.nils,.int .i64 0,.int .i64 0,.nils]∧False
abbrev bE6 (x_18:List Int×List UInt8×Bool) (x_21:List Int) (n_9 n_20:Int):Prop:=Lf (aA x_18.1=aA x_21∧x_18.1.length=x_21.length∧(x_18.2.2=false→n_9≤(x_21.length:Int))∧0≤n_20∧n_20≤4294967296)
abbrev bO:AV:=.int .i64 0
abbrev aHk:Prop:=aK [AV.int .i64 0,bO,bO,bO,bO,bO,bO,bO,.nils,.nils,bO,bO,.nils]
abbrev dR (n_0:Int):AV:=.int .i64 n_0
abbrev aOs (n_0 n_3 n_6 n_15:Int) (x_18:List Int×List UInt8×Bool):List AV:=[.int .i64 6,dR n_0,dR n_3,bO,bO,bO,bO,bO,.nils,.nils,dR n_6,dR n_15,.nils,.str x_18.2.1,.bool x_18.2.2]
abbrev uM:Prop:=aK (AV.ptr 1 15 0)
abbrev dO (n_20:Int):AV:=.int .i64 n_20
abbrev zX (n_9:Int):Prop:=aK (AV.int .i64 n_9)
abbrev aYk (x_18:List Int×List UInt8×Bool) (x_21:List Int×Nat×Int×List UInt8×Bool×List Int) (n_9 n_20:Int):Prop:=Lf (aA x_18.1=aA x_21.1∧x_18.1.length=x_21.1.length∧(x_18.2.2=false→n_9≤(x_21.1.length:Int))∧1≤x_21.2.1∧bQf x_21.1 n_9 n_20 x_18.2.1 x_18.2.2 x_21.2.1 x_21.2.2.1 x_21.2.2.2.1 x_21.2.2.2.2.1 x_21.2.2.2.2.2)
abbrev bG2 (n_0 n_3 n_6 n_15:Int):AV:=.agg [.int .i64 6,dR n_0,dR n_3,bO,bO,bO,bO,bO,.nils,.nils,dR n_6,dR n_15,.nils]
abbrev aHg (n_0 n_3 n_6 n_15:Int):Out:=.ret (.tup [bG2 n_0 n_3 n_6 n_15,.bool false])
abbrev aHz (x_21:List Int):Bool:=Nat.beq (aA x_21).length x_21.length
abbrev aUj (x_21:List Int):AV:=(((aA x_21).drop 0).take 1).getD 0 AV.undef
abbrev aCj:Prop:=True∧(0:Nat)=(0:Nat)
abbrev aPn (y_25:List Int×Nat×Int×List UInt8×Bool×List Int):AV:=.sl 3 y_25.2.2.2.2.2.length 0 y_25.2.2.2.2.2.length 1
abbrev aSd (n_0 n_3 n_6 n_15:Int) (y_25:List Int×Nat×Int×List UInt8×Bool×List Int):List AV:=[.int .i64 6,dR n_0,dR n_3,bO,bO,bO,bO,bO,.nils,.nils,dR n_6,dR n_15,aPn y_25,.str y_25.2.2.2.1,.bool y_25.2.2.2.2.1]
abbrev qY (y_25:List Int×Nat×Int×List UInt8×Bool×List Int):List AV:=aA y_25.2.2.2.2.2
abbrev aZ2 (y_25:List Int×Nat×Int×List UInt8×Bool×List Int):AV:=.sl 2 y_25.1.length 0 y_25.1.length 1
abbrev aSc:Blk:=Blk.mk BK.exact true [bO,bO,bO,bO,bO,bO,bO,bO,.nils,.nils,bO,bO,.nils]
abbrev aB6:AV:=.int .i64 6
abbrev aOh (n_0 n_3 n_6 n_15:Int) (x_18:List Int×List UInt8×Bool):Blk:=Blk.mk BK.exact true [aB6,dR n_0,dR n_3,bO,bO,bO,bO,bO,.nils,.nils,dR n_6,dR n_15,.nils,.str x_18.2.1,.bool x_18.2.2]
abbrev bO4 (n_20 n_25:Int) (x_18:List Int×List UInt8×Bool) (n_9 n_0 n_3 n_6 n_15:Int) (l'_26:List UInt8) (b'_27:Bool) (x_21:List Int):Prop:=exW .i64 (n_20+n_25) (fun n_28=>exI .i64 1 (fun n_29=>aCj∧((∃y_30:List Int,Lf (aA x_18.1=aA y_30∧x_18.1.length=y_30.length∧(x_18.2.2=false→n_9≤(y_30.length:Int))∧0≤n_20∧n_20≤4294967296)∧n_9.toNat+1<n_9.toNat+1∧mJ)∨∃y_30:List Int×Nat×Int×List UInt8×Bool×List Int,aYk x_18 y_30 n_9 n_20∧n_9.toNat-y_30.2.1<n_9.toNat+1∧aHk∧[AV.int .i64 6,dR n_0,dR n_3,bO,bO,bO,bO,bO,.nils,.nils,dR n_6,dR n_15,.sl 3 1 0 1 1,.str l'_26,.bool b'_27]=[AV.int .i64 6,dR n_0,dR n_3,bO,bO,bO,bO,bO,.nils,.nils,dR n_6,dR n_15,.sl 3 y_30.2.2.2.2.2.length 0 y_30.2.2.2.2.2.length 1,.str y_30.2.2.2.1,.bool y_30.2.2.2.2.1]∧aA x_21=aA y_30.1∧[dO n_28]=qY y_30∧uM∧dO n_28=AV.int .i64 y_30.2.2.1∧zX n_9∧AV.sl 2 x_21.length 0 x_21.length 1=aZ2 y_30∧dO n_29=AV.int .i64 (y_30.2.1:Int)∧True)))
abbrev aFc:Prop:=(0:Int)≤(2:Int)
abbrev aEo:Prop:=(2:Int)≤(4:Int)
abbrev bF0 (n_0 n_3 n_6 n_15:Int) (x_21:List Int×Nat×Int×List UInt8×Bool×List Int):List AV:=[.int .i64 6,dR n_0,dR n_3,bO,bO,bO,bO,bO,.nils,.nils,dR n_6,dR n_15,.sl 3 x_21.2.2.2.2.2.length 0 x_21.2.2.2.2.2.length 1]
abbrev bAx (Q:Out→List Blk→Gh→Prop) (n_0 n_3 n_6 n_15:Int) (x_21:List Int×Nat×Int×List UInt8×Bool×List Int):Prop:=Q (.ret (.tup [.agg (bF0 n_0 n_3 n_6 n_15 x_21),.bool false])) [Blk.mk BK.exact false (bF0 n_0 n_3 n_6 n_15 x_21),Blk.mk BK.exact false [aB6,dR n_0,dR n_3,bO,bO,bO,bO,bO,.nils,.nils,dR n_6,dR n_15,aPn x_21,.str [],.bool true],Blk.mk BK.grow true (aA x_21.1),Blk.mk BK.grow true (qY x_21)] {}
abbrev aVy (x_21:List Int×Nat×Int×List UInt8×Bool×List Int):Bool:=Nat.blt (x_21.2.1:Int).toNat x_21.1.length&&Nat.beq (aA x_21.1).length x_21.1.length&&true
abbrev aUf (x_21:List Int×Nat×Int×List UInt8×Bool×List Int):Bool:=Nat.beq (aA x_21.1).length x_21.1.length&&Nat.blt (0+(x_21.2.1:Int).toNat*1) x_21.1.length
abbrev aTn (x_21:List Int×Nat×Int×List UInt8×Bool×List Int):AV:=(((aA x_21.1).drop (0+(x_21.2.1:Int).toNat*1)).take 1).getD 0 AV.undef
abbrev uD (x_21:List Int×Nat×Int×List UInt8×Bool×List Int):Nat:=x_21.2.2.2.2.2.length
abbrev aWl (x_21:List Int×Nat×Int×List UInt8×Bool×List Int):Bool:=Nat.beq (qY x_21).length (uD x_21)&&true&&Nat.beq (0+uD x_21*1) (uD x_21)&&Nat.ble (uD x_21+1) 1099511627776&&Nat.ble ((uD x_21+1)*8) 1099511627776
abbrev aWo (n_9:Int) (x_21 y_25:List Int×Nat×Int×List UInt8×Bool×List Int) (n_24:Int):Prop:=aK (AV.int .i64 n_9)∧AV.sl 2 x_21.1.length 0 x_21.1.length 1=AV.sl 2 y_25.1.length 0 y_25.1.length 1∧dO n_24=AV.int .i64 (y_25.2.1:Int)∧True
abbrev bBr (n_0 n_3 n_6 n_15:Int) (x_21:List Int×Nat×Int×List UInt8×Bool×List Int):Prop:=okH [aSc,Blk.mk BK.exact false [aB6,dR n_0,dR n_3,bO,bO,bO,bO,bO,.nils,.nils,dR n_6,dR n_15,aPn x_21,.str x_21.2.2.2.1,.bool x_21.2.2.2.2.1],Blk.mk BK.grow true (aA x_21.1),Blk.mk BK.grow true (qY x_21)]
abbrev bEd (n_0 n_3 n_6 n_15:Int) (x_21:List Int×Nat×Int×List UInt8×Bool×List Int):List Blk:=[Blk.mk BK.exact false (bF0 n_0 n_3 n_6 n_15 x_21),Blk.mk BK.exact false [aB6,dR n_0,dR n_3,bO,bO,bO,bO,bO,.nils,.nils,dR n_6,dR n_15,aPn x_21,.str [],.bool x_21.2.2.2.2.1],Blk.mk BK.grow true (aA x_21.1),Blk.mk BK.grow true (qY x_21)]
def uX (x_18:List Int×List UInt8×Bool) (n_9:Int) (n_20:Int) (n_0:Int) (n_3:Int) (n_6:Int) (n_15:Int) (Q:Out→List Blk→Gh→Prop):Prop:=
((∃x_21:List Int,bE6 x_18 x_21 n_9 n_20∧aHk∧aK (aOs n_0 n_3 n_6 n_15 x_18)∧aA x_18.1=aA x_21∧uM∧aK (dO n_20)∧zX n_9∧AV.sl 2 x_18.1.length 0 x_18.1.length 1=AV.sl 2 x_21.length 0 x_21.length 1 ∧
 aK (AV.int .i64 0)∧True)∨∃x_21:List Int×Nat×Int×List UInt8×Bool×List Int,aYk x_18 x_21 n_9 n_20∧mJ)∧(∀x_21:List Int,bE6 x_18 x_21 n_9 n_20→bif decide (0<n_9) then bif x_18.2.2 then Q (aHg n_0 n_3
 n_6 n_15) [] {} else ckQ (Nat.blt 0 x_21.length&&aHz x_21&&true) (ckQ (aHz x_21&&Nat.blt 0 x_21.length) (exV IntKind.i64 (aUj x_21) (fun n_22=>bif n_22==3 then Q (aHg n_0 n_3 n_6 n_15) [] {} else ckQ (Nat.blt 0
 x_21.length&&aHz x_21&&true) (ckQ (aHz x_21&&Nat.blt 0 x_21.length) (exV IntKind.i64 (aUj x_21) (fun n_23=>bif n_23==0 then exI .i64 1 (fun n_24=>aCj∧((∃y_25:List Int,bE6 x_18 y_25 n_9 n_20∧n_9.toNat+1
 < n_9.toNat+1∧mJ)∨∃y_25:List Int×Nat×Int×List UInt8×Bool×List Int,aYk x_18 y_25 n_9 n_20∧n_9.toNat-y_25.2.1<n_9.toNat+1∧aHk∧[AV.int .i64 6,dR n_0,dR n_3,bO,bO,bO,bO,bO,.nils,
 .nils,dR n_6,dR n_15,.sl 3 1 0 1 1,.str x_18.2.1,.bool x_18.2.2]=aSd n_0 n_3 n_6 n_15 y_25∧aA x_21=aA y_25.1∧[AV.int .i64 (-1)]=qY y_25∧uM∧dO n_20=AV.int .i64 y_25.2.2.1∧zX n_9 ∧
 AV.sl 2 x_21.length 0 x_21.length 1=aZ2 y_25∧dO n_24=AV.int .i64 (y_25.2.1:Int)∧True)) else ckQ (Nat.blt 0 x_21.length&&aHz x_21&&true) (ckQ (aHz x_21&&Nat.blt 0 x_21.length) (exV IntKind.i64 (aUj x_21) (fun n_24
 => bif n_24==1 then Lf ((0:Int)≤(1:Int)∧(1:Int)≤(4:Int)∧okH [aSc,aOh n_0 n_3 n_6 n_15 x_18,Blk.mk BK.grow true (aA x_21)])∧∀n_25:Int,∀l'_26:List UInt8,∀b'_27:Bool,Lf (tkM (Int.toNat 1) x_18.2.1
 x_18.2.2=Prod.mk n_25 (Prod.mk l'_26 b'_27))→bO4 n_20 n_25 x_18 n_9 n_0 n_3 n_6 n_15 l'_26 b'_27 x_21 else Lf (aFc∧aEo∧okH [aSc,aOh n_0 n_3 n_6 n_15 x_18,Blk.mk BK.grow true (aA x_21)])∧∀n_25:Int,∀l'_26:List
 UInt8,∀b'_27:Bool,Lf (tkM (Int.toNat 2) x_18.2.1 x_18.2.2=Prod.mk n_25 (Prod.mk l'_26 b'_27))→exW .i16 n_25 (fun n_28=>exW .i64 n_28 (fun n_29=>bO4 n_20 n_29 x_18 n_9 n_0 n_3 n_6 n_15 l'_26 b'_27 x_21)))))))))))
 else bif x_18.2.2 then Q (aHg n_0 n_3 n_6 n_15) [] {} else Q (.ret (.tup [bG2 n_0 n_3 n_6 n_15,.bool true])) [] {})∧∀x_21:List Int×Nat×Int×List UInt8×Bool×List Int,aYk x_18 x_21 n_9 n_20→bif decide ((x_21.2.1:Int)
 < n_9) then bif x_21.2.2.2.2.1 then bAx Q n_0 n_3 n_6 n_15 x_21 else ckQ (aVy x_21) (ckQ (aUf x_21) (exV IntKind.i64 (aTn x_21) (fun n_22=>bif n_22==3 then bAx Q n_0 n_3 n_6 n_15 x_21 else ckQ (aVy x_21) (ckQ (aUf x_21)
 (exV IntKind.i64 (aTn x_21) (fun n_23=>bif n_23==0 then ckQ (aWl x_21) (exW .i64 ((x_21.2.1:Int)+1) (fun n_24=>aCj∧((∃y_25:List Int,bE6 x_18 y_25 n_9 n_20∧n_9.toNat+1<n_9.toNat-x_21.2.1∧mJ)∨∃
 y_25:List Int×Nat×Int×List UInt8×Bool×List Int,aYk x_18 y_25 n_9 n_20∧n_9.toNat-y_25.2.1<n_9.toNat-x_21.2.1∧aHk∧[AV.int .i64 6,dR n_0,dR n_3,bO,bO,bO,bO,bO,.nils,.nils,dR n_6,dR n_15,
 .sl 3 (uD x_21+1) 0 (uD x_21+1) 1,.str x_21.2.2.2.1,.bool x_21.2.2.2.2.1]=aSd n_0 n_3 n_6 n_15 y_25∧aA x_21.1=aA y_25.1∧qY x_21++[AV.int .i64 (-1)]=qY y_25∧uM∧AV.int .i64 x_21.2.2.1=AV.int
 .i64 y_25.2.2.1∧aWo n_9 x_21 y_25 n_24))) else ckQ (aVy x_21) (ckQ (aUf x_21) (exV IntKind.i64 (aTn x_21) (fun n_24=>bif n_24==1 then Lf ((0:Int)≤(1:Int)∧(1:Int)≤(4:Int)∧bBr n_0 n_3 n_6 n_15 x_21)∧∀n_25 :
 Int,∀l'_26:List UInt8,∀b'_27:Bool,Lf (tkM (Int.toNat 1) x_21.2.2.2.1 x_21.2.2.2.2.1=Prod.mk n_25 (Prod.mk l'_26 b'_27))→exW .i64 (x_21.2.2.1+n_25) (fun n_28=>ckQ (aWl x_21) (exW .i64 ((x_21.2.1:Int)+1)
 (fun n_29=>aCj∧((∃y_30:List Int,bE6 x_18 y_30 n_9 n_20∧n_9.toNat+1<n_9.toNat-x_21.2.1∧mJ)∨∃y_30:List Int×Nat×Int×List UInt8×Bool×List Int,aYk x_18 y_30 n_9 n_20∧n_9.toNat-y_30.2.1<n_9.toNat
 - x_21.2.1∧aHk∧[AV.int .i64 6,dR n_0,dR n_3,bO,bO,bO,bO,bO,.nils,.nils,dR n_6,dR n_15,.sl 3 (uD x_21+1) 0 (uD x_21+1) 1,.str l'_26,.bool b'_27]=aSd n_0 n_3 n_6 n_15 y_30∧aA x_21.1 =
 aA y_30.1∧qY x_21++[dO n_28]=qY y_30∧uM∧dO n_28=AV.int .i64 y_30.2.2.1∧aWo n_9 x_21 y_30 n_29)))) else Lf (aFc∧aEo∧bBr n_0 n_3 n_6 n_15 x_21)∧∀n_25:Int,∀l'_26:List UInt8,∀b'_27
 : Bool,Lf (tkM (Int.toNat 2) x_21.2.2.2.1 x_21.2.2.2.2.1=Prod.mk n_25 (Prod.mk l'_26 b'_27))→exW .i16 n_25 (fun n_28=>exW .i64 n_28 (fun n_29=>exW .i64 (x_21.2.2.1+n_29) (fun n_30=>ckQ (aWl x_21) (exW
 IntKind.i64 ((x_21.2.1:Int)+1) (fun n_31=>aCj∧((∃y_32:List Int,bE6 x_18 y_32 n_9 n_20∧n_9.toNat+1<n_9.toNat-x_21.2.1∧mJ)∨∃y_32:List Int×Nat×Int×List UInt8×Bool×List Int,aYk x_18 y_32 n_9 n_20
 ∧ n_9.toNat-y_32.2.1<n_9.toNat-x_21.2.1∧aHk∧[AV.int .i64 6,dR n_0,dR n_3,bO,bO,bO,bO,bO,.nils,.nils,dR n_6,dR n_15,.sl 3 (uD x_21+1) 0 (uD x_21+1) 1,.str l'_26,.bool b'_27]=aSd n_0
 n_3 n_6 n_15 y_32∧aA x_21.1=aA y_32.1∧qY x_21++[dO n_30]=qY y_32∧uM∧dO n_30=AV.int .i64 y_32.2.2.1∧aWo n_9 x_21 y_32 n_31))))))))))))))) else bif x_21.2.2.2.2.1 then Q (.ret (.tup [.agg (bF0 n_0
 n_3 n_6 n_15 x_21),.bool false])) (bEd n_0 n_3 n_6 n_15 x_21) {} else Q (.ret (.tup [.agg (bF0 n_0 n_3 n_6 n_15 x_21),.bool true])) (bEd n_0 n_3 n_6 n_15 x_21) {}
abbrev aWx (n_0 n_3 n_6:Int) (l'_7:List UInt8) (b'_8:Bool):Prop:=okH [aSc,Blk.mk BK.exact true [aB6,dR n_0,dR n_3,bO,bO,bO,bO,bO,.nils,.nils,dR n_6,bO,.nils,.str l'_7,.bool b'_8]]
abbrev aS0 (n_0 n_3 n_6 n_15:Int) (l'_16:List UInt8) (b'_17:Bool):List AV:=[.int .i64 6,dR n_0,dR n_3,bO,bO,bO,bO,bO,.nils,.nils,dR n_6,dR n_15,.nils,.str l'_16,.bool b'_17]
abbrev aQr (x_18:List Int×List UInt8×Bool) (n_9:Int) (l'_16:List UInt8) (b'_17:Bool):Prop:=Lf (1≤x_18.1.length∧x_18.1.length≤n_9.toNat+7∧bFt n_9 l'_16 b'_17 x_18.1 x_18.2.1 x_18.2.2)
abbrev bAk (n_12 n_9:Int) (b'_17:Bool) (n_0 n_3 n_6 n_15:Int) (l'_16:List UInt8) (Q:Out→List Blk→Gh→Prop):Prop:=exW .i64 (n_12*256) (fun n_20=>(∃x_21:Nat,Lf (x_21=0∧(n_9≤0∨b'_17=true))∧aHk∧aK (aS0 n_0 n_3 n_6 n_15 l'_16 b'_17)∧uM∧zX n_20∧zX n_9∧AV.nils=AV.nils∧AV.int .i64 0=AV.int .i64 (x_21:Int)∧True)∧∀x_21:Nat,Lf (x_21=0∧(n_9≤0∨b'_17=true))→bif decide ((x_21:Int)<n_9) then ckQ b'_17 (Q (aHg n_0 n_3 n_6 n_15) [] {}) else bif b'_17 then Q (aHg n_0 n_3 n_6 n_15) [] {} else Q (.ret (.tup [bG2 n_0 n_3 n_6 n_15,.bool true])) [] {})
abbrev oG (n_23:Int):Int:=(((n_23%18446744073709551616).toNat &&& 3:Nat):Int)
abbrev aLs (x_18:List Int×List UInt8×Bool):Nat:=x_18.1.length+1
abbrev aM4 (x_18:List Int×List UInt8×Bool):Nat:=x_18.1.length+1+1
abbrev tX (x_18:List Int×List UInt8×Bool):Nat:=x_18.1.length+1+1+1
abbrev nV (x_18:List Int×List UInt8×Bool):Nat:=tX x_18+1+1
theorem bJg (s:List UInt8) (Q:Out→List Blk→Gh→Prop):aCr (bG [(249906,.int .i64),(249901,.int .i64),(249902,.int .i64),(249882,.int .i64),(249926,.int .i64),(249936,.int .i64),(249953,.int .i64),(249958,
 .int .i64),(249914,.int .i16),(249915,.int .i64),(249916,.int .i64),(249971,.int .i64)]) (bF []) s Q=(Lf ((0:Int)≤(4:Int)∧(4:Int)≤(4:Int)∧okH [aSc,Blk.mk BK.exact true [bO,bO,bO,bO,bO,bO,
 bO,bO,.nils,.nils,bO,bO,.nils,.str s,.bool false]])∧∀n_0:Int,∀l'_1:List UInt8,∀b'_2:Bool,Lf (tkM (Int.toNat 4) s false=Prod.mk n_0 (Prod.mk l'_1 b'_2))→Lf ((0:Int)≤(4:Int)∧(4:Int)≤(4:Int) ∧
 okH [aSc,Blk.mk BK.exact true [bO,dR n_0,bO,bO,bO,bO,bO,bO,.nils,.nils,bO,bO,.nils,.str l'_1,.bool b'_2]])∧∀n_3:Int,∀l'_4:List UInt8,∀b'_5:Bool,Lf (tkM (Int.toNat 4) l'_1 b'_2=Prod.mk n_3
 (Prod.mk l'_4 b'_5))→Lf (aFc∧aEo∧okH [aSc,Blk.mk BK.exact true [aB6,dR n_0,dR n_3,bO,bO,bO,bO,bO,.nils,.nils,bO,bO,.nils,.str l'_4,.bool b'_5]])∧∀n_6:Int,∀l'_7:List UInt8,∀b'_8 :
 Bool,Lf (tkM (Int.toNat 2) l'_4 b'_5=Prod.mk n_6 (Prod.mk l'_7 b'_8))→Lf (aFc∧aEo∧aWx n_0 n_3 n_6 l'_7 b'_8)∧∀n_9:Int,∀l'_10:List UInt8,∀b'_11:Bool,Lf (tkM (Int.toNat 2) l'_7 b'_8=Prod.mk n_9 (Prod.mk l'_10
 b'_11))→Lf ((0:Int)≤(3:Int)∧(3:Int)≤(4:Int)∧aWx n_0 n_3 n_6 l'_10 b'_11)∧∀n_12:Int,∀l'_13:List UInt8,∀b'_14:Bool,Lf (tkM (Int.toNat 3) l'_10 b'_11=Prod.mk n_12 (Prod.mk l'_13 b'_14))→Lf ((0:Int)≤(1
 : Int)∧(1:Int)≤(4:Int)∧aWx n_0 n_3 n_6 l'_13 b'_14)∧∀n_15:Int,∀l'_16:List UInt8,∀b'_17:Bool,Lf (tkM (Int.toNat 1) l'_13 b'_14=Prod.mk n_15 (Prod.mk l'_16 b'_17))→((∃x_18:Nat,Lf (x_18=0)∧aHk∧aK
 (aS0 n_0 n_3 n_6 n_15 l'_16 b'_17)∧uM∧aK (dO n_12)∧zX n_9∧AV.nils=AV.nils∧True)∨∃x_18:List Int×List UInt8×Bool,aQr x_18 n_9 l'_16 b'_17∧aHk∧aS0 n_0 n_3 n_6 n_15 l'_16 b'_17=aOs n_0 n_3 n_6 n_15
 x_18∧False)∧(∀x_18:Nat,Lf (x_18=0)→exI .i64 0 (fun n_19=>bif decide (n_19<n_9) then bif b'_17 then bAk n_12 n_9 b'_17 n_0 n_3 n_6 n_15 l'_16 Q else Lf (aFc∧aEo∧okH [aSc,Blk.mk BK.exact true [aB6,dR
 n_0,dR n_3,bO,bO,bO,bO,bO,.nils,.nils,dR n_6,dR n_15,.nils,.str l'_16,.bool b'_17]])∧∀n_20:Int,∀l'_21:List UInt8,∀b'_22:Bool,Lf (tkM (Int.toNat 2) l'_16 b'_17=Prod.mk n_20 (Prod.mk l'_21 b'_22))
 → exI .i64 (Int.fdiv n_20 4096) (fun n_23=>exW .i64 (oG n_23) (fun n_24=>exI .i64 (Int.fdiv n_20 1024) (fun n_25=>exW .i64 (oG n_25) (fun n_26=>exI .i64 (Int.fdiv n_20 256) (fun n_27=>exW
 IntKind.i64 (oG n_27) (fun n_28=>exI .i64 (Int.fdiv n_20 64) (fun n_29=>exW .i64 (oG n_29) (fun n_30=>exI .i64 (Int.fdiv n_20 16) (fun n_31=>exW .i64 (oG n_31) (fun n_32=>exI .i64
 (Int.fdiv n_20 4) (fun n_33=>exW .i64 (oG n_33) (fun n_34=>exI .i64 (Int.fdiv n_20 1) (fun n_35=>exW .i64 (oG n_35) (fun n_36=>aCj∧((∃y_37:Nat,Lf (y_37=0)∧n_9.toNat+1<n_9.toNat+1∧aHk
 ∧ aS0 n_0 n_3 n_6 n_15 l'_21 b'_22=aS0 n_0 n_3 n_6 n_15 l'_16 b'_17∧False)∨∃y_37:List Int×List UInt8×Bool,aQr y_37 n_9 l'_16 b'_17∧n_9.toNat-y_37.1.length<n_9.toNat+1∧aHk∧aS0 n_0 n_3 n_6 n_15 l'_21 b'_22 =
 aOs n_0 n_3 n_6 n_15 y_37∧[AV.int .i64 n_24,dR n_26,dR n_28,dR n_30,dR n_32,dR n_34,dR n_36]=aA y_37.1∧uM∧aK (dO n_12)∧zX n_9∧AV.sl 2 7 0 7 1=AV.sl 2 y_37.1.length 0 y_37.1.length 1 ∧
 True))))))))))))))) else bAk n_12 n_9 b'_17 n_0 n_3 n_6 n_15 l'_16 Q))∧∀x_18:List Int×List UInt8×Bool,aQr x_18 n_9 l'_16 b'_17→ckQ (Nat.beq (aA x_18.1).length x_18.1.length) (exI .i64 (x_18.1.length:Int) (fun
 n_19=>bif decide (n_19<n_9) then bif x_18.2.2 then exW .i64 (n_12*256) (fun n_20=>uX x_18 n_9 n_20 n_0 n_3 n_6 n_15 Q) else Lf (aFc∧aEo∧okH [aSc,aOh n_0 n_3 n_6 n_15 x_18,Blk.mk BK.grow true (aA
 x_18.1)])∧∀n_20:Int,∀l'_21:List UInt8,∀b'_22:Bool,Lf (tkM (Int.toNat 2) x_18.2.1 x_18.2.2=Prod.mk n_20 (Prod.mk l'_21 b'_22))→exI .i64 (Int.fdiv n_20 4096) (fun n_23=>exW .i64 (oG n_23) (fun n_24=>ckQ
 (Nat.beq (aA x_18.1).length x_18.1.length&&true&&Nat.beq (0+x_18.1.length*1) x_18.1.length&&Nat.ble (aLs x_18) 1099511627776&&Nat.ble (aLs x_18*8) 1099511627776) (exI .i64 (Int.fdiv n_20 1024) (fun n_25=>exW
 IntKind.i64 (oG n_25) (fun n_26=>ckQ (Nat.beq (aA x_18.1++[dO n_24]).length (aLs x_18)&&true&&Nat.beq (0+aLs x_18*1) (aLs x_18)&&Nat.ble (aM4 x_18) 1099511627776&&Nat.ble (aM4 x_18*8) 1099511627776)
 (exI .i64 (Int.fdiv n_20 256) (fun n_27=>exW .i64 (oG n_27) (fun n_28=>ckQ (Nat.beq (aA x_18.1++[dO n_24]++[dO n_26]).length (aM4 x_18)&&true&&Nat.beq (0+aM4 x_18*1) (aM4 x_18)&&Nat.ble
 (tX x_18) 1099511627776&&Nat.ble (tX x_18*8) 1099511627776) (exI .i64 (Int.fdiv n_20 64) (fun n_29=>exW .i64 (oG n_29) (fun n_30=>ckQ (Nat.beq (aA x_18.1++[dO n_24]++[dO n_26]++[dO
 n_28]).length (tX x_18)&&true&&Nat.beq (0+tX x_18*1) (tX x_18)&&Nat.ble (tX x_18+1) 1099511627776&&Nat.ble ((tX x_18+1)*8) 1099511627776) (exI .i64 (Int.fdiv n_20 16) (fun n_31=>exW .i64
 (oG n_31) (fun n_32=>ckQ (Nat.beq (aA x_18.1++[dO n_24]++[dO n_26]++[dO n_28]++[dO n_30]).length (tX x_18+1)&&true&&Nat.beq (0+(tX x_18+1)*1) (tX x_18+1)&&Nat.ble (nV x_18)
 1099511627776&&Nat.ble (nV x_18*8) 1099511627776) (exI .i64 (Int.fdiv n_20 4) (fun n_33=>exW .i64 (oG n_33) (fun n_34=>ckQ (Nat.beq (aA x_18.1++[dO n_24]++[AV.int .i64 n_26]++[dO n_28] ++
 [dO n_30]++[dO n_32]).length (nV x_18)&&true&&Nat.beq (0+nV x_18*1) (nV x_18)&&Nat.ble (nV x_18+1) 1099511627776&&Nat.ble ((nV x_18+1)*8) 1099511627776) (exI .i64 (Int.fdiv n_20 1) (fun n_35
 => exW .i64 (oG n_35) (fun n_36=>ckQ (Nat.beq (aA x_18.1++[dO n_24]++[dO n_26]++[dO n_28]++[dO n_30]++[dO n_32]++[dO n_34]).length (nV x_18+1)&&true&&Nat.beq (0+(nV x_18+1)*1)
 (nV x_18+1)&&Nat.ble (nV x_18+1+1) 1099511627776&&Nat.ble ((nV x_18+1+1)*8) 1099511627776) (aCj∧((∃y_37:Nat,Lf (y_37=0)∧n_9.toNat+1<n_9.toNat-x_18.1.length∧aHk∧aS0 n_0 n_3 n_6 n_15 l'_21
 b'_22=aS0 n_0 n_3 n_6 n_15 l'_16 b'_17∧False)∨∃y_37:List Int×List UInt8×Bool,aQr y_37 n_9 l'_16 b'_17∧n_9.toNat-y_37.1.length<n_9.toNat-x_18.1.length∧aHk∧aS0 n_0 n_3 n_6 n_15 l'_21 b'_22=[AV.int .i64
 6,dR n_0,dR n_3,bO,bO,bO,bO,bO,.nils,.nils,dR n_6,dR n_15,.nils,.str y_37.2.1,.bool y_37.2.2]∧aA x_18.1++[dO n_24]++[dO n_26]++[dO n_28]++[dO n_30]++[dO n_32]++[dO n_34]
 ++ [dO n_36]=aA y_37.1∧uM∧aK (dO n_12)∧zX n_9∧AV.sl 2 (nV x_18+1+1) 0 (nV x_18+1+1) 1=AV.sl 2 y_37.1.length 0 y_37.1.length 1∧True)))))))))))))))))))))) else exW .i64 (n_12*256) (fun
 n_20=>uX x_18 n_9 n_20 n_0 n_3 n_6 n_15 Q)))):=by kernel_rfl

theorem mM {a b:List Int} (h:aA a=aA b):a=b:=by
 have:=congrArg (List.map unI) h
 simpa [aA,unI,List.map_map,Function.comp_def] using this
theorem aFz {xs:List Int} {i j:Nat} (hi:i<xs.length) (hj:j=i) {K:Int→Prop} (hk:K (xs.getD i 0)):∃n:Int,(((aA xs).drop j).take 1).getD 0 AV.undef=AV.int .i64 n∧K n:=by
 subst hj
 refine ⟨_, ?_,hk⟩
 rw[List.getD_eq_getElem?_getD,List.getElem?_take,if_pos (by omega),List.getElem?_drop,Nat.add_zero]
 simp[aA,hi]
theorem bA9 {H:List Blk} {f a ba ro:Int} {acc:List Int} {fl:Bool} (hH:H[3]? = some ⟨.grow,true,aA acc⟩) :
  aL2 (.tup [.agg [.int .i64 6,.int .i64 f,.int .i64 a,.int .i64 0,.int .i64 0,.int .i64 0,.int .i64 0,.int .i64 0,.nils,.nils,.int .i64 ba,.int .i64 ro,.sl 3 acc.length 0 acc.length 1],.bool fl]) H=.tup [.agg (ctC ⟨6,f,a,0,0,0,0,0,[],[],ba,ro,acc⟩),.bool fl]:=by
 have e:dK 0 H 7 (.sl 3 acc.length 0 acc.length 1)=.lst 0 (aA acc) acc.length 1:=
  mE (d:=5) hH (aB acc) (by omega) (by simp) (by rw[List.drop_zero];exact List.take_of_length_le (by rw[aB];omega)) (fO acc)
 show ctK (.tup [.agg [.int .i64 6,.int .i64 f,.int .i64 a,.int .i64 0,.int .i64 0,.int .i64 0,.int .i64 0,.int .i64 0,.nils,.nils,.int .i64 ba,.int .i64 ro,dK 0 H 7 (.sl 3 acc.length 0 acc.length 1)],.bool fl])=_
 rw[e]
 rfl
theorem bL9 {b:Bool} {P:Bool→Prop} (h:P (!b)):bif b then P false else P true:=by cases b<;>exact h
theorem aAt {sg:List Int} {n i:Nat} {la:Int} {l:List UInt8} {b:Bool} {acc:List Int} (h:b=true∨sg.getD i 0=3):eH sg (n+1) i la l b acc=(acc,true):=by rw[eH,if_pos h]
theorem bQi {sg:List Int} {n i:Nat} {la:Int} {l:List UInt8} {b:Bool} {acc:List Int} (h:b=false) (h0:sg.getD i 0=0):eH sg (n+1) i la l b acc=eH sg n (i+1) la l b (acc++[-1]):=by
 rw[eH,if_neg (by rw[h,h0];simp),if_pos h0]
theorem bQv {sg:List Int} {n i:Nat} {la x:Int} {l l':List UInt8} {b b':Bool} {acc:List Int} (h:b=false) (h0:sg.getD i 0=1) (e:tkM 1 l b=(x,l',b')):eH sg (n+1) i la l b acc=eH sg n (i+1) (la+x) l' b' (acc++[la+x]):=by
 rw[eH,if_neg (by rw[h,h0];simp),if_neg (by omega),if_pos h0,e]
theorem bQh {sg:List Int} {n i:Nat} {la x:Int} {l l':List UInt8} {b b':Bool} {acc:List Int} (h:b=false) (h3:sg.getD i 0≠3) (h0:sg.getD i 0≠0) (h1:sg.getD i 0≠1) (e:tkM 2 l b=(x,l',b')):eH sg (n+1) i la l b acc=eH sg n (i+1) (la+sxM x) l' b' (acc++[la+sxM x]):=by
 rw[eH,if_neg (by rw[h];simpa using h3),if_neg h0,if_neg h1,e]
theorem sxI {x:Int} (hx:0≤x∧x<65536) {K:Int→Prop} (h:K (sxM x)):∃n,AV.int .i16 (IntKind.wrap .i16 x)=AV.int .i16 n∧∃m,AV.int .i64 (IntKind.wrap .i64 n)=AV.int .i64 m∧K m:=by
 have e:IntKind.wrap .i16 x=sxM x:=by
  unfold sxM
  simp only[IntKind.wrap,IntKind.bits,IntKind.signed,Bool.true_and,ge_iff_le,decide_eq_true_eq]
  have e2:(2:Int)^16=65536:=rfl
  have e3:(2:Int)^(16-1)=32768:=rfl
  rw[e2,e3]
  split<;>split<;>omega
 rw[e]
 refine ⟨_,rfl, ?_⟩
 unfold sxM at h ⊢
 split at h
 ·rename_i h1;rw[if_pos h1];exact aC (by omega) (by omega) h
 ·rename_i h1;rw[if_neg h1];exact aC (by omega) (by omega) h
theorem bA8 {x:Int} (hx:0≤x∧x<65536) : -32768≤sxM x∧sxM x<32768:=by unfold sxM;split<;>omega
theorem aYa {l l':List UInt8} {b b':Bool} {n:Int} (h:tkM 1 l b=(n,l',b')):0≤n∧n<65536:=by
 have:=aMc h (by decide)
 unfold tkM at h
 split at h
 ·simp only[Prod.mk.injEq] at h;omega
 ·simp only[Prod.mk.injEq] at h
  have h1:=aN8 (l.take 1)
  have h2:(256:Int)^(l.take 1).length≤65536:=by
   have:(l.take 1).length≤1:=by rw[List.length_take];omega
   generalize (l.take 1).length=m at this
   obtain rfl | rfl:m=0∨m=1:=by omega
   all_goals decide
  omega
theorem aJs {k:Nat} {l l':List UInt8} {b b':Bool} {n:Int} (h:tkM k l b=(n,l',b')):b'=false→b=false:=by
 unfold tkM at h
 split at h
 ·simp only[Prod.mk.injEq] at h;intro hb;rw[hb] at h;simp at h
 ·simp only[Prod.mk.injEq] at h;intro hb;rw[hb] at h;exact h.2.2
theorem aKd (sg0:List Int) (l:List UInt8) (b:Bool) (c la n0 n3 n6 n15:Int) (hc:0≤c∧c≤65535) (hsg:b=false→c≤sg0.length) (hln:sg0.length≤100000) (hla:0≤la∧la≤4294967296) (Q:Out→List Blk→Gh→Prop)
  (hq:∀tm bf,eH sg0 c.toNat 0 la l b []=(tm,bf)→∀v H,aL2 v H=.tup [.agg (ctC ⟨6,n0,n3,0,0,0,0,0,[],[],n6,n15,tm⟩),.bool (!bf)]→Q (.ret v) H {}):uX (sg0,l,b) c la n0 n3 n6 n15 Q:=by
 unfold uX
 delta bEd qY aPn dR bO aB6 bF0 aWo dO uM aSd uD aHk aYk bE6 aCj aWl bBr aSc aEo aFc aTn aUf aVy bAx bG2 aHg bO4 aZ2 zX aOh aUj aHz aOs
 refine ⟨.inl ⟨sg0,⟨rfl,rfl,hsg,hla.1,hla.2⟩,rfl,rfl,rfl,rfl,rfl,rfl,rfl,rfl,trivial⟩, ?_, ?_⟩
 ·rintro sg ⟨h1,h2,hs3,h4,h5⟩
  obtain rfl:=mM h1
  dsimp only at hs3 ⊢
  refine aD (fun h => ?_) (fun h => ?_)
  ·obtain ⟨N,hN⟩:∃N,c.toNat=N+1:=⟨c.toNat-1,by omega⟩
   refine splitB (fun hb=>hq [] true (by rw[hN,aAt (.inl hb)]) _ _ rfl) (fun hb => ?_)
   have hl:=hs3 hb
   refine ckI (by simp[aB];omega) (ckI (by simp[aB];omega) (aFz (xs:=sg0) (i:=0) (by omega) (by simp) (aP (fun s3 => ?_) (fun s3 => ?_))))
   ·exact hq [] true (by rw[hN,aAt (.inr s3)]) _ _ rfl
   ·refine ckI (by simp[aB];omega) (ckI (by simp[aB];omega) (aFz (xs:=sg0) (i:=0) (by omega) (by simp) (aP (fun s0 => ?_) (fun s0 => ?_))))
    ·exact ⟨_,rfl,⟨trivial,rfl⟩,.inr ⟨(sg0,1,la,l,b,[-1]),⟨rfl,rfl,hs3,by simp,⟨by dsimp only;omega,rfl,fun h=>h,by dsimp only;omega,by dsimp only;omega,by rw[hN,bQi hb s0];rfl⟩⟩,by dsimp only;omega,rfl,rfl,rfl,rfl,rfl,rfl,rfl,rfl,rfl,trivial⟩⟩
    ·refine ckI (by simp[aB];omega) (ckI (by simp[aB];omega) (aFz (xs:=sg0) (i:=0) (by omega) (by simp) (aP (fun s1 => ?_) (fun s1 => ?_))))
     ·refine ⟨⟨by omega,by omega,aZ3 ⟨rfl,rfl⟩ ⟨rfl,rfl⟩ (iW _)⟩, ?_⟩
      rintro x l2 b2 ⟨e⟩
      have hx:=aYa e
      exact aC (by omega) (by omega) (⟨_,rfl,⟨trivial,rfl⟩,.inr ⟨(sg0,1,la+x,l2,b2,[la+x]),⟨rfl,rfl,hs3,by simp,⟨by dsimp only;omega,rfl,fun h=>aJs e h,by dsimp only;omega,by dsimp only;omega,by rw[hN,bQv hb s1 e];rfl⟩⟩,by dsimp only;omega,rfl,rfl,rfl,rfl,rfl,rfl,rfl,rfl,rfl,trivial⟩⟩)
     ·refine ⟨⟨by omega,by omega,aZ3 ⟨rfl,rfl⟩ ⟨rfl,rfl⟩ (iW _)⟩, ?_⟩
      rintro x l2 b2 ⟨e⟩
      have hx:=nI e
      have hsx:=bA8 hx
      exact sxI hx (aC (by omega) (by omega) (⟨_,rfl,⟨trivial,rfl⟩,.inr ⟨(sg0,1,la+sxM x,l2,b2,[la+sxM x]),⟨rfl,rfl,hs3,by simp,⟨by dsimp only;omega,rfl,fun h=>aJs e h,by dsimp only;omega,by dsimp only;omega,by rw[hN,bQh hb s3 s0 s1 e];rfl⟩⟩,by dsimp only;omega,rfl,rfl,rfl,rfl,rfl,rfl,rfl,rfl,rfl,trivial⟩⟩))
  ·have hN:c.toNat=0:=by omega
   refine bL9 (P:=fun f=>Q (.ret (.tup [.agg _,.bool f])) [] {}) ?_
   exact hq [] b (by rw[hN];rfl) _ _ rfl
 ·rintro ⟨sg,i,la1,l1,b1,ac⟩ ⟨h1,h2,hs3,h4,⟨g1,g2,g3,g4,g5,g6⟩⟩
  obtain rfl:=mM h1
  dsimp only at hs3 h4 g1 g2 g3 g4 g5 g6 ⊢
  refine aD (fun h => ?_) (fun h => ?_)
  ·obtain ⟨N,hN⟩:∃N,c.toNat-i=N+1:=⟨c.toNat-i-1,by omega⟩
   rw[hN] at g6
   refine splitB (fun hb=>hq ac true (by rw[g6,aAt (.inl hb)]) _ _ (bA9 rfl)) (fun hb => ?_)
   have hl:=hs3 (g3 hb)
   refine ckI (by simp[aB];omega) (ckI (by simp[aB];omega) (aFz (xs:=sg0) (i:=i) (by omega) (by simp) (aP (fun s3 => ?_) (fun s3 => ?_))))
   ·exact hq ac true (by rw[g6,aAt (.inr s3)]) _ _ (bA9 rfl)
   ·refine ckI (by simp[aB];omega) (ckI (by simp[aB];omega) (aFz (xs:=sg0) (i:=i) (by omega) (by simp) (aP (fun s0 => ?_) (fun s0 => ?_))))
    ·exact ckI (by simp[aB];omega) (aC (by omega) (by omega) ⟨⟨trivial,rfl⟩,.inr ⟨(sg0,i+1,la1,l1,b1,ac++[-1]),⟨rfl,rfl,hs3,by simp,⟨by dsimp only;omega,by simp;omega,g3,by dsimp only;omega,by dsimp only;omega,by rw[g6,bQi hb s0,show c.toNat-(i+1)=N by omega]⟩⟩,by dsimp only;omega,rfl,by simp,rfl,by simp[aA],rfl,rfl,rfl,rfl,rfl,trivial⟩⟩)
    ·refine ckI (by simp[aB];omega) (ckI (by simp[aB];omega) (aFz (xs:=sg0) (i:=i) (by omega) (by simp) (aP (fun s1 => ?_) (fun s1 => ?_))))
     ·refine ⟨⟨by omega,by omega,bI3 ⟨rfl,rfl⟩ ⟨rfl,rfl⟩ (iW _) (iW _)⟩, ?_⟩
      rintro x l2 b2 ⟨e⟩
      have hx:=aYa e
      exact aC (by omega) (by omega) (ckI (by simp[aB];omega) (aC (by omega) (by omega) ⟨⟨trivial,rfl⟩,.inr ⟨(sg0,i+1,la1+x,l2,b2,ac++[la1+x]),⟨rfl,rfl,hs3,by simp,⟨by dsimp only;omega,by simp;omega,fun h=>g3 (aJs e h),by dsimp only;omega,by dsimp only;omega,by rw[g6,bQv hb s1 e,show c.toNat-(i+1)=N by omega]⟩⟩,by dsimp only;omega,rfl,by simp,rfl,by simp[aA],rfl,rfl,rfl,rfl,rfl,trivial⟩⟩))
     ·refine ⟨⟨by omega,by omega,bI3 ⟨rfl,rfl⟩ ⟨rfl,rfl⟩ (iW _) (iW _)⟩, ?_⟩
      rintro x l2 b2 ⟨e⟩
      have hx:=nI e
      have hsx:=bA8 hx
      exact sxI hx (aC (by omega) (by omega) (ckI (by simp[aB];omega) (aC (by omega) (by omega) ⟨⟨trivial,rfl⟩,.inr ⟨(sg0,i+1,la1+sxM x,l2,b2,ac++[la1+sxM x]),⟨rfl,rfl,hs3,by simp,⟨by dsimp only;omega,by simp;omega,fun h=>g3 (aJs e h),by dsimp only;omega,by dsimp only;omega,by rw[g6,bQh hb s3 s0 s1 e,show c.toNat-(i+1)=N by omega]⟩⟩,by dsimp only;omega,rfl,by simp,rfl,by simp[aA],rfl,rfl,rfl,rfl,rfl,trivial⟩⟩)))
  ·have hN:c.toNat-i=0:=by omega
   rw[hN] at g6
   exact bL9 (P:=fun f=>Q (.ret (.tup [.agg _,.bool f])) _ {}) (hq ac b1 (by rw[g6];rfl) _ _ (bA9 rfl))
theorem bBi {f:Nat} {c:Int} {acc:List Int} {l l':List UInt8} {b b':Bool} {x:Int} (h:(acc.length:Int)<c∧b=false) (e:tkM 2 l b=(x,l',b')):jC (f+1) c acc l b=jC f c (acc++rH x) l' b':=by
 rw[jC,if_pos h,e]
theorem aBy (c:Int) (l0:List UInt8) (b0:Bool):bFt c l0 b0 [] l0 b0:=⟨c.toNat,by simp;omega,rfl⟩
theorem aJ7 {c:Int} {l0 l l':List UInt8} {b0 b b':Bool} {acc:List Int} {x:Int} (g:bFt c l0 b0 acc l b) (h:(acc.length:Int)<c∧b=false) (e:tkM 2 l b=(x,l',b')):bFt c l0 b0 (acc++rH x) l' b':=by
 obtain ⟨f,g1,g2⟩:=g
 obtain ⟨f,rfl⟩:∃m,f=m+1:=⟨f-1,by omega⟩
 refine ⟨f,by simp[rH];omega, ?_⟩
 rw[g2,bBi h e]
theorem aC2 {c:Int} {l0 l:List UInt8} {b0 b:Bool} {acc:List Int} (g:bFt c l0 b0 acc l b) (h:¬ ((acc.length:Int)<c∧b=false)):jC c.toNat c [] l0 b0=(acc,l,b):=by
 obtain ⟨f,_,g2⟩:=g
 rw[g2]
 cases f with
 | zero=>rfl
 | succ f=>rw[jC,if_neg h]
theorem bQ0 {q:Int} (hq:0≤q∧q<65536):((q%18446744073709551616).toNat &&& 3:Nat)=(q%4).toNat:=by
 rw[show (3:Nat)=2^2-1 from rfl,Nat.and_two_pow_sub_one_eq_mod]
 omega
theorem sgI {x d:Int} (hx:0≤x∧x<65536) (hd:1≤d) {K:Int→Prop} (h:K (x/d%4)):∃n,AV.int .i64 (Int.fdiv x d)=AV.int .i64 n∧∃m,AV.int .i64 (IntKind.wrap .i64 (((n%18446744073709551616).toNat &&& 3:Nat):Int))=AV.int .i64 m∧K m:=by
 refine ⟨_,rfl, ?_⟩
 rw[Int.fdiv_eq_ediv_of_nonneg _ (by omega)]
 have h1:0≤x/d:=Int.ediv_nonneg hx.1 (by omega)
 have h2:x/d≤x:=Int.ediv_le_self _ hx.1
 generalize x/d=q at h h1 h2 ⊢
 rw[bQ0 ⟨h1,by omega⟩]
 exact aC (by omega) (by omega) (by rwa [show (((q%4).toNat:Nat):Int)=q%4 by omega])
theorem bQ1 (s:List UInt8) (hs:s.length≤10000) (Q:Out→List Blk→Gh→Prop)
  (hq:∀n l b n1 l1 b1 ba l2 b2 c l3 b3 rf l4 b4 ro l5 b5 sg l6 b6 tm bf,(tkM 4 s false=(n,l,b)∧tkM 4 l b=(n1,l1,b1)∧tkM 2 l1 b1=(ba,l2,b2)∧tkM 2 l2 b2=(c,l3,b3)∧tkM 3 l3 b3=(rf,l4,b4)∧tkM 1 l4 b4=(ro,l5,b5))→jC c.toNat c [] l5 b5=(sg,l6,b6)→eH sg c.toNat 0 (rf*256) l6 b6 []=(tm,bf)→∀v H,aL2 v H=.tup [.agg (ctC ⟨6,n,n1,0,0,0,0,0,[],[],ba,ro,tm⟩),.bool (!bf)]→Q (.ret v) H {}):∃hv hb,aCr hv hb s Q:=by
 obtain ⟨hv,hb',e⟩:∃hv hb,aCr hv hb s Q=_:=⟨_,_,bJg s Q⟩
 refine ⟨hv,hb',e.mpr ?_⟩
 delta bO aSc dR aFc aEo aB6 aWx aHk aS0 uM dO zX aQr aOs bG2 aHg bAk oG aCj aOh aLs aM4 tX nV
 clear e
 refine ⟨⟨by omega,by omega,gK ⟨rfl,rfl⟩ ⟨rfl,rfl⟩⟩, ?_⟩
 rintro x1 l1 b1 ⟨d1⟩
 refine ⟨⟨by omega,by omega,gK ⟨rfl,rfl⟩ ⟨rfl,rfl⟩⟩, ?_⟩
 rintro x2 l2 b2 ⟨d2⟩
 refine ⟨⟨by omega,by omega,gK ⟨rfl,rfl⟩ ⟨rfl,rfl⟩⟩, ?_⟩
 rintro x3 l3 b3 ⟨d3⟩
 refine ⟨⟨by omega,by omega,gK ⟨rfl,rfl⟩ ⟨rfl,rfl⟩⟩, ?_⟩
 rintro x4 l4 b4 ⟨d4⟩
 refine ⟨⟨by omega,by omega,gK ⟨rfl,rfl⟩ ⟨rfl,rfl⟩⟩, ?_⟩
 rintro x5 l5 b5 ⟨d5⟩
 refine ⟨⟨by omega,by omega,gK ⟨rfl,rfl⟩ ⟨rfl,rfl⟩⟩, ?_⟩
 rintro x6 l6 b6 ⟨d6⟩
 have hc:=nI d4
 have hrf:=aMc d5 (by decide)
 have hq:=fun sg l b tm bf e1 e2=>hq _ _ _ _ _ _ _ _ _ _ _ _ _ _ _ _ _ _ sg l b tm bf ⟨d1,d2,d3,d4,d5,d6⟩ e1 e2
 refine ⟨.inl ⟨0,⟨rfl⟩,rfl,rfl,rfl,rfl,rfl,rfl,trivial⟩, ?_, ?_⟩
 ·rintro i ⟨hi⟩
  subst hi
  refine ⟨_,rfl,aD (fun h=>splitB (fun hb => ?_) (fun hb => ?_)) (fun h => ?_)⟩
  ·refine aC (by omega) (by omega) ⟨⟨0,⟨rfl,.inr hb⟩,rfl,rfl,rfl,rfl,rfl,rfl,rfl,trivial⟩, ?_⟩
   have hs0:=aC2 (aBy x4 l6 b6) (by simp[hb])
   rintro i ⟨hi,hc2⟩
   subst hi
   refine aD (fun h2 => ?_) (fun h2 => ?_)
   ·have hb6:b6=true:=hc2.resolve_left (by omega)
    obtain ⟨N,hN⟩:∃N,x4.toNat=N+1:=⟨x4.toNat-1,by omega⟩
    exact ckI hb6 (hq [] l6 b6 [] true hs0 (by rw[hN,aAt (.inl hb6)]) _ _ rfl)
   ·have hN:x4.toNat=0:=by omega
    refine bL9 (P:=fun f=>Q (.ret (.tup [.agg _,.bool f])) [] {}) ?_
    exact hq [] l6 b6 [] b6 hs0 (by rw[hN];rfl) _ _ rfl
  ·refine ⟨⟨by omega,by omega,gK ⟨rfl,rfl⟩ ⟨rfl,rfl⟩⟩, ?_⟩
   rintro x la ba ⟨d7⟩
   have hx:=nI d7
   exact sgI hx (by omega) (sgI hx (by omega) (sgI hx (by omega) (sgI hx (by omega) (sgI hx (by omega) (sgI hx (by omega) (sgI hx (by omega) (⟨⟨trivial,rfl⟩,.inr ⟨(rH x,la,ba),⟨by simp[rH],by simp[rH],aJ7 (aBy x4 l6 b6) ⟨by simpa using h,hb⟩ d7⟩,by simp[rH];omega,rfl,rfl,by simp[rH,aA],rfl,rfl,rfl,rfl,trivial⟩⟩)))))))
  ·refine aC (by omega) (by omega) ⟨⟨0,⟨rfl,.inl (by omega)⟩,rfl,rfl,rfl,rfl,rfl,rfl,rfl,trivial⟩, ?_⟩
   have hs0:=aC2 (aBy x4 l6 b6) (by simp;omega)
   rintro i ⟨hi,hc2⟩
   subst hi
   refine aD (fun h2 => ?_) (fun h2 => ?_)
   ·have hb6:b6=true:=hc2.resolve_left (by omega)
    obtain ⟨N,hN⟩:∃N,x4.toNat=N+1:=⟨x4.toNat-1,by omega⟩
    exact ckI hb6 (hq [] l6 b6 [] true hs0 (by rw[hN,aAt (.inl hb6)]) _ _ rfl)
   ·have hN:x4.toNat=0:=by omega
    refine bL9 (P:=fun f=>Q (.ret (.tup [.agg _,.bool f])) [] {}) ?_
    exact hq [] l6 b6 [] b6 hs0 (by rw[hN];rfl) _ _ rfl
 ·rintro ⟨acc,l,b⟩ ⟨g1,g2,g3⟩
  dsimp only at g1 g2 g3 ⊢
  refine ckI (by simp[aB]) ⟨_,rfl,aD (fun h=>splitB (fun hb => ?_) (fun hb => ?_)) (fun h => ?_)⟩
  ·exact aC (by omega) (by omega) (aKd acc l b x4 (x5*256) x1 x2 x3 x6 (by omega) (fun h=>by simp[hb] at h) (by omega) (by omega) Q (fun tm bf ht v H ho=>hq acc l b tm bf (aC2 g3 (by simp[hb])) ht v H ho))
  ·refine ⟨⟨by omega,by omega,aZ3 ⟨rfl,rfl⟩ ⟨rfl,rfl⟩ (iW _)⟩, ?_⟩
   rintro x la ba ⟨d7⟩
   have hx:=nI d7
   exact sgI hx (by omega) (ckI (by simp[aB];omega) (sgI hx (by omega) (ckI (by simp[aB];omega) (sgI hx (by omega) (ckI (by simp[aB];omega) (sgI hx (by omega) (ckI (by simp[aB];omega) (sgI hx (by omega) (ckI (by simp[aB];omega) (sgI hx (by omega) (ckI (by simp[aB];omega) (sgI hx (by omega) (ckI (by simp[aB];omega) (⟨⟨trivial,rfl⟩,.inr ⟨(acc++rH x,la,ba),⟨by simp[rH],by simp[rH];omega,aJ7 g3 ⟨by omega,hb⟩ d7⟩,by simp[rH];omega,rfl,rfl,by simp[rH,aA],rfl,rfl,rfl,by simp[rH],trivial⟩⟩))))))))))))))
  ·exact aC (by omega) (by omega) (aKd acc l b x4 (x5*256) x1 x2 x3 x6 (by omega) (fun _=>by omega) (by omega) (by omega) Q (fun tm bf ht v H ho=>hq acc l b tm bf (aC2 g3 (by omega)) ht v H ho))
end Go.Proofs.YtafchcmemeinlaaDoor

set_option linter.unusedSimpArgs false
set_option linter.unusedVariables false
set_option linter.unusedSectionVars false
namespace Go.Proofs.YtafchcmemeinlaaDoor
open Go.RowKit
set_option maxRecDepth 1000000

noncomputable def uQ (hv:Nat→Option Pa) (hb:Nat→Option Bool) (k c:Int) (s:List UInt8) (Q:Out→List Blk→Gh→Prop):Prop:=aNe hv hb k c s Q
abbrev bLi (s:List UInt8):Prop:=Lf ((0:Int)≤(4:Int)∧(4:Int)≤(4:Int)∧okH [Blk.mk BK.exact true [.int .i64 0,.int .i64 0,.int .i64 0,.int .i64 0,.int .i64 0,.int .i64 0,.int .i64 0,.int .i64 0,.nils,.nils,.int .i64 0,.int .i64 0,.nils],Blk.mk BK.exact true [.int .i64 0,.int .i64 0,.int .i64 0,.int .i64 0,.int .i64 0,.int .i64 0,.int .i64 0,.int .i64 0,.nils,.nils,.int .i64 0,.int .i64 0,.nils,.str s,.bool false]])
abbrev bIr (n_0:Int):AV:=.agg [.int .i64 0,.int .i64 n_0,.int .i64 0,.int .i64 0,.int .i64 0,.int .i64 0,.int .i64 0,.int .i64 0,.nils,.nils,.int .i64 0,.int .i64 0,.nils]
abbrev bMd (b'_2:Bool) (Q:Out→List Blk→Gh→Prop) (n_0:Int) (l'_1:List UInt8):Prop:=bif b'_2 then Q (.ret (.tup [bIr n_0,.bool false])) [] {} else bif eqB l'_1 [] then ckQ (bK [.str l'_1] [.str l'_1]&&true) (Q (.ret (.tup [bIr n_0,.bool true])) [] {}) else ckQ (bK [.str l'_1] [.str l'_1]&&true) (Q (.ret (.tup [bIr n_0,.bool false])) [] {})
theorem bIu (k:Int) (c:Int) (s:List UInt8) (Q:Out→List Blk→Gh→Prop):uQ (bG [(155668,.lit (.bool false)),(155708,.lit (.bool false)),(155718,.lit (.bool false)),(155725,.lit (.bool false)),(155744,.lit (.bool false)),(155763,.lit (.bool false))]) (bF []) k c s Q=(bLi s∧∀n_0:Int,∀l'_1:List UInt8,∀b'_2:Bool,Lf (tkM (Int.toNat 4) s false=Prod.mk n_0 (Prod.mk l'_1 b'_2))→AV.bool (k==200)=AV.bool false∧AV.bool (k==201)=AV.bool false∧AV.bool (k==203)=AV.bool false∧AV.bool (k==205)=AV.bool false∧AV.bool (k==205)=AV.bool false∧AV.bool (k==206)=AV.bool false∧bMd b'_2 Q n_0 l'_1):=by kernel_rfl

noncomputable def uS (hv:Nat→Option Pa) (hb:Nat→Option Bool) (c:Int) (s:List UInt8) (Q:Out→List Blk→Gh→Prop):Prop:=aNe hv hb 205 c s Q
theorem bJt (c:Int) (s:List UInt8) (Q:Out→List Blk→Gh→Prop):uS (bG [(155728,.lit (.bool false)),(155747,.lit (.bool false))]) (bF []) c s Q=(bLi s∧∀n_0:Int,∀l'_1:List UInt8,∀b'_2:Bool,Lf (tkM (Int.toNat 4) s false=Prod.mk n_0 (Prod.mk l'_1 b'_2))→AV.bool (c==1)=AV.bool false∧AV.bool (c==15)=AV.bool false∧bMd b'_2 Q n_0 l'_1):=by kernel_rfl

theorem tH {x y:Int} (h:x≠y) {A:Prop} (k:A):AV.bool (x==y)=AV.bool false∧A:=⟨by rw[beq_eq_false_iff_ne.2 h],k⟩
theorem bRv (k c:Int) (hk:k≠200∧k≠201∧k≠203∧k≠205∧k≠206) (s:List UInt8) (Q:Out→List Blk→Gh→Prop) (hq:∀n l b,tkM 4 s false=(n,l,b)→∀v,aL2 v []=.tup [.agg (ctC ⟨0,n,0,0,0,0,0,0,[],[],0,0,[]⟩),.bool (aF2 l b)]→Q (.ret v) [] {}):∃hv hb,uQ hv hb k c s Q:=by
 obtain ⟨hv,hb',e⟩:∃hv hb,uQ hv hb k c s Q=_:=⟨_,_,bIu k c s Q⟩
 refine ⟨hv,hb',e.mpr ?_⟩
 delta bLi bIr bMd
 clear e
 refine ⟨⟨by omega,by omega,gK ⟨rfl,rfl⟩ ⟨rfl,rfl⟩⟩, ?_⟩
 rintro n l b ⟨e⟩
 refine tH hk.1 (tH hk.2.1 (tH hk.2.2.1 (tH hk.2.2.2.1 (tH hk.2.2.2.1 (tH hk.2.2.2.2 ?_)))))
 refine aM9 (P:=fun f=>Q (.ret (.tup [.agg _,.bool f])) [] {}) ?_
 exact hq n l b e _ rfl
theorem bRt (c:Int) (hc:c≠1∧c≠15) (s:List UInt8) (Q:Out→List Blk→Gh→Prop) (hq:∀n l b,tkM 4 s false=(n,l,b)→∀v,aL2 v []=.tup [.agg (ctC ⟨0,n,0,0,0,0,0,0,[],[],0,0,[]⟩),.bool (aF2 l b)]→Q (.ret v) [] {}):∃hv hb,uS hv hb c s Q:=by
 obtain ⟨hv,hb',e⟩:∃hv hb,uS hv hb c s Q=_:=⟨_,_,bJt c s Q⟩
 refine ⟨hv,hb',e.mpr ?_⟩
 delta bLi bIr bMd
 clear e
 refine ⟨⟨by omega,by omega,gK ⟨rfl,rfl⟩ ⟨rfl,rfl⟩⟩, ?_⟩
 rintro n l b ⟨e⟩
 refine tH hc.1 (tH hc.2 ?_)
 refine aM9 (P:=fun f=>Q (.ret (.tup [.agg _,.bool f])) [] {}) ?_
 exact hq n l b e _ rfl
def aEj (c:Int) (s:List UInt8):Ctl×Bool:=match tkM 4 s false with
 | (n,l,b)=>match tkM 4 l b with
  | (n1,l1,b1)=>match tkM 4 l1 b1 with
   | (n2,l2,b2)=>match tkM 4 l2 b2 with
    | (n3,l3,b3)=>match tkM 4 l3 b3 with
     | (n4,l4,b4)=>match tkM 4 l4 b4 with
      | (n5,l5,b5)=>match eU c.toNat l5 b5 with
       | (rs,l6,b6)=>(⟨1,n,0,n1,n2,n3,n4,n5,rs,[],0,0,[]⟩,aF2 l6 b6)
def aFa (c:Int) (s:List UInt8):Ctl×Bool:=match tkM 4 s false with
 | (n,l,b)=>match eU c.toNat l b with
  | (rs,l6,b6)=>(⟨2,n,0,0,0,0,0,0,rs,[],0,0,[]⟩,aF2 l6 b6)
def nJ (k:Int) (s:List UInt8):Ctl×Bool:=match tkM 4 s false with
 | (n,l,b)=>(⟨k,n,0,0,0,0,0,0,[],[],0,0,[]⟩,aF2 l b)
def aFg (s:List UInt8):Ctl×Bool:=match tkM 4 s false with
 | (n,l,b)=>match tkM 4 l b with
  | (n1,l1,b1)=>(⟨5,n,n1,0,0,0,0,0,[],[],0,0,[]⟩,aF2 l1 b1)
def bKw (s:List UInt8):Ctl×Bool:=match tkM 4 s false with
 | (n,l,b)=>match tkM 4 l b with
  | (n1,l1,b1)=>match gZ l1.length l1 b1 with
   | (lo,l2,b2)=>(⟨4,n,n1,0,0,0,0,0,[],lo,0,0,[]⟩,aF2 l2 b2)
def bJc (s:List UInt8):Ctl×Bool:=match tkM 4 s false with
 | (n,l,b)=>match tkM 4 l b with
  | (n1,l1,b1)=>match tkM 2 l1 b1 with
   | (ba,l2,b2)=>match tkM 2 l2 b2 with
    | (c,l3,b3)=>match tkM 3 l3 b3 with
     | (rf,l4,b4)=>match tkM 1 l4 b4 with
      | (ro,l5,b5)=>match jC c.toNat c [] l5 b5 with
       | (sg,l6,b6)=>match eH sg c.toNat 0 (rf*256) l6 b6 [] with
        | (tm,bf)=>(⟨6,n,n1,0,0,0,0,0,[],[],ba,ro,tm⟩, !bf)
def eD (k c:Int) (s:List UInt8):Ctl×Bool:=
 if k=200 then aEj c s else if k=201 then aFa c s else if k=203 then nJ 3 s else if k=206 then aFg s
 else if k=205∧c=1 then bKw s else if k=205∧c=15 then bJc s else nJ 0 s
def bDn:Con
 | [.int .i64 k,.int .i64 c,.str s],H,K=>Lf (0≤c∧c≤31∧s.length≤10000)∧∀ct f,Lf (eD k c s=(ct,f))→K (.ret (.tup [.agg (ctC ct),.bool f])) H
 | _,_,_=>False
theorem mV (hv:Nat→Option Pa) (hb:Nat→Option Bool):EnvFor Tryd.prog (aOl hv hb):=aS aGa _ _ _
theorem bDf:aO Tryd.prog glC 38 bDn:=by
 refine fE (enters_of (by kernel_rfl)) aV 9 ctK bIp fun args H Q hc => ?_
 unfold bDn at hc
 split at hc
 ·rename_i k c s
  obtain ⟨⟨h1,h2,h3⟩,hq⟩:=hc
  obtain ⟨c,rfl⟩:=Int.eq_ofNat_of_zero_le h1
  have go:∀ct f,eD k (c:Int) s=(ct,f)→∀v H',aL2 v H'=.tup [.agg (ctC ct),.bool f]→∃w,Out.ret v=.ret w∧Q (.ret (ctK (dK 0 H' 9 w))) H:=fun ct f he v H' ho=>⟨v,rfl,by
   have:=hq ct f ⟨he⟩
   rw[←ho] at this
   exact this⟩
  by_cases k0:k=200
  ·subst k0
   obtain ⟨hv,hb',h⟩:=bRp c (by omega) s (fun o H' _=>∃v,o=.ret v∧Q (.ret (ctK (dK 0 H' 9 v))) H) (by
    rintro n l b n1 n2 n3 n4 n5 l1 b1 l2 b2 l3 b3 l4 b4 l5 b5 rs l6 b6 ⟨e0,e1,e2,e3,e4,e5⟩ er v H' ho
    exact go _ _ ((by unfold eD;rw[if_pos rfl];simp only[aEj,e0,e1,e2,e3,e4,e5,Int.toNat_natCast,er])) v H' ho)
   unfold vF aNe at h
   exact ⟨rfl,rfl,_,1000,mV hv hb',rfl,h⟩
  by_cases k1:k=201
  ·subst k1
   obtain ⟨hv,hb',h⟩:=bRr c (by omega) s (fun o H' _=>∃v,o=.ret v∧Q (.ret (ctK (dK 0 H' 9 v))) H) (by
    rintro n l b rs l1 b1 e0 er v H' ho
    exact go _ _ ((by unfold eD;rw[if_neg (by decide),if_pos rfl];simp only[aFa,e0,Int.toNat_natCast,er])) v H' ho)
   unfold vB aNe at h
   exact ⟨rfl,rfl,_,1000,mV hv hb',rfl,h⟩
  by_cases k2:k=203
  ·subst k2
   obtain ⟨hv,hb',h⟩:=rd_c c s (fun o H' _=>∃v,o=.ret v∧Q (.ret (ctK (dK 0 H' 9 v))) H) (by
    rintro n l b e0 v ho
    exact go _ _ (by unfold eD;rw[if_neg (by decide),if_neg (by decide),if_pos rfl];simp only[nJ,e0]) v [] ho)
   unfold vC aNe at h
   exact ⟨rfl,rfl,_,1000,mV hv hb',rfl,h⟩
  by_cases k3:k=206
  ·subst k3
   obtain ⟨hv,hb',h⟩:=bRa c s (fun o H' _=>∃v,o=.ret v∧Q (.ret (ctK (dK 0 H' 9 v))) H) (by
    rintro n l b n1 l1 b1 e0 e1 v ho
    exact go _ _ (by unfold eD;rw[if_neg (by decide),if_neg (by decide),if_neg (by decide),if_pos rfl];simp only[aFg,e0,e1]) v [] ho)
   unfold uP aNe at h
   exact ⟨rfl,rfl,_,1000,mV hv hb',rfl,h⟩
  by_cases k4:k=205
  ·subst k4
   by_cases c1:c=1
   ·subst c1
    obtain ⟨hv,hb',h⟩:=bRb s h3 (fun o H' _=>∃v,o=.ret v∧Q (.ret (ctK (dK 0 H' 9 v))) H) (by
     rintro n l b n1 l1 b1 lo l2 b2 ⟨e0,e1⟩ er v H' ho
     exact go _ _ (by unfold eD;rw[if_neg (by decide),if_neg (by decide),if_neg (by decide),if_neg (by decide),if_pos ⟨rfl,rfl⟩];simp only[bKw,e0,e1,er]) v H' ho)
    exact ⟨rfl,rfl,_,1000,(aS aGa _ _ _:EnvFor Tryd.prog (aHd hv hb')),rfl,h⟩
   by_cases c2:c=15
   ·subst c2
    obtain ⟨hv,hb',h⟩:=bQ1 s h3 (fun o H' _=>∃v,o=.ret v∧Q (.ret (ctK (dK 0 H' 9 v))) H) (by
     rintro n l b n1 l1 b1 ba l2 b2 c l3 b3 rf l4 b4 ro l5 b5 sg l6 b6 tm bf ⟨e0,e1,e2,e3,e4,e5⟩ eg et v H' ho
     exact go _ _ (by unfold eD;rw[if_neg (by decide),if_neg (by decide),if_neg (by decide),if_neg (by decide),if_neg (by decide),if_pos ⟨rfl,rfl⟩];simp only[bJc,e0,e1,e2,e3,e4,e5,eg,et]) v H' ho)
    exact ⟨rfl,rfl,_,1000,(aS aGa _ _ _:EnvFor Tryd.prog (aG3 hv hb')),rfl,h⟩
   obtain ⟨hv,hb',h⟩:=bRt c ⟨by omega,by omega⟩ s (fun o H' _=>∃v,o=.ret v∧Q (.ret (ctK (dK 0 H' 9 v))) H) (by
    rintro n l b e0 v ho
    exact go _ _ (by
     unfold eD
     rw[if_neg (by omega),if_neg (by omega),if_neg (by omega),if_neg (by omega),if_neg (by omega),if_neg (by omega)]
     simp only[nJ,e0]) v [] ho)
   unfold uS aNe at h
   exact ⟨rfl,rfl,_,1000,mV hv hb',rfl,h⟩
  obtain ⟨hv,hb',h⟩:=bRv k c ⟨k0,k1,k2,k4,k3⟩ s (fun o H' _=>∃v,o=.ret v∧Q (.ret (ctK (dK 0 H' 9 v))) H) (by
    rintro n l b e0 v ho
    exact go _ _ (by
     unfold eD
     rw[if_neg (by omega),if_neg (by omega),if_neg (by omega),if_neg (by omega),if_neg (by omega),if_neg (by omega)]
     simp only[nJ,e0]) v [] ho)
  unfold uQ aNe at h
  exact ⟨rfl,rfl,_,1000,mV hv hb',rfl,h⟩
 ·exact hc.elim
end Go.Proofs.YtafchcmemeinlaaDoor

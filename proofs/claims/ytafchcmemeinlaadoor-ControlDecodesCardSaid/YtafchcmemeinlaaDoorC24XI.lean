/-
  Chapter 24: a packet as octets.
-/
import Derived.Test.YtafchcmemeinlaaDoorC24XH
set_option linter.unusedSimpArgs false
set_option linter.unusedVariables false
set_option linter.unusedSectionVars false
namespace Go.Proofs.YtafchcmemeinlaaDoor
open Go.RowKit
set_option maxRecDepth 1000000

theorem aYt {n:Nat} (hn:n≤100000) {K:Int→Prop} (h:K (((4-n%4)%4:Nat):Int)) :
  ∃n2,AV.int .i64 (IntKind.wrap .i64 (0-(n:Int)))=AV.int .i64 n2∧∃n3,AV.int .i64 (IntKind.wrap .i64 (((n2%18446744073709551616).toNat &&& 3:Nat):Int))=AV.int .i64 n3∧K n3:=by
 refine aC (by omega) (by omega) ?_
 have e1:((0-(n:Int))%18446744073709551616).toNat &&& 3=(4-n%4)%4:=by
  rw[show (3:Nat)=2^2-1 from rfl,Nat.and_two_pow_sub_one_eq_mod]
  omega
 rw[e1]
 exact aC (by omega) (by omega) h
def lZ (p:Nat):List AV:=(List.replicate p [AV.int .u8 0]).flatten
theorem iE:∀p:Nat,lZ p=ofBytes (List.replicate p 0)
 | 0=>rfl
 | p+1=>by
  have:=iE p
  rw[lZ,List.replicate_succ,List.flatten_cons,List.replicate_succ]
  rw[lZ] at this
  rw[this]
  rfl
theorem takeB (B:List UInt8):List.take (B.length*1) (List.drop 0 (ofBytes B))=ofBytes B:=by
 rw[List.drop_zero,Nat.mul_one];exact List.take_of_length_le (by rw[aI];exact Nat.le_refl _)
theorem aAq:∀l:List Int,bK (aA l) (aA l)=true
 | []=>rfl
 | x::l=>by
  have:=aAq l
  simpa [aA,bK,iZ] using this
theorem orC {n:Nat} (hn:n<128) {K:Int→Prop} (h:K (128+(n:Int))):∃n1,AV.int .i64 (IntKind.wrap .i64 ((128 ||| (((n:Nat):Int)%18446744073709551616).toNat:Nat):Int))=AV.int .i64 n1∧K n1:=by
 have e1:(((n:Nat):Int)%18446744073709551616).toNat=n:=by omega
 have e2:128 ||| n=128+n:=(Nat.two_pow_add_eq_or_of_lt (i:=7) (by omega) 1).symm
 rw[e1,e2]
 exact aC (by omega) (by omega) (by rwa [show ((128+n:Nat):Int)=128+(n:Int) by omega])
theorem uY {l:List Rc} {i:Nat} {r:Rc} (h:l[i]? = some r):bY (l.take (i+1))=bY (l.take i)++aF3 r:=by
 rw[List.take_add_one,h,bY,List.flatMap_append]
 simp[bY]
theorem aZy (r:Rc):(aF3 r).length=24:=by simp[aF3,aH]
theorem iI:∀l:List Rc,(bY l).length=24*l.length
 | []=>rfl
 | r::l=>by
  have:=iI l
  rw[bY,List.flatMap_cons,List.length_append,aZy,List.length_cons]
  rw[bY] at this
  omega
theorem aVv {l:List (Int×Int)} {i:Nat} {r:Int×Int} (h:l[i]? = some r):dE (l.take (i+1))=dE (l.take i)++aJ 2 [r.1,r.2]:=by
 rw[List.take_add_one,h,dE,List.flatMap_append]
 simp[dE]
theorem vJ:∀l:List (Int×Int),(dE l).length=4*l.length
 | []=>rfl
 | r::l=>by
  have:=vJ l
  rw[dE,List.flatMap_cons,List.length_append,aH,List.length_cons]
  rw[dE] at this
  simp only[List.length_cons,List.length_nil]
  omega
theorem oJ:∀ (l:List Int) (b m:Int),(dQ b m l).length≤l.length+1
 | [],b,m=>by simp[dQ]
 | n::l,b,m=>by
  rw[dQ]
  split
  ·have:=oJ l n 0;simp;omega
  ·refine Nat.le_trans (oJ l b _) (by simp)
theorem rO (l:List Int):(aM l).length≤l.length:=by
 cases l with
 | nil=>simp[aM]
 | cons n l=>have:=oJ l n 0;simp only[aM,List.length_cons];omega
theorem aMy {l:List (Int×Int)} {i j:Nat} (hi:i<l.length) (hj:j=2*i):∃r,l[i]? = some r∧(aR l |>.drop j).take 2=[.int .i64 r.1,.int .i64 r.2]:=by
 subst hj
 induction l generalizing i with
 | nil=>simp at hi
 | cons x l ih=>
  cases i with
  | zero=>exact ⟨x,rfl,rfl⟩
  | succ i=>
   obtain ⟨r,h1,h2⟩:=ih (i:=i) (by simpa using hi)
   refine ⟨r,by simpa using h1, ?_⟩
   have e:aR (x::l)=[.int .i64 x.1,.int .i64 x.2]++aR l:=rfl
   rw[e,show 2*(i+1)=([AV.int .i64 x.1,.int .i64 x.2]:List AV).length+2*i by simp;omega,←List.drop_drop,List.drop_left]
   exact h2
theorem aQt {xs:List Int} {ro:Int} (h:(aZ xs).2.2=true):(pJ xs ro).length≤400:=by
 obtain ⟨ref,l,h1,h2,h3⟩:=fI h
 have h4:=lH h1
 have h5:=xQ xs
 have h6:=mO (bA xs l) ((xs.length+6)/7*7)
 have h7:=jJ l
 simp only[pJ,h1,List.length_append,gJ]
 omega
theorem bPv (f s1 s2 s3 s4 s5:Int) (rs:List Rc) (hrs:rs.length≤6) (Q:Out→List Blk→Gh→Prop) (hq:∀c1 c2 c3 R,(bB 0 c1=true∧bQ c1=true)→(bB 0 c2=true∧bQ c2=true)→(bB 0 c3=true∧bQ c3=true)→R=cZ ⟨1,f,0,s1,s2,s3,s4,s5,rs,[],0,0,[]⟩→Q (.ret (.sl 3 R.length 0 R.length 1)) [⟨.exact,true,c1⟩,⟨.exact,true,c2⟩,⟨.grow,true,c3⟩,⟨.grow,true,ofBytes R⟩] {}):∃hv hb,zA hv hb f s1 s2 s3 s4 s5 rs Q:=by
 obtain ⟨hv,hb',e⟩:∃hv hb,zA hv hb f s1 s2 s3 s4 s5 rs Q=_:=⟨_,_,aZ6 f s1 s2 s3 s4 s5 rs Q⟩
 refine ⟨hv,hb',e.mpr ?_⟩
 delta aM8 aFv aNm aM5 aFb jA uE gD aLe aFl bGh aLk aAa iG aBh tV aIn aE8 xE sI aFd aEw wL oC uB wY aDx aEr tY aFw aFe uK zS aXk
 unfold tlB
 clear e
 have hR:cZ ⟨1,f,0,s1,s2,s3,s4,s5,rs,[],0,0,[]⟩=fJ (rs.length:Int) 200 (fZ (aJ 4 [f]++aJ 4 [s1,s2,s3,s4,s5]++bY rs)):=by simp[cZ,dG,jV,iX,bY,dE,aM]
 refine ⟨[f],⟨rfl,rfl,by omega,by omega,by simp,by simp⟩,⟨_,[s1,s2,s3,s4,s5],⟨rfl,rfl,rfl,by simp[aH],rfl,rfl,by omega,by omega,by simp⟩,_,rfl,_,rfl,⟨(0,aJ 4 [f]++aJ 4 [s1,s2,s3,s4,s5]),⟨Nat.zero_le _,by simp[bY]⟩,rfl,rfl,rfl,rfl,rfl,rfl,rfl,rfl,rfl,rfl,rfl,trivial⟩, ?_⟩⟩
 rintro ⟨i,B⟩ ⟨g1,g2⟩
 dsimp only at g1 g2 ⊢
 have hl0:4≤B.length∧B.length≤500:=by rw[g2];simp only[List.length_append,aH,iI,List.length_take,List.length_cons,List.length_nil];omega
 refine aD (fun h => ?_) (fun h => ?_)
 ·have hi:i<rs.length:=by omega
  obtain ⟨r,hr,hc⟩:=fK hi (Nat.mul_comm 7 i▸rfl:i*7=7*i)
  refine ckI (by simp;omega) (ckI (by simp[bI];omega) ⟨r.1,r.2.1,r.2.2.1,r.2.2.2.1,r.2.2.2.2.1,r.2.2.2.2.2.1,r.2.2.2.2.2.2,by rw[Int.toNat_natCast,hc];rfl,B,[r.1],⟨rfl,rfl,rfl,by omega,rfl,rfl,by omega,by omega,by simp⟩,_,[r.2.1],⟨rfl,rfl,rfl,by simp[aH];omega,rfl,rfl,by omega,by omega,by simp⟩,_,[r.2.2.1],⟨rfl,rfl,rfl,by simp[aH];omega,rfl,rfl,by omega,by omega,by simp⟩,_,[r.2.2.2.1,r.2.2.2.2.1,r.2.2.2.2.2.1,r.2.2.2.2.2.2],⟨rfl,rfl,rfl,by simp[aH];omega,rfl,rfl,by omega,by omega,by simp⟩,aC (by omega) (by omega) ⟨⟨trivial,rfl⟩,(i+1,B++aJ 4 [r.1]++aJ 1 [r.2.1]++aJ 3 [r.2.2.1]++aJ 4 [r.2.2.2.1,r.2.2.2.2.1,r.2.2.2.2.2.1,r.2.2.2.2.2.2]),⟨hi,by rw[uY hr,g2,aF3];simp only[List.append_assoc]⟩,by dsimp only;omega,rfl,rfl,rfl,rfl,rfl,rfl,rfl,rfl,rfl,rfl,rfl,trivial⟩⟩)
 ·obtain rfl:i=rs.length:=by omega
  rw[List.take_length] at g2
  rw[←g2] at hR
  have hl:4≤B.length∧B.length≤5000:=by omega
  clear hl0
  have hp:fZ B=B++List.replicate ((4-B.length%4)%4) 0:=rfl
  refine ckI (by simp[aI]) ⟨_,rfl,aYt (by omega) ?_⟩
  have hpp:(4-B.length%4)%4<4:=by omega
  have hz:=iE ((4-B.length%4)%4)
  have hlp:(fZ B).length=B.length+(4-B.length%4)%4:=by rw[hp];simp
  generalize (4-B.length%4)%4=p at hp hpp hz hlp ⊢
  rw[lZ] at hz
  rw[Int.toNat_natCast,hz]
  refine ckI (by simp[bU];omega) (aD (fun h0 => ?_) (fun h0 => ?_))
  ·obtain rfl:p=0:=by omega
   rw[List.replicate_zero,List.append_nil] at hp
   rw[hp] at hR
   refine ckI rfl (ckI (by simp[aI]) ?_)
   have htd:((B.length:Nat):Int).tdiv 4=((B.length/4:Nat):Int):=rfl
   refine ⟨_,rfl,orC (by omega) (⟨[128+(rs.length:Int),200],⟨rfl,rfl,by omega,by omega,by simp,by simp⟩,ckI (by simp[aI]) ⟨_,rfl, ?_⟩⟩)⟩
   try dsimp only
   rw[htd]
   refine aC (by omega) (by omega) ⟨_,[_],⟨rfl,rfl,rfl,by first | (simp[aH];done) | (simp[aH];omega),rfl,rfl,by omega,by omega,by simp⟩, ?_⟩
   rw[takeB]
   refine ckI (by simp[aI,bU];omega) (splitB (fun h=>by rw[gF] at h;exfalso;omega) (fun h=>ckI (by simp;omega) (ckI (by simp[aI,aH];omega) ?_)))
   rw[aI,dI,aN,←List.length_append]
   exact hq _ _ _ _ ⟨rfl,rfl⟩ ⟨rfl,rfl⟩ ⟨aN _ _,bS _⟩ (by rw[hR];rfl)
  ·rw[aI (List.replicate p 0),List.length_replicate,aN,dI,←hp]
   refine ckI (by simp;omega) (ckI (by simp[aI];omega) ?_)
   rw[←hlp]
   generalize fZ B=P at hp hR hlp ⊢
   have htd:((P.length:Nat):Int).tdiv 4=((P.length/4:Nat):Int):=rfl
   refine ⟨_,rfl,orC (by omega) (⟨[128+(rs.length:Int),200],⟨rfl,rfl,by omega,by omega,by simp,by simp⟩,ckI (by simp[aI]) ⟨_,rfl, ?_⟩⟩)⟩
   try dsimp only
   rw[htd]
   refine aC (by omega) (by omega) ⟨_,[_],⟨rfl,rfl,rfl,by first | (simp[aH];done) | (simp[aH];omega),rfl,rfl,by omega,by omega,by simp⟩, ?_⟩
   rw[takeB]
   refine ckI (by simp[aI,bU];omega) (splitB (fun h=>by rw[gF] at h;exfalso;omega) (fun h=>ckI (by simp;omega) (ckI (by simp[aI,aH];omega) ?_)))
   rw[aI,dI,aN,←List.length_append]
   exact hq _ _ _ _ ⟨rfl,rfl⟩ ⟨rfl,rfl⟩ ⟨aN _ _,bS _⟩ (by rw[hR];rfl)
theorem bPt (f:Int) (rs:List Rc) (hrs:rs.length≤6) (Q:Out→List Blk→Gh→Prop) (hq:∀c1 c2 c3 R,(bB 0 c1=true∧bQ c1=true)→(bB 0 c2=true∧bQ c2=true)→(bB 0 c3=true∧bQ c3=true)→R=cZ ⟨2,f,0,0,0,0,0,0,rs,[],0,0,[]⟩→Q (.ret (.sl 3 R.length 0 R.length 1)) [⟨.exact,true,c1⟩,⟨.exact,true,c2⟩,⟨.grow,true,c3⟩,⟨.grow,true,ofBytes R⟩] {}):∃hv hb,yC hv hb f rs Q:=by
 obtain ⟨hv,hb',e⟩:∃hv hb,yC hv hb f rs Q=_:=⟨_,_,bBo f rs Q⟩
 refine ⟨hv,hb',e.mpr ?_⟩
 delta aM8 aDy aFv bGl aM1 aLq aBh tV aIn aE8 xE sI aFd aEw aS6 aTd wL jA oC gD aLe uB aAa wY iG aDx aEr tY aFw aFe uK zS aXk
 unfold tlB
 clear e
 have hR:cZ ⟨2,f,0,0,0,0,0,0,rs,[],0,0,[]⟩=fJ (rs.length:Int) 201 (fZ (aJ 4 [f]++bY rs)):=by simp[cZ,dG,jV,iX,bY,dE,aM]
 refine ⟨[f],⟨rfl,rfl,by omega,by omega,by simp,by simp⟩,_,rfl,_,rfl,⟨(0,aJ 4 [f]),⟨Nat.zero_le _,by simp[bY]⟩,rfl,rfl,rfl,rfl,rfl,rfl,rfl,rfl,rfl,rfl,rfl,trivial⟩, ?_⟩
 rintro ⟨i,B⟩ ⟨g1,g2⟩
 dsimp only at g1 g2 ⊢
 have hl0:4≤B.length∧B.length≤500:=by rw[g2];simp only[List.length_append,aH,iI,List.length_take,List.length_cons,List.length_nil];omega
 refine aD (fun h => ?_) (fun h => ?_)
 ·have hi:i<rs.length:=by omega
  obtain ⟨r,hr,hc⟩:=fK hi (Nat.mul_comm 7 i▸rfl:i*7=7*i)
  refine ckI (by simp;omega) (ckI (by simp[bI];omega) ⟨r.1,r.2.1,r.2.2.1,r.2.2.2.1,r.2.2.2.2.1,r.2.2.2.2.2.1,r.2.2.2.2.2.2,by rw[Int.toNat_natCast,hc];rfl,B,[r.1],⟨rfl,rfl,rfl,by omega,rfl,rfl,by omega,by omega,by simp⟩,_,[r.2.1],⟨rfl,rfl,rfl,by simp[aH];omega,rfl,rfl,by omega,by omega,by simp⟩,_,[r.2.2.1],⟨rfl,rfl,rfl,by simp[aH];omega,rfl,rfl,by omega,by omega,by simp⟩,_,[r.2.2.2.1,r.2.2.2.2.1,r.2.2.2.2.2.1,r.2.2.2.2.2.2],⟨rfl,rfl,rfl,by simp[aH];omega,rfl,rfl,by omega,by omega,by simp⟩,aC (by omega) (by omega) ⟨⟨trivial,rfl⟩,(i+1,B++aJ 4 [r.1]++aJ 1 [r.2.1]++aJ 3 [r.2.2.1]++aJ 4 [r.2.2.2.1,r.2.2.2.2.1,r.2.2.2.2.2.1,r.2.2.2.2.2.2]),⟨hi,by rw[uY hr,g2,aF3];simp only[List.append_assoc]⟩,by dsimp only;omega,rfl,rfl,rfl,rfl,rfl,rfl,rfl,rfl,rfl,rfl,rfl,trivial⟩⟩)
 ·obtain rfl:i=rs.length:=by omega
  rw[List.take_length] at g2
  rw[←g2] at hR
  have hl:4≤B.length∧B.length≤5000:=by omega
  clear hl0
  have hp:fZ B=B++List.replicate ((4-B.length%4)%4) 0:=rfl
  refine ckI (by simp[aI]) ⟨_,rfl,aYt (by omega) ?_⟩
  have hpp:(4-B.length%4)%4<4:=by omega
  have hz:=iE ((4-B.length%4)%4)
  have hlp:(fZ B).length=B.length+(4-B.length%4)%4:=by rw[hp];simp
  generalize (4-B.length%4)%4=p at hp hpp hz hlp ⊢
  rw[lZ] at hz
  rw[Int.toNat_natCast,hz]
  refine ckI (by simp[bU];omega) (aD (fun h0 => ?_) (fun h0 => ?_))
  ·obtain rfl:p=0:=by omega
   rw[List.replicate_zero,List.append_nil] at hp
   rw[hp] at hR
   refine ckI rfl (ckI (by simp[aI]) ?_)
   have htd:((B.length:Nat):Int).tdiv 4=((B.length/4:Nat):Int):=rfl
   refine ⟨_,rfl,orC (by omega) (⟨[128+(rs.length:Int),201],⟨rfl,rfl,by omega,by omega,by simp,by simp⟩,ckI (by simp[aI]) ⟨_,rfl, ?_⟩⟩)⟩
   try dsimp only
   rw[htd]
   refine aC (by omega) (by omega) ⟨_,[_],⟨rfl,rfl,rfl,by first | (simp[aH];done) | (simp[aH];omega),rfl,rfl,by omega,by omega,by simp⟩, ?_⟩
   rw[takeB]
   refine ckI (by simp[aI,bU];omega) (splitB (fun h=>by rw[gF] at h;exfalso;omega) (fun h=>ckI (by simp;omega) (ckI (by simp[aI,aH];omega) ?_)))
   rw[aI,dI,aN,←List.length_append]
   exact hq _ _ _ _ ⟨rfl,rfl⟩ ⟨rfl,rfl⟩ ⟨aN _ _,bS _⟩ (by rw[hR];rfl)
  ·rw[aI (List.replicate p 0),List.length_replicate,aN,dI,←hp]
   refine ckI (by simp;omega) (ckI (by simp[aI];omega) ?_)
   rw[←hlp]
   generalize fZ B=P at hp hR hlp ⊢
   have htd:((P.length:Nat):Int).tdiv 4=((P.length/4:Nat):Int):=rfl
   refine ⟨_,rfl,orC (by omega) (⟨[128+(rs.length:Int),201],⟨rfl,rfl,by omega,by omega,by simp,by simp⟩,ckI (by simp[aI]) ⟨_,rfl, ?_⟩⟩)⟩
   try dsimp only
   rw[htd]
   refine aC (by omega) (by omega) ⟨_,[_],⟨rfl,rfl,rfl,by first | (simp[aH];done) | (simp[aH];omega),rfl,rfl,by omega,by omega,by simp⟩, ?_⟩
   rw[takeB]
   refine ckI (by simp[aI,bU];omega) (splitB (fun h=>by rw[gF] at h;exfalso;omega) (fun h=>ckI (by simp;omega) (ckI (by simp[aI,aH];omega) ?_)))
   rw[aI,dI,aN,←List.length_append]
   exact hq _ _ _ _ ⟨rfl,rfl⟩ ⟨rfl,rfl⟩ ⟨aN _ _,bS _⟩ (by rw[hR];rfl)
theorem bNk (bs:List UInt8) (hbs:bs.length≤20000) (f s1 s2 s3 s4 s5:Int) (rs:List Rc) (hrs:rs.length≤6) (Q:Out→List Blk→Gh→Prop) (hq:Q (.ret (.sl 0 (bs++cZ ⟨1,f,0,s1,s2,s3,s4,s5,rs,[],0,0,[]⟩).length 0 (bs++cZ ⟨1,f,0,s1,s2,s3,s4,s5,rs,[],0,0,[]⟩).length 1)) [⟨.grow,true,ofBytes (bs++cZ ⟨1,f,0,s1,s2,s3,s4,s5,rs,[],0,0,[]⟩)⟩] {}):∃hv hb,vS hv hb bs f s1 s2 s3 s4 s5 rs Q:=by
 obtain ⟨hv,hb',e⟩:∃hv hb,vS hv hb bs f s1 s2 s3 s4 s5 rs Q=_:=⟨_,_,aZp bs f s1 s2 s3 s4 s5 rs Q⟩
 refine ⟨hv,hb',e.mpr ?_⟩
 delta aM8 jA aFv aNm aM5 aFb uE gD aLe aFl bGh aLk aAa aGc aE1 iG aXe aBh tV aIn aE8 aEp xE sI aFd aEw wL oC uB wY aDx aEr tY aFw aFe uK zS aVr
 unfold tlA
 clear e
 have hR:cZ ⟨1,f,0,s1,s2,s3,s4,s5,rs,[],0,0,[]⟩=fJ (rs.length:Int) 200 (fZ (aJ 4 [f]++aJ 4 [s1,s2,s3,s4,s5]++bY rs)):=by simp[cZ,dG,jV,iX,bY,dE,aM]
 refine ⟨[f],⟨rfl,rfl,by omega,by omega,by simp,by simp⟩,⟨_,[s1,s2,s3,s4,s5],⟨rfl,rfl,rfl,by simp[aH],rfl,rfl,by omega,by omega,by simp⟩,_,rfl,_,rfl,⟨(0,aJ 4 [f]++aJ 4 [s1,s2,s3,s4,s5]),⟨Nat.zero_le _,by simp[bY]⟩,rfl,rfl,rfl,rfl,rfl,rfl,rfl,rfl,rfl,rfl,rfl,rfl,trivial⟩, ?_⟩⟩
 rintro ⟨i,B⟩ ⟨g1,g2⟩
 dsimp only at g1 g2 ⊢
 have hl0:4≤B.length∧B.length≤500:=by rw[g2];simp only[List.length_append,aH,iI,List.length_take,List.length_cons,List.length_nil];omega
 refine aD (fun h => ?_) (fun h => ?_)
 ·have hi:i<rs.length:=by omega
  obtain ⟨r,hr,hc⟩:=fK hi (Nat.mul_comm 7 i▸rfl:i*7=7*i)
  refine ckI (by simp;omega) (ckI (by simp[bI];omega) ⟨r.1,r.2.1,r.2.2.1,r.2.2.2.1,r.2.2.2.2.1,r.2.2.2.2.2.1,r.2.2.2.2.2.2,by rw[Int.toNat_natCast,hc];rfl,B,[r.1],⟨rfl,rfl,rfl,by omega,rfl,rfl,by omega,by omega,by simp⟩,_,[r.2.1],⟨rfl,rfl,rfl,by simp[aH];omega,rfl,rfl,by omega,by omega,by simp⟩,_,[r.2.2.1],⟨rfl,rfl,rfl,by simp[aH];omega,rfl,rfl,by omega,by omega,by simp⟩,_,[r.2.2.2.1,r.2.2.2.2.1,r.2.2.2.2.2.1,r.2.2.2.2.2.2],⟨rfl,rfl,rfl,by simp[aH];omega,rfl,rfl,by omega,by omega,by simp⟩,aC (by omega) (by omega) ⟨⟨trivial,rfl⟩,(i+1,B++aJ 4 [r.1]++aJ 1 [r.2.1]++aJ 3 [r.2.2.1]++aJ 4 [r.2.2.2.1,r.2.2.2.2.1,r.2.2.2.2.2.1,r.2.2.2.2.2.2]),⟨hi,by rw[uY hr,g2,aF3];simp only[List.append_assoc]⟩,by dsimp only;omega,rfl,rfl,rfl,rfl,rfl,rfl,rfl,rfl,rfl,rfl,rfl,rfl,trivial⟩⟩)
 ·obtain rfl:i=rs.length:=by omega
  rw[List.take_length] at g2
  rw[←g2] at hR
  have hl:4≤B.length∧B.length≤5000:=by omega
  clear hl0
  have hp:fZ B=B++List.replicate ((4-B.length%4)%4) 0:=rfl
  refine ckI (by simp[aI]) ⟨_,rfl,aYt (by omega) ?_⟩
  have hpp:(4-B.length%4)%4<4:=by omega
  have hz:=iE ((4-B.length%4)%4)
  have hlp:(fZ B).length=B.length+(4-B.length%4)%4:=by rw[hp];simp
  generalize (4-B.length%4)%4=p at hp hpp hz hlp ⊢
  rw[lZ] at hz
  rw[Int.toNat_natCast,hz]
  refine ckI (by simp[bU];omega) (aD (fun h0 => ?_) (fun h0 => ?_))
  ·obtain rfl:p=0:=by omega
   rw[List.replicate_zero,List.append_nil] at hp
   rw[hp] at hR
   refine ckI rfl (ckI (by simp[aI]) ?_)
   have htd:((B.length:Nat):Int).tdiv 4=((B.length/4:Nat):Int):=rfl
   refine ⟨_,rfl,orC (by omega) (⟨bs,[128+(rs.length:Int),200],⟨rfl,rfl,rfl,by omega,rfl,rfl,by omega,by omega,by simp⟩,ckI (by simp[aI]) ⟨_,rfl, ?_⟩⟩)⟩
   try dsimp only
   rw[htd]
   refine aC (by omega) (by omega) ⟨_,[_],⟨rfl,rfl,rfl,by first | (simp[aH];done) | (simp[aH];omega),rfl,rfl,by omega,by omega,by simp⟩, ?_⟩
   rw[takeB]
   refine ckI (by simp[aI,bU];omega) (splitB (fun h=>by rw[gF] at h;exfalso;omega) (fun h=>ckI (by simp;omega) (ckI (by simp[aI,aH];omega) ?_)))
   rw[aI,dI,aN,←List.length_append]
   have hR2:bs++aJ 1 [128+(rs.length:Int),200]++aJ 2 [((B.length/4:Nat):Int)]++B=bs++cZ ⟨1,f,0,s1,s2,s3,s4,s5,rs,[],0,0,[]⟩:=by rw[hR,fJ];first | (simp only[List.append_assoc];done) | (simp only[List.append_assoc];rfl)
   rw[hR2]
   first | exact hq | exact ⟨rfl,hq⟩
  ·rw[aI (List.replicate p 0),List.length_replicate,aN,dI,←hp]
   refine ckI (by simp;omega) (ckI (by simp[aI];omega) ?_)
   rw[←hlp]
   generalize fZ B=P at hp hR hlp ⊢
   have htd:((P.length:Nat):Int).tdiv 4=((P.length/4:Nat):Int):=rfl
   refine ⟨_,rfl,orC (by omega) (⟨bs,[128+(rs.length:Int),200],⟨rfl,rfl,rfl,by omega,rfl,rfl,by omega,by omega,by simp⟩,ckI (by simp[aI]) ⟨_,rfl, ?_⟩⟩)⟩
   try dsimp only
   rw[htd]
   refine aC (by omega) (by omega) ⟨_,[_],⟨rfl,rfl,rfl,by first | (simp[aH];done) | (simp[aH];omega),rfl,rfl,by omega,by omega,by simp⟩, ?_⟩
   rw[takeB]
   refine ckI (by simp[aI,bU];omega) (splitB (fun h=>by rw[gF] at h;exfalso;omega) (fun h=>ckI (by simp;omega) (ckI (by simp[aI,aH];omega) ?_)))
   rw[aI,dI,aN,←List.length_append]
   have hR2:bs++aJ 1 [128+(rs.length:Int),200]++aJ 2 [((P.length/4:Nat):Int)]++P=bs++cZ ⟨1,f,0,s1,s2,s3,s4,s5,rs,[],0,0,[]⟩:=by rw[hR,fJ];first | (simp only[List.append_assoc];done) | (simp only[List.append_assoc];rfl)
   rw[hR2]
   first | exact hq | exact ⟨rfl,hq⟩
theorem bP0 (bs:List UInt8) (hbs:bs.length≤20000) (f:Int) (rs:List Rc) (hrs:rs.length≤6) (Q:Out→List Blk→Gh→Prop) (hq:Q (.ret (.sl 0 (bs++cZ ⟨2,f,0,0,0,0,0,0,rs,[],0,0,[]⟩).length 0 (bs++cZ ⟨2,f,0,0,0,0,0,0,rs,[],0,0,[]⟩).length 1)) [⟨.grow,true,ofBytes (bs++cZ ⟨2,f,0,0,0,0,0,0,rs,[],0,0,[]⟩)⟩] {}):∃hv hb,xI hv hb bs f rs Q:=by
 obtain ⟨hv,hb',e⟩:∃hv hb,xI hv hb bs f rs Q=_:=⟨_,_,aZ8 bs f rs Q⟩
 refine ⟨hv,hb',e.mpr ?_⟩
 delta aM8 aDy aFv bGl aM1 aGc aE1 aLq aW8 aBh tV aIn aE8 aEp xE sI aFd aEw jA aS6 aTd wL oC gD aLe uB aAa wY iG aDx aEr tY aFw aFe uK zS aVr
 unfold tlA
 clear e
 have hR:cZ ⟨2,f,0,0,0,0,0,0,rs,[],0,0,[]⟩=fJ (rs.length:Int) 201 (fZ (aJ 4 [f]++bY rs)):=by simp[cZ,dG,jV,iX,bY,dE,aM]
 refine ⟨[f],⟨rfl,rfl,by omega,by omega,by simp,by simp⟩,_,rfl,_,rfl,⟨(0,aJ 4 [f]),⟨Nat.zero_le _,by simp[bY]⟩,rfl,rfl,rfl,rfl,rfl,rfl,rfl,rfl,rfl,rfl,rfl,rfl,trivial⟩, ?_⟩
 rintro ⟨i,B⟩ ⟨g1,g2⟩
 dsimp only at g1 g2 ⊢
 have hl0:4≤B.length∧B.length≤500:=by rw[g2];simp only[List.length_append,aH,iI,List.length_take,List.length_cons,List.length_nil];omega
 refine aD (fun h => ?_) (fun h => ?_)
 ·have hi:i<rs.length:=by omega
  obtain ⟨r,hr,hc⟩:=fK hi (Nat.mul_comm 7 i▸rfl:i*7=7*i)
  refine ckI (by simp;omega) (ckI (by simp[bI];omega) ⟨r.1,r.2.1,r.2.2.1,r.2.2.2.1,r.2.2.2.2.1,r.2.2.2.2.2.1,r.2.2.2.2.2.2,by rw[Int.toNat_natCast,hc];rfl,B,[r.1],⟨rfl,rfl,rfl,by omega,rfl,rfl,by omega,by omega,by simp⟩,_,[r.2.1],⟨rfl,rfl,rfl,by simp[aH];omega,rfl,rfl,by omega,by omega,by simp⟩,_,[r.2.2.1],⟨rfl,rfl,rfl,by simp[aH];omega,rfl,rfl,by omega,by omega,by simp⟩,_,[r.2.2.2.1,r.2.2.2.2.1,r.2.2.2.2.2.1,r.2.2.2.2.2.2],⟨rfl,rfl,rfl,by simp[aH];omega,rfl,rfl,by omega,by omega,by simp⟩,aC (by omega) (by omega) ⟨⟨trivial,rfl⟩,(i+1,B++aJ 4 [r.1]++aJ 1 [r.2.1]++aJ 3 [r.2.2.1]++aJ 4 [r.2.2.2.1,r.2.2.2.2.1,r.2.2.2.2.2.1,r.2.2.2.2.2.2]),⟨hi,by rw[uY hr,g2,aF3];simp only[List.append_assoc]⟩,by dsimp only;omega,rfl,rfl,rfl,rfl,rfl,rfl,rfl,rfl,rfl,rfl,rfl,rfl,trivial⟩⟩)
 ·obtain rfl:i=rs.length:=by omega
  rw[List.take_length] at g2
  rw[←g2] at hR
  have hl:4≤B.length∧B.length≤5000:=by omega
  clear hl0
  have hp:fZ B=B++List.replicate ((4-B.length%4)%4) 0:=rfl
  refine ckI (by simp[aI]) ⟨_,rfl,aYt (by omega) ?_⟩
  have hpp:(4-B.length%4)%4<4:=by omega
  have hz:=iE ((4-B.length%4)%4)
  have hlp:(fZ B).length=B.length+(4-B.length%4)%4:=by rw[hp];simp
  generalize (4-B.length%4)%4=p at hp hpp hz hlp ⊢
  rw[lZ] at hz
  rw[Int.toNat_natCast,hz]
  refine ckI (by simp[bU];omega) (aD (fun h0 => ?_) (fun h0 => ?_))
  ·obtain rfl:p=0:=by omega
   rw[List.replicate_zero,List.append_nil] at hp
   rw[hp] at hR
   refine ckI rfl (ckI (by simp[aI]) ?_)
   have htd:((B.length:Nat):Int).tdiv 4=((B.length/4:Nat):Int):=rfl
   refine ⟨_,rfl,orC (by omega) (⟨bs,[128+(rs.length:Int),201],⟨rfl,rfl,rfl,by omega,rfl,rfl,by omega,by omega,by simp⟩,ckI (by simp[aI]) ⟨_,rfl, ?_⟩⟩)⟩
   try dsimp only
   rw[htd]
   refine aC (by omega) (by omega) ⟨_,[_],⟨rfl,rfl,rfl,by first | (simp[aH];done) | (simp[aH];omega),rfl,rfl,by omega,by omega,by simp⟩, ?_⟩
   rw[takeB]
   refine ckI (by simp[aI,bU];omega) (splitB (fun h=>by rw[gF] at h;exfalso;omega) (fun h=>ckI (by simp;omega) (ckI (by simp[aI,aH];omega) ?_)))
   rw[aI,dI,aN,←List.length_append]
   have hR2:bs++aJ 1 [128+(rs.length:Int),201]++aJ 2 [((B.length/4:Nat):Int)]++B=bs++cZ ⟨2,f,0,0,0,0,0,0,rs,[],0,0,[]⟩:=by rw[hR,fJ];first | (simp only[List.append_assoc];done) | (simp only[List.append_assoc];rfl)
   rw[hR2]
   first | exact hq | exact ⟨rfl,hq⟩
  ·rw[aI (List.replicate p 0),List.length_replicate,aN,dI,←hp]
   refine ckI (by simp;omega) (ckI (by simp[aI];omega) ?_)
   rw[←hlp]
   generalize fZ B=P at hp hR hlp ⊢
   have htd:((P.length:Nat):Int).tdiv 4=((P.length/4:Nat):Int):=rfl
   refine ⟨_,rfl,orC (by omega) (⟨bs,[128+(rs.length:Int),201],⟨rfl,rfl,rfl,by omega,rfl,rfl,by omega,by omega,by simp⟩,ckI (by simp[aI]) ⟨_,rfl, ?_⟩⟩)⟩
   try dsimp only
   rw[htd]
   refine aC (by omega) (by omega) ⟨_,[_],⟨rfl,rfl,rfl,by first | (simp[aH];done) | (simp[aH];omega),rfl,rfl,by omega,by omega,by simp⟩, ?_⟩
   rw[takeB]
   refine ckI (by simp[aI,bU];omega) (splitB (fun h=>by rw[gF] at h;exfalso;omega) (fun h=>ckI (by simp;omega) (ckI (by simp[aI,aH];omega) ?_)))
   rw[aI,dI,aN,←List.length_append]
   have hR2:bs++aJ 1 [128+(rs.length:Int),201]++aJ 2 [((P.length/4:Nat):Int)]++P=bs++cZ ⟨2,f,0,0,0,0,0,0,rs,[],0,0,[]⟩:=by rw[hR,fJ];first | (simp only[List.append_assoc];done) | (simp only[List.append_assoc];rfl)
   rw[hR2]
   first | exact hq | exact ⟨rfl,hq⟩
theorem bN2 (bs:List UInt8) (hbs:bs.length≤20000) (f:Int) (Q:Out→List Blk→Gh→Prop) (hq:Q (.ret (.sl 0 (bs++cZ ⟨3,f,0,0,0,0,0,0,[],[],0,0,[]⟩).length 0 (bs++cZ ⟨3,f,0,0,0,0,0,0,[],[],0,0,[]⟩).length 1)) [⟨.grow,true,ofBytes (bs++cZ ⟨3,f,0,0,0,0,0,0,[],[],0,0,[]⟩)⟩] {}):∃hv hb,wZ hv hb bs f Q:=by
 obtain ⟨hv,hb',e⟩:∃hv hb,wZ hv hb bs f Q=_:=⟨_,_,bFc bs f Q⟩
 refine ⟨hv,hb',e.mpr ?_⟩
 unfold tlC
 clear e
 have hR:cZ ⟨3,f,0,0,0,0,0,0,[],[],0,0,[]⟩=fJ 1 203 (fZ (aJ 4 [f])):=by simp[cZ,dG,jV,iX,bY,dE,aM]
 refine ⟨[f],⟨rfl,rfl,by omega,by omega,by simp,by simp⟩, ?_⟩
 obtain ⟨B,hB⟩:∃B,B=aJ 4 [f]:=⟨_,rfl⟩
 have hl:4≤B.length∧B.length≤5000:=by rw[hB,aH];simp
 rw[←hB] at hR ⊢
 have hp:fZ B=B++List.replicate ((4-B.length%4)%4) 0:=rfl
 refine ckI (by simp[aI]) ⟨_,rfl,aYt (by omega) ?_⟩
 have hpp:(4-B.length%4)%4<4:=by omega
 have hz:=iE ((4-B.length%4)%4)
 have hlp:(fZ B).length=B.length+(4-B.length%4)%4:=by rw[hp];simp
 generalize (4-B.length%4)%4=p at hp hpp hz hlp ⊢
 rw[lZ] at hz
 rw[Int.toNat_natCast,hz]
 refine ckI (by simp[bU];omega) (aD (fun h0 => ?_) (fun h0 => ?_))
 ·obtain rfl:p=0:=by omega
  rw[List.replicate_zero,List.append_nil] at hp
  rw[hp] at hR
  refine ckI rfl (ckI (by simp[aI]) ?_)
  have htd:((B.length:Nat):Int).tdiv 4=((B.length/4:Nat):Int):=rfl
  refine ⟨bs,[129,203],⟨rfl,rfl,rfl,by omega,rfl,rfl,by omega,by omega,by simp⟩,ckI (by simp[aI]) ⟨_,rfl, ?_⟩⟩
  try dsimp only
  rw[htd]
  refine aC (by omega) (by omega) ⟨_,[_],⟨rfl,rfl,rfl,by first | (simp[aH];done) | (simp[aH];omega),rfl,rfl,by omega,by omega,by simp⟩, ?_⟩
  rw[takeB]
  refine ckI (by simp[aI,bU];omega) (splitB (fun h=>by rw[gF] at h;exfalso;omega) (fun h=>ckI (by simp;omega) (ckI (by simp[aI,aH];omega) ?_)))
  rw[aI,dI,aN,←List.length_append]
  have hR2:bs++aJ 1 [129,203]++aJ 2 [((B.length/4:Nat):Int)]++B=bs++cZ ⟨3,f,0,0,0,0,0,0,[],[],0,0,[]⟩:=by rw[hR,fJ];first | (simp only[List.append_assoc];done) | (simp only[List.append_assoc];rfl)
  rw[hR2]
  first | exact hq | exact ⟨rfl,hq⟩
 ·rw[aI (List.replicate p 0),List.length_replicate,aN,dI,←hp]
  refine ckI (by simp;omega) (ckI (by simp[aI];omega) ?_)
  rw[←hlp]
  generalize fZ B=P at hp hR hlp ⊢
  have htd:((P.length:Nat):Int).tdiv 4=((P.length/4:Nat):Int):=rfl
  refine ⟨bs,[129,203],⟨rfl,rfl,rfl,by omega,rfl,rfl,by omega,by omega,by simp⟩,ckI (by simp[aI]) ⟨_,rfl, ?_⟩⟩
  try dsimp only
  rw[htd]
  refine aC (by omega) (by omega) ⟨_,[_],⟨rfl,rfl,rfl,by first | (simp[aH];done) | (simp[aH];omega),rfl,rfl,by omega,by omega,by simp⟩, ?_⟩
  rw[takeB]
  refine ckI (by simp[aI,bU];omega) (splitB (fun h=>by rw[gF] at h;exfalso;omega) (fun h=>ckI (by simp;omega) (ckI (by simp[aI,aH];omega) ?_)))
  rw[aI,dI,aN,←List.length_append]
  have hR2:bs++aJ 1 [129,203]++aJ 2 [((P.length/4:Nat):Int)]++P=bs++cZ ⟨3,f,0,0,0,0,0,0,[],[],0,0,[]⟩:=by rw[hR,fJ];first | (simp only[List.append_assoc];done) | (simp only[List.append_assoc];rfl)
  rw[hR2]
  first | exact hq | exact ⟨rfl,hq⟩
theorem bP6 (bs:List UInt8) (hbs:bs.length≤20000) (f a:Int) (lo:List Int) (hlo:bV lo=true) (Q:Out→List Blk→Gh→Prop) (hq:Q (.ret (.sl 0 (bs++cZ ⟨4,f,a,0,0,0,0,0,[],lo,0,0,[]⟩).length 0 (bs++cZ ⟨4,f,a,0,0,0,0,0,[],lo,0,0,[]⟩).length 1)) [⟨.grow,true,ofBytes (bs++cZ ⟨4,f,a,0,0,0,0,0,[],lo,0,0,[]⟩)⟩] {}):∃hv hb,xR hv hb bs f a lo Q:=by
 obtain ⟨hv,hb',e⟩:∃hv hb,xR hv hb bs f a lo Q=_:=⟨_,_,bDb bs f a lo Q⟩
 refine ⟨hv,hb',e.mpr ?_⟩
 delta aM8 jA aGx aXp aUu aFb uE gD aLe uB aT1 bAu bA4 aAa aGc aE1 iG aXe aW3 xE aEp sI wL oC zS aW8
 unfold tlC
 clear e
 have hR:cZ ⟨4,f,a,0,0,0,0,0,[],lo,0,0,[]⟩=fJ 1 205 (fZ (aJ 4 [f]++aJ 4 [a]++dE (aM lo))):=by simp[cZ,dG,jV,iX,bY,dE,aM]
 have hnp:=eQ hlo
 have hpl:=rO lo
 refine ⟨[f],⟨rfl,rfl,by omega,by omega,by simp,by simp⟩,⟨_,[a],⟨rfl,rfl,rfl,by simp[aH],rfl,rfl,by omega,by omega,by simp⟩,lo,⟨rfl,rfl,hlo⟩,_,rfl,⟨(0,aJ 4 [f]++aJ 4 [a]),⟨Nat.zero_le _,by simp[dE]⟩,rfl,rfl,rfl,rfl,rfl,rfl,rfl,rfl,rfl,rfl,rfl,rfl,trivial⟩, ?_⟩⟩
 rintro ⟨i,B⟩ ⟨g1,g2⟩
 dsimp only at g1 g2 ⊢
 have hl0:4≤B.length∧B.length≤500:=by rw[g2];simp only[List.length_append,aH,vJ,List.length_take,List.length_cons,List.length_nil];omega
 refine aD (fun h => ?_) (fun h => ?_)
 ·have hi:i<(aM lo).length:=by omega
  obtain ⟨r,hr,hc⟩:=aMy hi (Nat.mul_comm 2 i▸rfl:i*2=2*i)
  refine ckI (by simp;omega) (ckI (by first | (simp[dA];done) | (simp[dA];omega)) ⟨r.1,r.2,by first | (rw[Int.toNat_natCast,hc];done) | (rw[Int.toNat_natCast,hc];rfl),B,[r.1,r.2],_,_,⟨rfl,rfl,rfl,by omega,rfl,by omega,rfl,rfl,by omega⟩,aC (by omega) (by omega) ⟨⟨trivial,rfl⟩,(i+1,B++aJ 2 [r.1,r.2]),⟨hi,by rw[aVv hr,g2];simp only[List.append_assoc]⟩,by dsimp only;omega,rfl,rfl,rfl,rfl,rfl,rfl,rfl,rfl,rfl,rfl,rfl,rfl,trivial⟩⟩)
 ·obtain rfl:i=(aM lo).length:=by omega
  rw[List.take_length] at g2
  rw[←g2] at hR
  have hl:4≤B.length∧B.length≤5000:=by omega
  clear hl0
  have hp:fZ B=B++List.replicate ((4-B.length%4)%4) 0:=rfl
  refine ckI (by simp[aI]) ⟨_,rfl,aYt (by omega) ?_⟩
  have hpp:(4-B.length%4)%4<4:=by omega
  have hz:=iE ((4-B.length%4)%4)
  have hlp:(fZ B).length=B.length+(4-B.length%4)%4:=by rw[hp];simp
  generalize (4-B.length%4)%4=p at hp hpp hz hlp ⊢
  rw[lZ] at hz
  rw[Int.toNat_natCast,hz]
  refine ckI (by simp[bU];omega) (aD (fun h0 => ?_) (fun h0 => ?_))
  ·obtain rfl:p=0:=by omega
   rw[List.replicate_zero,List.append_nil] at hp
   rw[hp] at hR
   refine ckI rfl (ckI (by simp[aI]) ?_)
   have htd:((B.length:Nat):Int).tdiv 4=((B.length/4:Nat):Int):=rfl
   refine ⟨bs,[129,205],⟨rfl,rfl,rfl,by omega,rfl,rfl,by omega,by omega,by simp⟩,ckI (by simp[aI]) ⟨_,rfl, ?_⟩⟩
   try dsimp only
   rw[htd]
   refine aC (by omega) (by omega) ⟨_,[_],⟨rfl,rfl,rfl,by first | (simp[aH];done) | (simp[aH];omega),rfl,rfl,by omega,by omega,by simp⟩, ?_⟩
   rw[takeB]
   refine ckI (by simp[aI,bU];omega) (splitB (fun h=>by rw[gF] at h;exfalso;omega) (fun h=>ckI (by simp;omega) (ckI (by simp[aI,aH];omega) ?_)))
   rw[aI,dI,aN,←List.length_append]
   have hR2:bs++aJ 1 [129,205]++aJ 2 [((B.length/4:Nat):Int)]++B=bs++cZ ⟨4,f,a,0,0,0,0,0,[],lo,0,0,[]⟩:=by rw[hR,fJ];first | (simp only[List.append_assoc];done) | (simp only[List.append_assoc];rfl)
   rw[hR2]
   first | exact hq | exact ⟨rfl,hq⟩
  ·rw[aI (List.replicate p 0),List.length_replicate,aN,dI,←hp]
   refine ckI (by simp;omega) (ckI (by simp[aI];omega) ?_)
   rw[←hlp]
   generalize fZ B=P at hp hR hlp ⊢
   have htd:((P.length:Nat):Int).tdiv 4=((P.length/4:Nat):Int):=rfl
   refine ⟨bs,[129,205],⟨rfl,rfl,rfl,by omega,rfl,rfl,by omega,by omega,by simp⟩,ckI (by simp[aI]) ⟨_,rfl, ?_⟩⟩
   try dsimp only
   rw[htd]
   refine aC (by omega) (by omega) ⟨_,[_],⟨rfl,rfl,rfl,by first | (simp[aH];done) | (simp[aH];omega),rfl,rfl,by omega,by omega,by simp⟩, ?_⟩
   rw[takeB]
   refine ckI (by simp[aI,bU];omega) (splitB (fun h=>by rw[gF] at h;exfalso;omega) (fun h=>ckI (by simp;omega) (ckI (by simp[aI,aH];omega) ?_)))
   rw[aI,dI,aN,←List.length_append]
   have hR2:bs++aJ 1 [129,205]++aJ 2 [((P.length/4:Nat):Int)]++P=bs++cZ ⟨4,f,a,0,0,0,0,0,[],lo,0,0,[]⟩:=by rw[hR,fJ];first | (simp only[List.append_assoc];done) | (simp only[List.append_assoc];rfl)
   rw[hR2]
   first | exact hq | exact ⟨rfl,hq⟩
theorem bOd (bs:List UInt8) (hbs:bs.length≤20000) (f a:Int) (Q:Out→List Blk→Gh→Prop) (hq:Q (.ret (.sl 0 (bs++cZ ⟨5,f,a,0,0,0,0,0,[],[],0,0,[]⟩).length 0 (bs++cZ ⟨5,f,a,0,0,0,0,0,[],[],0,0,[]⟩).length 1)) [⟨.grow,true,ofBytes (bs++cZ ⟨5,f,a,0,0,0,0,0,[],[],0,0,[]⟩)⟩] {}):∃hv hb,wE hv hb bs f a Q:=by
 obtain ⟨hv,hb',e⟩:∃hv hb,wE hv hb bs f a Q=_:=⟨_,_,bEw bs f a Q⟩
 refine ⟨hv,hb',e.mpr ?_⟩
 unfold tlC
 clear e
 have hR:cZ ⟨5,f,a,0,0,0,0,0,[],[],0,0,[]⟩=fJ 1 206 (fZ (aJ 4 [f]++aJ 4 [a])):=by simp[cZ,dG,jV,iX,bY,dE,aM]
 refine ⟨[f],⟨rfl,rfl,by omega,by omega,by simp,by simp⟩,⟨_,[a],⟨rfl,rfl,rfl,by simp[aH],rfl,rfl,by omega,by omega,by simp⟩, ?_⟩⟩
 obtain ⟨B,hB⟩:∃B,B=aJ 4 [f]++aJ 4 [a]:=⟨_,rfl⟩
 have hl:4≤B.length∧B.length≤5000:=by rw[hB];simp[aH]
 rw[←hB] at hR ⊢
 have hp:fZ B=B++List.replicate ((4-B.length%4)%4) 0:=rfl
 refine ckI (by simp[aI]) ⟨_,rfl,aYt (by omega) ?_⟩
 have hpp:(4-B.length%4)%4<4:=by omega
 have hz:=iE ((4-B.length%4)%4)
 have hlp:(fZ B).length=B.length+(4-B.length%4)%4:=by rw[hp];simp
 generalize (4-B.length%4)%4=p at hp hpp hz hlp ⊢
 rw[lZ] at hz
 rw[Int.toNat_natCast,hz]
 refine ckI (by simp[bU];omega) (aD (fun h0 => ?_) (fun h0 => ?_))
 ·obtain rfl:p=0:=by omega
  rw[List.replicate_zero,List.append_nil] at hp
  rw[hp] at hR
  refine ckI rfl (ckI (by simp[aI]) ?_)
  have htd:((B.length:Nat):Int).tdiv 4=((B.length/4:Nat):Int):=rfl
  refine ⟨bs,[129,206],⟨rfl,rfl,rfl,by omega,rfl,rfl,by omega,by omega,by simp⟩,ckI (by simp[aI]) ⟨_,rfl, ?_⟩⟩
  try dsimp only
  rw[htd]
  refine aC (by omega) (by omega) ⟨_,[_],⟨rfl,rfl,rfl,by first | (simp[aH];done) | (simp[aH];omega),rfl,rfl,by omega,by omega,by simp⟩, ?_⟩
  rw[takeB]
  refine ckI (by simp[aI,bU];omega) (splitB (fun h=>by rw[gF] at h;exfalso;omega) (fun h=>ckI (by simp;omega) (ckI (by simp[aI,aH];omega) ?_)))
  rw[aI,dI,aN,←List.length_append]
  have hR2:bs++aJ 1 [129,206]++aJ 2 [((B.length/4:Nat):Int)]++B=bs++cZ ⟨5,f,a,0,0,0,0,0,[],[],0,0,[]⟩:=by rw[hR,fJ];first | (simp only[List.append_assoc];done) | (simp only[List.append_assoc];rfl)
  rw[hR2]
  first | exact hq | exact ⟨rfl,hq⟩
 ·rw[aI (List.replicate p 0),List.length_replicate,aN,dI,←hp]
  refine ckI (by simp;omega) (ckI (by simp[aI];omega) ?_)
  rw[←hlp]
  generalize fZ B=P at hp hR hlp ⊢
  have htd:((P.length:Nat):Int).tdiv 4=((P.length/4:Nat):Int):=rfl
  refine ⟨bs,[129,206],⟨rfl,rfl,rfl,by omega,rfl,rfl,by omega,by omega,by simp⟩,ckI (by simp[aI]) ⟨_,rfl, ?_⟩⟩
  try dsimp only
  rw[htd]
  refine aC (by omega) (by omega) ⟨_,[_],⟨rfl,rfl,rfl,by first | (simp[aH];done) | (simp[aH];omega),rfl,rfl,by omega,by omega,by simp⟩, ?_⟩
  rw[takeB]
  refine ckI (by simp[aI,bU];omega) (splitB (fun h=>by rw[gF] at h;exfalso;omega) (fun h=>ckI (by simp;omega) (ckI (by simp[aI,aH];omega) ?_)))
  rw[aI,dI,aN,←List.length_append]
  have hR2:bs++aJ 1 [129,206]++aJ 2 [((P.length/4:Nat):Int)]++P=bs++cZ ⟨5,f,a,0,0,0,0,0,[],[],0,0,[]⟩:=by rw[hR,fJ];first | (simp only[List.append_assoc];done) | (simp only[List.append_assoc];rfl)
  rw[hR2]
  first | exact hq | exact ⟨rfl,hq⟩
theorem bP3 (bs:List UInt8) (hbs:bs.length≤20000) (f a ba ro:Int) (ti:List Int) (hti:(aZ ti).2.2=true) (Q:Out→List Blk→Gh→Prop) (hq:Q (.ret (.sl 0 (bs++cZ ⟨6,f,a,0,0,0,0,0,[],[],ba,ro,ti⟩).length 0 (bs++cZ ⟨6,f,a,0,0,0,0,0,[],[],ba,ro,ti⟩).length 1)) [⟨.grow,true,ofBytes (bs++cZ ⟨6,f,a,0,0,0,0,0,[],[],ba,ro,ti⟩)⟩] {}):∃hv hb,vL hv hb bs f a ba ro ti Q:=by
 obtain ⟨hv,hb',e⟩:∃hv hb,vL hv hb bs f a ba ro ti Q=_:=⟨_,_,bBd bs f a ba ro ti Q⟩
 refine ⟨hv,hb',e.mpr ?_⟩
 delta aM8 jA aGx bHy aQ3 aFb uE gD aLe uB aAa wY aOf iG
 unfold tlC
 clear e
 have hR:cZ ⟨6,f,a,0,0,0,0,0,[],[],ba,ro,ti⟩=fJ 15 205 (fZ (aJ 4 [f]++aJ 4 [a]++(aJ 2 [ba]++pJ ti ro))):=by simp[cZ,dG,jV,iX,bY,dE,aM]
 have hal:=aQt (ro:=ro) hti
 refine ⟨[f],⟨rfl,rfl,by omega,by omega,by simp,by simp⟩,⟨_,[a],⟨rfl,rfl,rfl,by simp[aH],rfl,rfl,by omega,by omega,by simp⟩,_,[ba],_,_,⟨rfl,rfl,rfl,by simp[aH],rfl,by omega,rfl,rfl,by omega⟩, ?_⟩⟩
 refine ckI (by simp[bK,iZ]) (ckI (by simp[bK,iZ,aAq]) ⟨_,ti,⟨rfl,rfl,rfl,by simp[aH],rfl,rfl,hti⟩, ?_⟩)
 obtain ⟨B,hB⟩:∃B,B=aJ 4 [f]++aJ 4 [a]++aJ 2 [ba]++pJ ti ro:=⟨_,rfl⟩
 have hl:4≤B.length∧B.length≤5000:=by rw[hB];simp[aH];omega
 rw[←List.append_assoc,←hB] at hR
 rw[←hB]
 have hp:fZ B=B++List.replicate ((4-B.length%4)%4) 0:=rfl
 refine ckI (by simp[aI]) ⟨_,rfl,aYt (by omega) ?_⟩
 have hpp:(4-B.length%4)%4<4:=by omega
 have hz:=iE ((4-B.length%4)%4)
 have hlp:(fZ B).length=B.length+(4-B.length%4)%4:=by rw[hp];simp
 generalize (4-B.length%4)%4=p at hp hpp hz hlp ⊢
 rw[lZ] at hz
 rw[Int.toNat_natCast,hz]
 refine ckI (by simp[bU];omega) (aD (fun h0 => ?_) (fun h0 => ?_))
 ·obtain rfl:p=0:=by omega
  rw[List.replicate_zero,List.append_nil] at hp
  rw[hp] at hR
  refine ckI rfl (ckI (by simp[aI]) ?_)
  have htd:((B.length:Nat):Int).tdiv 4=((B.length/4:Nat):Int):=rfl
  refine ⟨bs,[143,205],⟨rfl,rfl,rfl,by omega,rfl,rfl,by omega,by omega,by simp⟩,ckI (by simp[aI]) ⟨_,rfl, ?_⟩⟩
  try dsimp only
  rw[htd]
  refine aC (by omega) (by omega) ⟨_,[_],⟨rfl,rfl,rfl,by first | (simp[aH];done) | (simp[aH];omega),rfl,rfl,by omega,by omega,by simp⟩, ?_⟩
  rw[takeB]
  refine ckI (by simp[aI,bU];omega) (splitB (fun h=>by rw[gF] at h;exfalso;omega) (fun h=>ckI (by simp;omega) (ckI (by simp[aI,aH];omega) ?_)))
  rw[aI,dI,aN,←List.length_append]
  have hR2:bs++aJ 1 [143,205]++aJ 2 [((B.length/4:Nat):Int)]++B=bs++cZ ⟨6,f,a,0,0,0,0,0,[],[],ba,ro,ti⟩:=by rw[hR,fJ];first | (simp only[List.append_assoc];done) | (simp only[List.append_assoc];rfl)
  rw[hR2]
  first | exact hq | exact ⟨rfl,hq⟩
 ·rw[aI (List.replicate p 0),List.length_replicate,aN,dI,←hp]
  refine ckI (by simp;omega) (ckI (by simp[aI];omega) ?_)
  rw[←hlp]
  generalize fZ B=P at hp hR hlp ⊢
  have htd:((P.length:Nat):Int).tdiv 4=((P.length/4:Nat):Int):=rfl
  refine ⟨bs,[143,205],⟨rfl,rfl,rfl,by omega,rfl,rfl,by omega,by omega,by simp⟩,ckI (by simp[aI]) ⟨_,rfl, ?_⟩⟩
  try dsimp only
  rw[htd]
  refine aC (by omega) (by omega) ⟨_,[_],⟨rfl,rfl,rfl,by first | (simp[aH];done) | (simp[aH];omega),rfl,rfl,by omega,by omega,by simp⟩, ?_⟩
  rw[takeB]
  refine ckI (by simp[aI,bU];omega) (splitB (fun h=>by rw[gF] at h;exfalso;omega) (fun h=>ckI (by simp;omega) (ckI (by simp[aI,aH];omega) ?_)))
  rw[aI,dI,aN,←List.length_append]
  have hR2:bs++aJ 1 [143,205]++aJ 2 [((P.length/4:Nat):Int)]++P=bs++cZ ⟨6,f,a,0,0,0,0,0,[],[],ba,ro,ti⟩:=by rw[hR,fJ];first | (simp only[List.append_assoc];done) | (simp only[List.append_assoc];rfl)
  rw[hR2]
  first | exact hq | exact ⟨rfl,hq⟩
end Go.Proofs.YtafchcmemeinlaaDoor

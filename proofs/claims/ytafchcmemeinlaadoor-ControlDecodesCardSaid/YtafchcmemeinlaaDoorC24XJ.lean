/-
  Chapter 24: contract of packet; Encode.
-/
import Derived.Test.YtafchcmemeinlaaDoorC24XI
set_option linter.unusedSimpArgs false
set_option linter.unusedVariables false
set_option linter.unusedSectionVars false
namespace Go.Proofs.YtafchcmemeinlaaDoor
open Go.RowKit
set_option maxRecDepth 1000000

theorem dN (c:Ctl):aQ c=true↔((1≤c.k∧c.k≤6)∧gU c.f∧gU c.a∧gU c.s1∧gU c.s2∧gU c.s3∧gU c.s4∧gU c.s5∧(0≤c.ba∧c.ba<65536)∧(0≤c.ro∧c.ro<256)
  ∧ (c.k≤3→c.a=0)∧(c.k≠1→c.s1=0∧c.s2=0∧c.s3=0∧c.s4=0∧c.s5=0)∧(c.k≠6→c.ba=0∧c.ro=0∧c.ti.length=0)∧(3≤c.k→c.rs.length=0)∧(c.k≠4→c.lo.length=0)
  ∧ (c.k=6→(aZ c.ti).2.2=true)∧dL c.rs=true∧(c.k=4→bV c.lo=true)):=by
 rw[aQ,decide_eq_true_eq]
theorem yL {rs:List Rc} (h:dL rs=true):rs.length≤6:=by
 simp only[dL,Bool.and_eq_true,decide_eq_true_eq] at h
 exact h.1
theorem eO {c:Ctl} (h:aQ c=true) :
  (∃f s1 s2 s3 s4 s5 rs,c=⟨1,f,0,s1,s2,s3,s4,s5,rs,[],0,0,[]⟩∧rs.length≤6)∨(∃f rs,c=⟨2,f,0,0,0,0,0,0,rs,[],0,0,[]⟩∧rs.length≤6)∨(∃f,c=⟨3,f,0,0,0,0,0,0,[],[],0,0,[]⟩)
  ∨ (∃f a lo,c=⟨4,f,a,0,0,0,0,0,[],lo,0,0,[]⟩∧bV lo=true)∨(∃f a,c=⟨5,f,a,0,0,0,0,0,[],[],0,0,[]⟩)∨(∃f a ba ro ti,c=⟨6,f,a,0,0,0,0,0,[],[],ba,ro,ti⟩∧(aZ ti).2.2=true):=by
 rw[dN] at h
 obtain ⟨k,f,a,s1,s2,s3,s4,s5,rs,lo,ba,ro,ti⟩:=c
 dsimp only at h
 obtain ⟨h1,hf,ha,hs1,hs2,hs3,hs4,hs5,hba,hro,h2,h3,h4,h5,h6,h7,h8,h9⟩:=h
 have hr:=yL h8
 have nil:∀ {α:Type} {l:List α},l.length=0→l=[]:=fun h=>List.eq_nil_of_length_eq_zero h
 obtain rfl | rfl | rfl | rfl | rfl | rfl:k=1∨k=2∨k=3∨k=4∨k=5∨k=6:=by omega
 ·obtain ⟨rfl,rfl,e⟩:=h4 (by omega)
  obtain rfl:=nil e
  obtain rfl:=h2 (by omega)
  obtain rfl:=nil (h6 (by omega))
  exact .inl ⟨f,s1,s2,s3,s4,s5,rs,rfl,hr⟩
 ·obtain ⟨rfl,rfl,e⟩:=h4 (by omega)
  obtain rfl:=nil e
  obtain rfl:=h2 (by omega)
  obtain ⟨rfl,rfl,rfl,rfl,rfl⟩:=h3 (by omega)
  obtain rfl:=nil (h6 (by omega))
  exact .inr (.inl ⟨f,rs,rfl,hr⟩)
 ·obtain ⟨rfl,rfl,e⟩:=h4 (by omega)
  obtain rfl:=nil e
  obtain rfl:=h2 (by omega)
  obtain ⟨rfl,rfl,rfl,rfl,rfl⟩:=h3 (by omega)
  obtain rfl:=nil (h6 (by omega))
  obtain rfl:=nil (h5 (by omega))
  exact .inr (.inr (.inl ⟨f,rfl⟩))
 ·obtain ⟨rfl,rfl,e⟩:=h4 (by omega)
  obtain rfl:=nil e
  obtain ⟨rfl,rfl,rfl,rfl,rfl⟩:=h3 (by omega)
  obtain rfl:=nil (h5 (by omega))
  exact .inr (.inr (.inr (.inl ⟨f,a,lo,rfl,h9 rfl⟩)))
 ·obtain ⟨rfl,rfl,e⟩:=h4 (by omega)
  obtain rfl:=nil e
  obtain ⟨rfl,rfl,rfl,rfl,rfl⟩:=h3 (by omega)
  obtain rfl:=nil (h6 (by omega))
  obtain rfl:=nil (h5 (by omega))
  exact .inr (.inr (.inr (.inr (.inl ⟨f,a,rfl⟩))))
 ·obtain ⟨rfl,rfl,rfl,rfl,rfl⟩:=h3 (by omega)
  obtain rfl:=nil (h6 (by omega))
  obtain rfl:=nil (h5 (by omega))
  exact .inr (.inr (.inr (.inr (.inr ⟨f,a,ba,ro,ti,rfl,h7 rfl⟩))))
def aH5:Con
 | [.nils,.agg cs],H,K=>∃c:Ctl,Lf (cs=ctC c∧aQ c=true∧(c.k=1∨c.k=2))∧∀ (c1 c2 c3:List AV) (R:List UInt8),Lf (R=cZ c)→K (.ret (.sl (H.length+3) R.length 0 R.length 1)) (H++[⟨.exact,true,c1⟩,⟨.exact,true,c2⟩,⟨.grow,true,c3⟩,⟨.grow,true,ofBytes R⟩])
 | [.sl id tot 0 len 1,.agg cs],H,K=>∃ (bs:List UInt8) (c:Ctl),Lf (H[id]? = some ⟨.grow,true,ofBytes bs⟩∧tot=bs.length∧len=bs.length∧bs.length≤20000∧cs=ctC c∧aQ c=true)∧∀R:List UInt8,Lf (R=bs++cZ c)→K (.ret (.sl id R.length 0 R.length 1)) (H.set id ⟨.grow,true,ofBytes R⟩)
 | _,_,_=>False
theorem aJn {H:List Blk} {c1 c2 c3:List AV} {R:List UInt8} (h1:bB 0 c1=true∧bQ c1=true) (h2:bB 0 c2=true∧bQ c2=true) (h3:bB 0 c3=true∧bQ c3=true) :
  FrEnd id [] [⟨.exact,true,c1⟩,⟨.exact,true,c2⟩,⟨.grow,true,c3⟩,⟨.grow,true,ofBytes R⟩] H (H++[⟨.exact,true,c1⟩,⟨.exact,true,c2⟩,⟨.grow,true,c3⟩,⟨.grow,true,ofBytes R⟩]):=by
 refine ⟨by simp,fun j b0 hb hk=>by simp at hb,fun j b0 hb hk=>by simp at hb,fun j b0 hj hb => ?_,by simp,fun k hk hn => ?_,fun j b hb hk => ?_⟩
 ·match j with
  | 0=>simp at hb;subst hb;simp
  | 1=>simp at hb;subst hb;simp
  | 2=>simp at hb;subst hb;simp
  | 3=>simp at hb;subst hb;simp
  | j+4=>simp at hb
 ·rw[List.getElem?_append_left hk]
 ·have hs:sig id 0 H.length j=H.length+j:=by simp[sig]
  show (H++_)[sig id 0 H.length j]? = _
  rw[hs,List.getElem?_append_right (by omega),Nat.add_sub_cancel_left]
  match j with
  | 0=>simp at hb;subst hb;simp only[List.getElem?_cons_zero,aD1,bC _ _ h1.1 h1.2]
  | 1=>simp at hb;subst hb;simp only[List.getElem?_cons_succ,List.getElem?_cons_zero,aD1,bC _ _ h2.1 h2.2]
  | 2=>simp at hb;subst hb;simp only[List.getElem?_cons_succ,List.getElem?_cons_zero,aD1,bC _ _ h3.1 h3.2]
  | 3=>simp at hb;subst hb;simp only[List.getElem?_cons_succ,List.getElem?_cons_zero,aD1,bC _ _ (aN 0 _) (bS _)]
  | j+4=>simp at hb
theorem aPo:aO Tryd.prog glC 46 aH5:=by
 refine iF (enters_of (by kernel_rfl)) aV fun args H Q hc => ?_
 unfold aH5 at hc
 split at hc
 ·obtain ⟨c,⟨rfl,h1,h2⟩,hq⟩:=hc
  rcases eO h1 with ⟨f,s1,s2,s3,s4,s5,rs,rfl,hrs⟩ | ⟨f,rs,rfl,hrs⟩ | ⟨f,rfl⟩ | ⟨f,a,lo,rfl,hlo⟩ | ⟨f,a,rfl⟩ | ⟨f,a,ba,ro,ti,rfl,hti⟩
  ·obtain ⟨hv,hb',h⟩:=bPv f s1 s2 s3 s4 s5 rs hrs (fun o H' _=>∃c1 c2 c3 R,(bB 0 c1=true∧bQ c1=true)∧(bB 0 c2=true∧bQ c2=true)∧(bB 0 c3=true∧bQ c3=true)∧R=cZ ⟨1,f,0,s1,s2,s3,s4,s5,rs,[],0,0,[]⟩∧o=.ret (.sl 3 R.length 0 R.length 1)∧H'=[⟨.exact,true,c1⟩,⟨.exact,true,c2⟩,⟨.grow,true,c3⟩,⟨.grow,true,ofBytes R⟩])
    (fun c1 c2 c3 R g1 g2 g3 g4=>⟨c1,c2,c3,R,g1,g2,g3,g4,rfl,rfl⟩)
   refine ⟨_,1000,id,_,[],_,aS oN _ _ _,rfl,(bC id _ rfl rfl).symm,rfl,rfl,Fr.nil _,h, ?_⟩
   rintro o H0' g' ⟨c1,c2,c3,R,g1,g2,g3,g4,rfl,rfl⟩
   refine ⟨_,aJn g1 g2 g3, ?_⟩
   have:=hq c1 c2 c3 R ⟨g4⟩
   simpa [aM6,ren,sig] using this
  ·obtain ⟨hv,hb',h⟩:=bPt f rs hrs (fun o H' _=>∃c1 c2 c3 R,(bB 0 c1=true∧bQ c1=true)∧(bB 0 c2=true∧bQ c2=true)∧(bB 0 c3=true∧bQ c3=true)∧R=cZ ⟨2,f,0,0,0,0,0,0,rs,[],0,0,[]⟩∧o=.ret (.sl 3 R.length 0 R.length 1)∧H'=[⟨.exact,true,c1⟩,⟨.exact,true,c2⟩,⟨.grow,true,c3⟩,⟨.grow,true,ofBytes R⟩])
    (fun c1 c2 c3 R g1 g2 g3 g4=>⟨c1,c2,c3,R,g1,g2,g3,g4,rfl,rfl⟩)
   refine ⟨_,1000,id,_,[],_,aS oN _ _ _,rfl,(bC id _ rfl rfl).symm,rfl,rfl,Fr.nil _,h, ?_⟩
   rintro o H0' g' ⟨c1,c2,c3,R,g1,g2,g3,g4,rfl,rfl⟩
   refine ⟨_,aJn g1 g2 g3, ?_⟩
   have:=hq c1 c2 c3 R ⟨g4⟩
   simpa [aM6,ren,sig] using this
  all_goals exact absurd h2 (by simp)
 ·rename_i id tot len cs
  obtain ⟨bs,c,⟨h1,rfl,rfl,h3,rfl,h4⟩,hq⟩:=hc
  have hq:=hq _ ⟨rfl⟩
  rcases eO h4 with ⟨f,s1,s2,s3,s4,s5,rs,rfl,hrs⟩ | ⟨f,rs,rfl,hrs⟩ | ⟨f,rfl⟩ | ⟨f,a,lo,rfl,hlo⟩ | ⟨f,a,rfl⟩ | ⟨f,a,ba,ro,ti,rfl,hti⟩
  ·obtain ⟨hv,hb',h⟩:=bNk bs h3 f s1 s2 s3 s4 s5 rs hrs (fun o H' _=>o=.ret (.sl 0 (bs++cZ ⟨1,f,0,s1,s2,s3,s4,s5,rs,[],0,0,[]⟩).length 0 (bs++cZ ⟨1,f,0,s1,s2,s3,s4,s5,rs,[],0,0,[]⟩).length 1)∧H'=[⟨.grow,true,ofBytes (bs++cZ ⟨1,f,0,s1,s2,s3,s4,s5,rs,[],0,0,[]⟩)⟩]) ⟨rfl,rfl⟩
   refine ⟨_,1000,fun _=>id,[.sl 0 bs.length 0 bs.length 1,.agg (ctC ⟨1,f,0,s1,s2,s3,s4,s5,rs,[],0,0,[]⟩)],[⟨.grow,true,ofBytes bs⟩],_,aS oN _ _ _,rfl,rfl,rfl,rfl,sV h1 (aN 0 _) (aN 1 _) (bS _),h, ?_⟩
   rintro o H0' g' ⟨rfl,rfl⟩
   exact ⟨_,lT h1 (aN 0 _) (bS _),hq⟩
  ·obtain ⟨hv,hb',h⟩:=bP0 bs h3 f rs hrs (fun o H' _=>o=.ret (.sl 0 (bs++cZ ⟨2,f,0,0,0,0,0,0,rs,[],0,0,[]⟩).length 0 (bs++cZ ⟨2,f,0,0,0,0,0,0,rs,[],0,0,[]⟩).length 1)∧H'=[⟨.grow,true,ofBytes (bs++cZ ⟨2,f,0,0,0,0,0,0,rs,[],0,0,[]⟩)⟩]) ⟨rfl,rfl⟩
   refine ⟨_,1000,fun _=>id,[.sl 0 bs.length 0 bs.length 1,.agg (ctC ⟨2,f,0,0,0,0,0,0,rs,[],0,0,[]⟩)],[⟨.grow,true,ofBytes bs⟩],_,aS oN _ _ _,rfl,rfl,rfl,rfl,sV h1 (aN 0 _) (aN 1 _) (bS _),h, ?_⟩
   rintro o H0' g' ⟨rfl,rfl⟩
   exact ⟨_,lT h1 (aN 0 _) (bS _),hq⟩
  ·obtain ⟨hv,hb',h⟩:=bN2 bs h3 f (fun o H' _=>o=.ret (.sl 0 (bs++cZ ⟨3,f,0,0,0,0,0,0,[],[],0,0,[]⟩).length 0 (bs++cZ ⟨3,f,0,0,0,0,0,0,[],[],0,0,[]⟩).length 1)∧H'=[⟨.grow,true,ofBytes (bs++cZ ⟨3,f,0,0,0,0,0,0,[],[],0,0,[]⟩)⟩]) ⟨rfl,rfl⟩
   refine ⟨_,1000,fun _=>id,[.sl 0 bs.length 0 bs.length 1,.agg (ctC ⟨3,f,0,0,0,0,0,0,[],[],0,0,[]⟩)],[⟨.grow,true,ofBytes bs⟩],_,aS oN _ _ _,rfl,rfl,rfl,rfl,sV h1 (aN 0 _) (aN 1 _) (bS _),h, ?_⟩
   rintro o H0' g' ⟨rfl,rfl⟩
   exact ⟨_,lT h1 (aN 0 _) (bS _),hq⟩
  ·obtain ⟨hv,hb',h⟩:=bP6 bs h3 f a lo hlo (fun o H' _=>o=.ret (.sl 0 (bs++cZ ⟨4,f,a,0,0,0,0,0,[],lo,0,0,[]⟩).length 0 (bs++cZ ⟨4,f,a,0,0,0,0,0,[],lo,0,0,[]⟩).length 1)∧H'=[⟨.grow,true,ofBytes (bs++cZ ⟨4,f,a,0,0,0,0,0,[],lo,0,0,[]⟩)⟩]) ⟨rfl,rfl⟩
   refine ⟨_,1000,fun _=>id,[.sl 0 bs.length 0 bs.length 1,.agg (ctC ⟨4,f,a,0,0,0,0,0,[],lo,0,0,[]⟩)],[⟨.grow,true,ofBytes bs⟩],_,aS aU8 _ _ _,rfl,rfl,rfl,rfl,sV h1 (aN 0 _) (aN 1 _) (bS _),h, ?_⟩
   rintro o H0' g' ⟨rfl,rfl⟩
   exact ⟨_,lT h1 (aN 0 _) (bS _),hq⟩
  ·obtain ⟨hv,hb',h⟩:=bOd bs h3 f a (fun o H' _=>o=.ret (.sl 0 (bs++cZ ⟨5,f,a,0,0,0,0,0,[],[],0,0,[]⟩).length 0 (bs++cZ ⟨5,f,a,0,0,0,0,0,[],[],0,0,[]⟩).length 1)∧H'=[⟨.grow,true,ofBytes (bs++cZ ⟨5,f,a,0,0,0,0,0,[],[],0,0,[]⟩)⟩]) ⟨rfl,rfl⟩
   refine ⟨_,1000,fun _=>id,[.sl 0 bs.length 0 bs.length 1,.agg (ctC ⟨5,f,a,0,0,0,0,0,[],[],0,0,[]⟩)],[⟨.grow,true,ofBytes bs⟩],_,aS oN _ _ _,rfl,rfl,rfl,rfl,sV h1 (aN 0 _) (aN 1 _) (bS _),h, ?_⟩
   rintro o H0' g' ⟨rfl,rfl⟩
   exact ⟨_,lT h1 (aN 0 _) (bS _),hq⟩
  ·obtain ⟨hv,hb',h⟩:=bP3 bs h3 f a ba ro ti hti (fun o H' _=>o=.ret (.sl 0 (bs++cZ ⟨6,f,a,0,0,0,0,0,[],[],ba,ro,ti⟩).length 0 (bs++cZ ⟨6,f,a,0,0,0,0,0,[],[],ba,ro,ti⟩).length 1)∧H'=[⟨.grow,true,ofBytes (bs++cZ ⟨6,f,a,0,0,0,0,0,[],[],ba,ro,ti⟩)⟩]) ⟨rfl,rfl⟩
   refine ⟨_,1000,fun _=>id,[.sl 0 bs.length 0 bs.length 1,.agg (ctC ⟨6,f,a,0,0,0,0,0,[],[],ba,ro,ti⟩)],[⟨.grow,true,ofBytes bs⟩],_,aS oN _ _ _,rfl,rfl,rfl,rfl,sV h1 (aN 0 _) (aN 1 _) (bS _),h, ?_⟩
   rintro o H0' g' ⟨rfl,rfl⟩
   exact ⟨_,lT h1 (aN 0 _) (bS _),hq⟩
 ·exact hc.elim
end Go.Proofs.YtafchcmemeinlaaDoor

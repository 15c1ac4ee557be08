/-
  The engine, part R: regions that draw their order.
-/
import Derived.Test.YtnhechnaemmdiaaGreatDoorEnE
set_option linter.unusedSimpArgs false
set_option linter.unusedVariables false
namespace Go.Proofs.YtnhechnaemmdiaaGreatDoor
open Go.RowKit

section
variable {P:Program} {E:Env} {nt:Nat} {B:Fb} {ops:Array Oper} {l0:List AOper} {t0:Nat→AV} {X:List Ls} {g:Gh} {m0:M} {H0:List Blk} {w0:World} {L:Nat→Bool} {D:List Rcd} {l:List AOper} {s:S} {fl:List Fl} {m:M} {a:Act} {w:World} {rec:Rec} {Q:Ex→S→Gh→Prop}

theorem Canon.bad (C:Canon P nt ops l0) {x:AOper} (hx:x∈l0) {why:String} (hb:x.op=.bad why) (hd:¬ ∃o,ops[x.ix]? = some o∧o.dst=x.dst∧(∀d,o.dst=some d→d<nt)∧x.op=cOp P o.op ∧
  ((o.guard=none∧x.guard=none)∨∃j b g,o.guard=some (j,b)∧(ops[j]?).bind (·.dst)=some g∧g<nt∧x.guard=some (g,b))):x.guard=none:=by
 obtain ⟨o,h1,h2,h3,h4,h5⟩:=C.mem x hx
 rcases mF P nt ops o with ⟨why,hbad⟩ | ⟨hd',c1,c2,c3⟩
 ·rw[hbad] at h4;exact h4
 ·exact absurd ⟨o,h1,by rw[h2,c1],hd',by rw[h3,c2],by rw[h4];exact c3⟩ hd

def bG7 (P:Program) (nt:Nat) (ops:Array Oper) (x:AOper):Prop:=∃o,ops[x.ix]? = some o∧o.dst=x.dst∧(∀d,o.dst=some d→d<nt)∧x.op=cOp P o.op ∧
  ((o.guard=none∧x.guard=none)∨∃j b g,o.guard=some (j,b)∧(ops[j]?).bind (·.dst)=some g∧g<nt∧x.guard=some (g,b))

theorem Canon.cases (C:Canon P nt ops l0) {x:AOper} (hx:x∈l0):bG7 P nt ops x∨(x.guard=none∧∃why,x.op=.bad why):=by
 obtain ⟨o,h1,h2,h3,h4,h5⟩:=C.mem x hx
 rcases mF P nt ops o with ⟨why,hbad⟩ | ⟨hd',c1,c2,c3⟩
 ·rw[hbad] at h4 h3;exact .inr ⟨h4,why,h3⟩
 ·exact .inl ⟨o,h1,by rw[h2,c1],hd',by rw[h3,c2],by rw[h4];exact c3⟩

def Stop (E:Env) (rec:Rec) (Q:Ex→S→Gh→Prop) (l:List AOper) (s:S) (k:Gh) (fl:List Fl):Prop:=
 (l=[]∧Q .nrm s k)∨∃x l',l=x::l'∧gd s x.guard=some true∧heavy x.op=true∧aGv E rec (x::l') s k fl Q

theorem Inv.advance (C:Canon P nt ops l0) (hnt:nt≤4000):∀ (l:List AOper) (D:List Rcd) (s:S) (k:Gh) (fl:List Fl),Inv P E nt B ops l0 t0 X m0 H0 w0 L D l s k fl m a w→aGv E rec l s k fl Q →
  ∃D' l' s' k' fl',Inv P E nt B ops l0 t0 X m0 H0 w0 L D' l' s' k' fl' m a w∧Stop E rec Q l' s' k' fl'
 | [],D,s,k,fl,h,hd=>⟨D,[],s,k,fl,h,.inl ⟨rfl,hd⟩⟩
 | x::l,D,s,k,fl,h,hd=>by
  have hxl:x∈l0:=by rw[←h.ord];simp
  by_cases hhv:gd s x.guard=some true∧heavy x.op=true
  ·exact ⟨D,x::l,s,k,fl,h,.inr ⟨x,l,rfl,hhv.1,hhv.2,hd⟩⟩
  rw[aGv] at hd
  cases hg:gd s x.guard with
  | none=>rw[hg] at hd;exact hd.elim
  | some t=>
   rw[hg] at hd
   have hB:bG7 P nt ops x:=by
    rcases C.cases hxl with hB | ⟨hgn,why,hbad⟩
    ·exact hB
    ·rw[hgn] at hg
     simp only[gd,bOl] at hg
     subst hg
     exact absurd ⟨by rw[hgn];rfl,by rw[hbad];rfl⟩ hhv
   obtain ⟨o,o1,o2,o3,o4,o5⟩:=hB
   have hdn:∀k,x.dst=some k→k<nt:=fun k hk=>o3 k (by rw[o2];exact hk)
   cases t with
   | false=>
    simp only at hd
    have hf:bEo E t0 D ⟨x,.tup [],.skip s.tm⟩:=⟨h.tms,by rw[←bGm];exact hg,rfl⟩
    have h':=h.quietly hnt hdn (v:=.tup []) (kd:=.skip s.tm) (by simp) hf [] fl (fun f hf=>hf) trivial (fun i hi=>by simp[pF] at hi)
    rw[bPd] at h'
    exact Inv.advance C hnt l _ _ _ _ h' hd
   | true=>
    have hnh:heavy x.op=false:=by
     cases hc:heavy x.op with
     | false=>rfl
     | true=>exact absurd ⟨hg,hc⟩ hhv
    simp only at hd
    split at hd
    ·rename_i f args hop
     rw[hop] at hnh
     simp[heavy] at hnh
    ·split at hd
     ·rename_i r hl
      obtain ⟨hp,hd⟩:=lQ hd
      have hd:=oH hd
      have hf:bEo E t0 D ⟨x,r.v,.quiet s.tm s.hp r⟩:=⟨h.tms,by rw[←bGm];exact hg,hl,hp,rfl⟩
      have h':=h.quietly hnt hdn (v:=r.v) (kd:=.quiet s.tm s.hp r) (by simp) hf r.nb.toList (aTq x s.hp r++fl) (fun f hf=>bR3 _ hf) ?_ ?_
      ·exact Inv.advance C hnt l _ _ _ _ h' hd
      ·refine ⟨fun y hy => ?_,fun b hb => ?_⟩
       ·have hlt:y.id<s.hp.length:=by
         rcases bDc hl hp y hy with ⟨tot,hc⟩ | hc
         ·unfold cur at hc
          split at hc
          ·rename_i b hb;exact (bPa.1 hb).1
          ·cases hc
         ·unfold aQ at hc
          split at hc
          ·rename_i b hb;exact (bPa.1 hb).1
          ·exact absurd rfl hc
        have e1:(s.hp++r.nb.toList)[y.id]? = s.hp[y.id]? := bPc hlt
        refine ⟨⟨by simp only[aQ,e1],by simp only[jY,e1]⟩,by simp;omega, ?_⟩
        refine bQz _ ?_
        unfold aTq
        exact bQz _ (bPs.2 ⟨y,hy,rfl⟩)
       ·refine ⟨by simp[hb], ?_,h.mv.len, ?_⟩
        ·cases hc:m.blk s.hp.length with
         | none=>rfl
         | some J=>have:=h.hr.dom _ _ hc;omega
        ·refine bQz _ ?_
         unfold aTq
         rw[hb]
         exact bR3 _ (by simp)
      ·intro i hi
       simp only[pF] at hi
       cases hb:r.nb with
       | none=>rw[hb] at hi;simp at hi
       | some b=>rw[hb] at hi;simp at hi;simp[hi]
     ·exact absurd (aKz hd) (by rw[hnh];simp)

theorem Inv.all (C:Canon P nt ops l0) (h:Inv P E nt B ops l0 t0 X m0 H0 w0 L D l s g fl m a w) {listed:Array Bool} (hsz:listed.size=ops.size) (hL:∀j,L j=listed.getD j false) (hr:Region.ready .any ops listed=[]):∀x∈l0,L x.ix=true:=by
 have hno:∀i o,ops[i]? = some o→L i=false→(∀e∈o.after,Region.binds .any e=true→L e.on=true)→False:=by
  intro i o ho hLi he
  have hlt:i<ops.size:=(bOm.1 ho).1
  have:i∈Region.ready .any ops listed:=by
   rw[bTz]
   refine ⟨?_,o,ho,fun e h1 h2=>by rw[←hL];exact he e h1 h2⟩
   have:=hL i
   rw[hLi] at this
   have hlt':i<listed.size:=by omega
   simp[hlt'] at this ⊢
   exact this
  rw[hr] at this
  cases this
 have key:∀ (p q:List AOper),p++q=l0→(∀x∈p,L x.ix=true)→∀x∈q,L x.ix=true:=by
  intro p q
  induction q generalizing p with
  | nil=>intro _ _ x hx;cases hx
  | cons y q ih=>
   intro hpq hp x hx
   have hy:y∈l0:=by rw[←hpq];simp
   have hLy:L y.ix=true:=by
    cases hc:L y.ix with
    | true=>rfl
    | false=>
     obtain ⟨o,h1,_,_,_,h2⟩:=C.mem y hy
     exfalso
     refine hno y.ix o h1 hc fun e he hb => ?_
     have hg:=sO ops.toList [] y.ix o (by simpa using h1)
     simp only[bOe,bQo] at hg
     rw[h2] at hg
     simp only[bOl] at hg
     have hbit:y.bf.testBit e.on=true:=by
      rw[hg]
      exact oU _ _ _ e (by simpa using he) hb
     have hlt:e.on<ops.size:=by
      rcases bTe e.on ops.size with h3 | h3
      ·exact h3
      ·have:=Nat.testBit_lt_two_pow (bPf (C.self y hy).2 (bR9 (by omega) h3))
       rw[this] at hbit
       cases hbit
     obtain ⟨z,z1,z2⟩:=C.cov e.on hlt
     rw[←z2] at hbit ⊢
     have hpw:=C.pairs
     rw[←hpq,bQy,bRd] at hpw
     rw[←hpq] at z1
     rcases bPo.1 z1 with h4 | h4
     ·exact hp z h4
     ·rcases bOr.1 h4 with h4 | h4
      ·rw[h4,(C.self y hy).1] at hbit;cases hbit
      ·rw[aTd (hpw.2.1.1 z h4)] at hbit;cases hbit
   rcases bOr.1 hx with h5 | h5
   ·rw[h5];exact hLy
   ·exact ih (p++[y]) (by rw[←hpq];simp) (fun z hz=>by
     rcases bPo.1 hz with h6 | h6
     ·exact hp z h6
     ·rw[bOy] at h6;rw[h6];exact hLy) x h5
 exact fun x hx=>key [] l0 rfl (fun x hx=>by cases hx) x hx

theorem Inv.fin (h:Inv P E nt B ops l0 t0 X m0 H0 w0 L D l s g fl m a w) (hs:Stop E rec Q l s g fl) (hall:∀x∈l0,L x.ix=true):Post P E.gl nt B X m0 H0 w0 Q .normal a w:=by
 rcases hs with ⟨hl,hQ⟩ | ⟨x,l',hl,_⟩
 ·subst hl
  refine ⟨.nrm,s,g,m,hQ,trivial,⟨fun t => ?_,h.sz,h.df,h.hr⟩,h.lps,h.mv⟩
  have:=h.con t
  rw[kH (S':=all1) t D _ fun r hr _=>hall r.x (by rw[←h.ord];exact bQz _ (bPs.2 ⟨r,hr,rfl⟩)),←h.tms t] at this
  exact this
 ·subst hl
  have h1:=h.unl x (by simp)
  have h2:=hall x (by rw[←h.ord];simp)
  rw[h1] at h2
  cases h2
end
end Go.Proofs.YtnhechnaemmdiaaGreatDoor

namespace Go.Proofs.YtnhechnaemmdiaaGreatDoor
open Go.RowKit

section
variable {P:Program} {E:Env} {nt:Nat} {B:Fb} {ops:Array Oper} {l0:List AOper} {t0:Nat→AV} {X:List Ls} {r0:Option Nat} {m0:M} {H0:List Blk} {w0:World} {rec:Rec} {Q:Ex→S→Gh→Prop}

theorem kK {listed:Array Bool} {i:Nat} (hi:listed.getD i true=false):listed[i]? = some false∧(∀j,(listed.setIfInBounds i true).getD j false=(listed.getD j false||j==i))∧(listed.setIfInBounds i true).toList.count false+1=listed.toList.count false:=by
 have hlt:i<listed.size:=by
  rcases bTe i listed.size with h | h
  ·exact h
  ·rw[Array.getD_eq_getD_getElem?,Array.getElem?_eq_none h] at hi;cases hi
 have hf:listed[i]=false:=by simpa [hlt] using hi
 refine ⟨by simp[hlt,hf],fun j => ?_, ?_⟩
 ·by_cases hj:j=i
  ·subst hj;simp[hlt]
  ·simp[bQj (bTl hj),hj]
 ·rw[bR7,List.count_set (by simpa using hlt)]
  have h1:listed.toList[i]=false:=by simpa using hf
  have h2:0<listed.toList.count false:=List.count_pos_iff.2 (h1▸bPx _)
  have h3:(true==false)=false:=rfl
  simp only[h1,h3,bQh,bR8,bP2,bRw]
  omega

theorem any_ok (hE:EnvOk P E) (hrec:uU P E rec) (C:Canon P nt ops l0) (hnt:nt≤4000):∀ (fuel:Nat) (listed:Array Bool) (L:Nat→Bool) (D:List Rcd) (l:List AOper) (s:S) (k:Gh) (fl:List Fl) (m:M) (a:Act) (w:World),
  listed.size=ops.size→(∀j,L j=listed.getD j false)→listed.toList.count false≤fuel→Inv P E nt B ops l0 t0 X m0 H0 w0 L D l s k fl m a w→aGv E rec l s k fl Q→wpAnyIn (Wd r0) 0 P .any ops (Post P E.gl nt B X m0 H0 w0 Q) fuel listed a w
 | 0,listed,L,D,l,s,k,fl,m,a,w,hsz,hL,hc,h,hd=>by
  obtain ⟨D,l,s,k,fl,h,hs⟩:=Inv.advance C hnt l D s k fl h hd
  have hr:Region.ready .any ops listed=[]:=by
   cases hr:Region.ready .any ops listed with
   | nil=>rfl
   | cons i r=>
    have hi:i∈Region.ready .any ops listed:=by rw[hr];simp
    rw[bTz] at hi
    have:=(kK hi.1).2.2
    omega
  exact ⟨hr,h.fin hs (h.all C hsz hL hr)⟩
 | fuel+1,listed,L,D,l,s,k,fl,m,a,w,hsz,hL,hc,h,hd=>by
  obtain ⟨D,l,s,k,fl,h,hs⟩:=Inv.advance C hnt l D s k fl h hd
  refine ⟨fun hr=>h.fin hs (h.all C hsz hL hr),fun i hi => ?_⟩
  rw[bTz] at hi
  obtain ⟨hi1,o,ho,he⟩:=hi
  obtain ⟨s1,s2,s3⟩:=kK hi1
  have hLi:L i=false:=by rw[hL];simp[s1]
  have he:∀e∈o.after,Region.binds .any e=true→L e.on=true:=fun e h1 h2=>by rw[hL];exact he e h1 h2
  obtain ⟨x,hxl,hxi⟩:=C.cov i (bOm.1 ho).1
  subst hxi
  have hb:=C.bits h.cls hxl ho he
  have ih:∀ {D:List Rcd} {l:List AOper} {s:S} {k:Gh} {fl:List Fl} {m:M} {a:Act} {w:World},Inv P E nt B ops l0 t0 X m0 H0 w0 (fun j=>L j||j==x.ix) D l s k fl m a w→aGv E rec l s k fl Q→wpAnyIn (Wd r0) 0 P .any ops (Post P E.gl nt B X m0 H0 w0 Q) fuel (listed.setIfInBounds x.ix true) a w:=
   fun {D l s k fl m a w} h hd=>any_ok hE hrec C hnt fuel _ _ D l s k fl m a w (by simpa using hsz) (fun j=>by rw[s2,hL]) (by omega) h hd
  have hpre:aGv E rec l s k fl Q:=by
   rcases hs with ⟨rfl,hQ⟩ | ⟨y,l',rfl,_,_,hd⟩
   ·exact hQ
   ·exact hd
  simp only[wpOpIn,ho]
  have hmem:=hxl
  rw[←h.ord] at hmem
  rcases bPo.1 hmem with hmem | hmem
  ·-- an operation that the abstract run has passed
   obtain ⟨r,hrD,hrx⟩:=bPs.1 hmem
   obtain ⟨i,hi⟩:=List.getElem?_of_mem hrD
   have hLr:L r.x.ix=false:=by rw[hrx];exact hLi
   have hf:=h.fact i r hi
   have hlv:=h.live r hrD hLr
   have hbr:∀j,r.x.bf.testBit j=true→L j=true:=by rw[hrx];exact hb
   unfold bEo at hf
   split at hf
   ·rename_i hk
    have:=h.hv r hrD hk
    rw[hLr] at this
    cases this
   ·rename_i tm hk
    obtain ⟨f1,f2,f3⟩:=hf
    have hsl:∀t∈uses r.x,VR m (tm.get t) (a.tmps.getD t undef):=fun t ht=>by rw[f1];exact h.slots C hi hLr hbr ht
    rw[hrx] at f2 hsl
    rcases C.cases hxl with hB | ⟨hgn,_⟩
    ·obtain ⟨o',o1,o2,o3,o4,o5⟩:=hB
     rw[ho] at o1
     cases o1
     have hw:=lZ (m:=m) (tm:=tm) h.sz (fun g b hg=>hsl g (by simp[uses,hg])) o5 f2
     rw[hw]
     simp only[bP2,bRw]
     refine ⟨fun _ _=>trivial, ?_⟩
     have h':=h.run C (o:=o) hi hLr (by rw[hrx];exact ho) (by rw[hrx];exact o2) o3 he (Ext.refl m) (w':=w) (v:=undef) (by rw[f3];simp[VR,undef]) h.hr h.mv h.df h.lps (fun id _ h=>h)
     rw[hrx] at h'
     exact ih h' hpre
    ·rw[hgn] at f2;cases f2
   ·rename_i tm H lr hk
    obtain ⟨f1,f2,f3,f4,f5⟩:=hf
    have hsl:∀t∈uses r.x,VR m (tm.get t) (a.tmps.getD t undef):=fun t ht=>by rw[f1];exact h.slots C hi hLr hbr ht
    rcases C.cases hxl with hB | ⟨_,why,hbad⟩
    ·obtain ⟨o',o1,o2,o3,o4,o5⟩:=hB
     rw[ho] at o1
     cases o1
     rw[hrx] at f2 hsl f3
     have hw:=lZ (m:=m) (tm:=tm) h.sz (fun g b hg=>hsl g (by simp[uses,hg])) o5 f2
     rw[hw]
     simp only[bR8]
     unfold Live at hlv
     rw[hk] at hlv
     simp only at hlv
     have hρ:∀y,VR m (evu (oZ x.op) tm (cO y)) (a.eval y):=bFb fun t ht=>hsl t (by unfold uses;exact bR3 _ ht)
     have hl2:=aP9 (cu':=cur s.hp) (ca':=aQ s.hp) f3 fun y hy=>by
      obtain ⟨⟨q1,q2⟩,_⟩:=hlv.1 y hy
      exact ⟨fun tot=>aW1 q2 tot,q1⟩
     rw[o4] at hl2 hρ
     have hl:=aCd (P:=P) h.hr hρ (fun v=>rfl) o H.length hl2 f4
     have hnd:∀c,o.op≠.defer c:=fun c hc=>by rw[iQ hc] at hl2;cases hl2
     unfold Oper.wpIn
     refine ⟨fun _ _=>trivial, ?_⟩
     rw[eH hnd]
     rcases hl with ⟨hnb,v,hrun,hv⟩ | ⟨nb,v,w',I,hnb,hrun,hN,hv⟩
     ·rw[hrun,bQ7]
      have h':=h.run C (o:=o) hi hLr (by rw[hrx];exact ho) (by rw[hrx];exact o2) o3 he (Ext.refl m) (w':=w) (v:=v) (by rw[f5];exact hv) h.hr h.mv h.df h.lps (fun id _ h=>h)
      rw[hrx] at h'
      exact ih h' hpre
     ·rw[hrun,bQ7]
      obtain ⟨n1,n2,n3,n4⟩:=hlv.2 nb hnb
      obtain ⟨q1,q2⟩:=h.hr.map n2 n1 (fun j _ _=>rfl) (bOt _) hN
      have h':=h.run C (o:=o) hi hLr (by rw[hrx];exact ho) (by rw[hrx];exact o2) o3 he q2.ext (w':=w') (v:=v) (by rw[f5];exact hv _ (M.set_same _ _ _)) q1 (h.mv.late q2 n3) (h.df.step h.hr q2) (h.lps.stepw h.hr q2 (bOt _) rfl (bOt _)) (fun id hid hn=>by
       rw[M.set_other _ _ ?_]
       ·exact hn
       ·intro e
        refine hid ?_
        simp[pF,hk,hnb,e])
      rw[hrx] at h'
      exact ih h' hpre
    ·rw[hrx,hbad] at f3;cases f3
  ·-- the operation that is next
   rcases hs with ⟨rfl,_⟩ | ⟨y,l',rfl,hg,hhv,hd⟩
   ·cases hmem
   ·rcases bOr.1 hmem with e | hmem
    ·subst e
     rcases C.cases hxl with hB | ⟨_,why,hbad⟩
     ·obtain ⟨o',o1,o2,o3,o4,o5⟩:=hB
      rw[ho] at o1
      cases o1
      have hsl:∀t∈uses x,VR m (s.tm.get t) (a.tmps.getD t undef):=fun t ht=>h.slots_head C hb ht
      have hw:=lZ (m:=m) (tm:=s.tm) (H:=s.hp) h.sz (fun g b hg=>hsl g (by simp[uses,hg])) o5 hg
      rw[hw]
      simp only[bR8]
      have hρ:∀y,VR m (evu (oZ (cOp P o.op)) s.tm (cO y)) (a.eval y):=bFb fun t ht=>hsl t (by unfold uses;rw[o4];exact bR3 _ ht)
      obtain ⟨p1,p2⟩:=bGz hE hrec (X:=X) (r:=r0) h.hr hρ (fun _=>rfl) (o:=o) (next:=wpAnyIn (Wd r0) 0 P .any ops (Post P E.gl nt B X m0 H0 w0 Q) fuel (listed.setIfInBounds x.ix true)) (QQ:=Post P E.gl nt B X m0 H0 w0 Q)
      rw[aGv,hg] at hd
      simp only at hd
      rw[o4] at hd
      split at hd
      ·rename_i f args hop
       refine p2 f args k _ h.lps hop hd fun m' w' ov H' k' hq hH' hX' hmv'=>⟨fun av v e hv => ?_,fun av v e hv => ?_⟩
       ·subst e
        obtain ⟨c1,c2,c3⟩:=oK hq
        exact ih (h.writes C hnt ho o2 o3 he hv hH' hmv' (h.df.stepx h.hr h.lps hmv') hX' c2 c3) (oH c1)
       ·subst e
        exact ⟨.pan av,_,k',m',hq,⟨v,rfl,hv⟩,⟨fun j=>by rw[T.get_e];simp[VR],h.sz,h.df.stepx h.hr h.lps hmv',hH'⟩,hX',h.mv.trans hmv'⟩
      ·rename_i hne
       split at hd
       ·rename_i r hl
        have:=aPd hl
        rw[←o4,hhv] at this
        cases this
       ·refine p1 _ _ (bK4 hd) fun m' w' av H' v hq hH' hmv' hv => ?_
        obtain ⟨c1,c2,c3⟩:=oK hq
        exact ih (h.writes C hnt ho o2 o3 he hv hH' (hmv'.mx _) (h.df.step h.hr hmv'.toMw) (h.lps.step (g':=k) h.hr hmv' rfl (bOt _)) c2 c3) (oH c1)
     ·rw[aGv,hg] at hd
      simp only at hd
      rw[hbad] at hd
      exact hd.elim
    ·obtain ⟨_,hpl,_⟩:=h.pairs C
     rw[bRd] at hpl
     have:=hb _ (aIr (hpl.1 x hmem) hhv)
     rw[h.unl y (by simp)] at this
     cases this

theorem aSy (hE:EnvOk P E) (hrec:uU P E rec) (hnt:nt≤4000) {id:Nat} (hl:drawnOf P nt ops=.drawn l0) {s:S} {k:Gh} {m:M} {a:Act} {w:World} (h:SR E.gl nt B m s a w) (hX:LpR P E.gl X k m s.hp w) (hd:aGv E rec l0 s k [] Q) :
  (Code.region id ops true).wpIn (Wd r0) 0 P (Post P E.gl nt B X m s.hp w Q) a w:=by
 refine wpIn_region_any hE.mixed (any_ok (t0:=fun t=>s.tm.get t) hE hrec (aRh hl) hnt ops.size _ (fun _=>false) [] l0 s k [] m a _ (by simp) (fun j => ?_) (by simp[List.count_replicate]) ?_ hd)
 ·by_cases hj:j<ops.size<;>simp[hj]
 ·have hm:Mv m s.hp w m s.hp { w with drawn:=w.drawn+1 }:=⟨⟨Ext.refl m,rfl,rfl,rfl,bOt _,fun _ _ _=>rfl,fun _ h=>.inr h,fun _ _ h=>h,fun _ _ _ h=>.inl h⟩,bOt _,fun _ _ h=>h⟩
  refine ⟨rfl,fun t=>rfl,fun t=>h.tm t,h.nt,h.df,hX.step (g':=k) h.hp hm rfl (bOt _),⟨h.hp.dom,fun id I b h1 h2 => ?_,h.hp.inj,h.hp.glb,h.hp.gld,h.hp.frz,h.hp.fow,h.hp.gow⟩,hm.mx _,fun r hr=>(by cases hr),fun _ _=>rfl,fun i r hi=>(by simp at hi),fun r hr=>(by cases hr),List.Pairwise.nil,fun r hr=>(by cases hr),fun i o ho hL=>(by cases hL)⟩
  have:=h.hp.blk id I b h1 h2
  exact ⟨this.tot,this.lf,this.row,this.mrow⟩
end
end Go.Proofs.YtnhechnaemmdiaaGreatDoor

namespace Go.Proofs.YtnhechnaemmdiaaGreatDoor
open Go.RowKit

theorem eX {P:Program} {b:Frame} {a:Act} {k:List Item} {cs:List Frame} {w:World} {c:Code}:Go.step P (lone (b.atR a (.code (.scope c)::k)) cs w)=.next (lone (b.atR a (.code c::.inScope c::k)) cs w):=
 step_lone_go (by simp[stepG,stepG.exec,Frame.atR])
theorem xW {P:Program} {b:Frame} {a:Act} {k:List Item} {cs:List Frame} {w:World} {c:Code}:Go.step P (lone (b.atR a (.inScope c::k)) cs w)=.next (lone (b.atR a k) cs w):=
 step_lone_go (by simp[stepG,stepG.exec,Frame.atR])

theorem lK {F:Fence} {n:Nat} {P:Program} {Q:Exit→Act→World→Prop} {a:Act} {w:World} {c:Code} (h:c.wpIn F n P (Exit.noGoto Q) a w):(Code.scope c).wpIn F n P Q a w:=by
 intro b k cs hro hb hr
 have h0:(lone (b.atR a (.code (.scope c)::k)) cs w).fenced P F:=fenced_calm hb hr rfl
 obtain ⟨e,a₁,w₁,hq,harr⟩:=h b (.inScope c::k) cs hro hb hr
 cases e with
 | normal=>exact ⟨.normal,a₁,w₁,hq,.head h0 eX (StepsIn.trans harr (.one (fenced_calm hb hr rfl) xW))⟩
 | exit id=>
  have hx:exitTo id (.inScope c::k)=exitTo id k:=by simp[exitTo]
  exact ⟨.exit id,a₁,w₁,hq,fun k' hk=>.head h0 eX (harr.1 k' (by rw[hx];exact hk)),
   fun hr' hk=>let ⟨k₁,h1,h2⟩:=harr.2 hr' (by rw[hx];exact hk);⟨k₁,h1,.head h0 eX h2⟩⟩
 | goto l=>exact hq.elim
 | ret=>exact ⟨_,a₁,w₁,hq,.of_steps (.one h0 eX) harr⟩
 | panic ch=>exact ⟨_,a₁,w₁,hq,.of_steps (.one h0 eX) harr⟩
 | outgrown=>exact ⟨_,a₁,w₁,hq,.of_steps (.one h0 eX) harr⟩

section
variable {P:Program} {gl:Nat→Option (List AV)} {E:Env} {nt:Nat} {B:Fb} {X:List Ls}

theorem Post.trans {m0 m1:M} {H0 H1:List Blk} {w0 w1:World} {Q:Ex→S→Gh→Prop} (h:Mx (X.map (·.l)) m0 H0 w0 m1 H1 w1) {e:Exit} {a:Act} {w:World} (k:Post P gl nt B X m1 H1 w1 Q e a w):Post P gl nt B X m0 H0 w0 Q e a w:=by
 obtain ⟨ae,s',k',m',q1,q2,q3,q4,q5⟩:=k
 exact ⟨ae,s',k',m',q1,q2,q3,q4,h.trans q5⟩

theorem SR.clr {m:M} {s:S} {a:Act} {w:World} (h:SR gl nt B m s a w) (lv:Nat):SR gl nt B m (clr lv s) a w:=by
 refine ⟨fun k => ?_,h.nt,h.df,h.hp⟩
 show VR m ((s.tm.keep lv 1 0).get k) _
 rcases T.get_keep lv s.tm 1 0 k with e | e
 ·rw[e];exact h.tm k
 ·rw[e];simp[VR]

theorem aUq {lv base k:Nat} {s:S} {K:S→Prop} (h:zQ E lv base k s K):K (Go.Proofs.YtnhechnaemmdiaaGreatDoor.clr lv s)∨(((Go.Proofs.YtnhechnaemmdiaaGreatDoor.clr lv s).tm.old base=true∧aIn base (s.hp.take base)=true)∧K ⟨(Go.Proofs.YtnhechnaemmdiaaGreatDoor.clr lv s).tm,s.hp.take base⟩):=by
 unfold zQ at h
 split at h
 ·simp only[bN9] at h;exact .inr h
 ·exact .inl h
 ·cases hc:((Go.Proofs.YtnhechnaemmdiaaGreatDoor.clr lv s).tm.old base&&aIn base (s.hp.take base))
  ·simp only[hc,bPi] at h;exact .inl h
  ·simp only[hc,bO3] at h
   simp only[bN9] at hc
   exact .inr ⟨hc,h⟩

theorem aC7 {m0 m:M} {H0:List Blk} {w0:World} {s:S} {g:Gh} {a:Act} {w:World} (h:SR gl nt B m s a w) (hX:LpR P gl X g m s.hp w) (hm:Mx (X.map (·.l)) m0 H0 w0 m s.hp w) (lv base k:Nat) (hd:∀id I,m0.blk id=some I→id<base) (hb:H0.length≤base) (hbl:base≤s.hp.length) (hlow:Low X base) {K:S→Prop} (hK:zQ E lv base k s K) :
  ∃s' m',K s'∧SR gl nt B m' s' a w∧LpR P gl X g m' s'.hp w∧Mx (X.map (·.l)) m0 H0 w0 m' s'.hp w:=by
 have hc:=h.clr lv
 rcases aUq hK with hk | ⟨ho,hk⟩
 ·exact ⟨_,m,hk,hc,hX,hm⟩
 ·exact ⟨_,m.below base,hk,⟨fun k=>VR.below _ _ (T.old_get _ _ ho.1) (hc.tm k),hc.nt,hc.df,HR.take (m0:=m0) (H0:=H0) (w0:=w0) hc.hp ho.2⟩,hX.take hbl hlow,hm.take hd hb⟩

theorem bFp {m0 m:M} {H0:List Blk} {w0:World} {s:S} {g:Gh} {a:Act} {w:World} (h:SR gl nt B m s a w) (hX:LpR P gl X g m s.hp w) (hm:Mx (X.map (·.l)) m0 H0 w0 m s.hp w) (id lv base:Nat) (hd:∀id I,m0.blk id=some I→id<H0.length) (hb:H0.length≤base) (hbl:base≤s.hp.length) (hlow0:Low X H0.length) (hlow:Low X base) {K:S→Prop} (hK:bLw E id lv H0.length base s K) :
  ∃s' m',K s'∧SR gl nt B m' s' a w∧LpR P gl X g m' s'.hp w∧Mx (X.map (·.l)) m0 H0 w0 m' s'.hp w:=by
 unfold bLw at hK
 split at hK
 ·exact aC7 (E:=E) h hX hm lv base _ (fun i I hI=>bPf (hd i I hI) hb) hb hbl hlow hK
 ·obtain ⟨s1,m1,k1,k2,k3,k4,k5⟩:=aBr hd (bOt _) hlow0 _ _ m (h.clr lv) hX hm hK
  exact aC7 (E:=E) k2 k3 k4 lv base _ (fun i I hI=>bPf (hd i I hI) hb) hb (by rw[k5];exact hbl) hlow k1

theorem aBw {r:Option Nat} {c:Code} {c':AC} {id lv:Nat} (hno:E.inv id=none) {Q:Ex→S→Gh→Prop} {m0:M} {H0:List Blk} {w0:World} (hd:∀i I,m0.blk i=some I→i<H0.length) :
  ∀ (n:Nat) (s:S) (k:Gh) (m:M) (a:Act) (w:World),
   (∀j,j≤n→∀ (s:S) (k:Gh) (Q:Ex→S→Gh→Prop) (m:M) (a:Act) (w:World),B.b≤w.heap.size→SR E.gl nt B m s a w→LpR P E.gl X k m s.hp w→wpx E j c' s k Q→c.wpIn (Wd r) 0 P (Post P E.gl nt B X m s.hp w Q) a w) →
   B.b≤w.heap.size→SR E.gl nt B m s a w→LpR P E.gl X k m s.hp w→Mx (X.map (·.l)) m0 H0 w0 m s.hp w→wpx E n (.loop id lv c') s k Q→Code.roundsIn (Wd r) 0 P c (Post P E.gl nt B X m0 H0 w0 Q) n a w
 | 0,s,k,m,a,w,hb,hB,h,hX,hm,hw=>hw.elim
 | n+1,s,k,m,a,w,hb,hB,h,hX,hm,hw=>by
  rw[roundsIn_succ]
  have hw1:(match E.inv id with
   | some I=>aD0 E (wpx E n) id lv c' (I s) s k Q
   | none=>wpx E n c' (Go.Proofs.YtnhechnaemmdiaaGreatDoor.clr lv s) k fun e s' k'=>match e with
    | .nrm=>zQ E lv s.hp.length (id*4096+1000000000) s' fun s'=>wpx E n (.loop id lv c') s' k' Q
    | e=>Q e s' k'):=hw
  rw[hno] at hw1
  have hw':wpx E n c' (clr lv s) k (fun e s' k'=>match e with
   | .nrm=>zQ E lv s.hp.length (id*4096+1000000000) s' fun s'=>wpx E n (.loop id lv c') s' k' Q
   | e=>Q e s' k'):=hw1
  refine bRr (hb n (by omega) _ _ _ m a w hB (h.clr lv) hX hw') fun e a' w' hp => ?_
  obtain ⟨ae,s',k',m',q1,q2,q3,q4,q5⟩:=hp
  have q5':Mx (X.map (·.l)) m s.hp w m' s'.hp w':=q5
  cases ae with
  | nrm=>
   cases e<;>simp only[ExR] at q2
   obtain ⟨s'',m'',t0,t1,t2,t3⟩:=aC7 (E:=E) q3 q4 (hm.trans q5') lv s.hp.length (id*4096+1000000000) (fun id I hI=>bPf (hd id I hI) hm.len) hm.len q5'.len hX.low q1
   exact aBw hno hd n _ _ m'' a' w' (fun j hj=>hb j (by omega)) (bO6 hB q5'.size) t1 t2 t3 t0
  | exit i=>
   cases e<;>simp only[ExR] at q2
   exact ⟨_,s',k',m',q1,q2,q3,q4,hm.trans q5'⟩
  | ret=>
   cases e<;>simp only[ExR] at q2
   exact ⟨_,s',k',m',q1,trivial,q3,q4,hm.trans q5'⟩
  | pan v=>
   cases e<;>simp only[ExR] at q2
   exact ⟨_,s',k',m',q1,q2,q3,q4,hm.trans q5'⟩

theorem aAj {v u:AV} (h:aHl v u):v=.undef∨u=v:=by
 cases v<;>first | exact .inl rfl | exact .inr h

theorem tQ:∀ (st t:T),aQy st t→∀k,st.get k=.undef∨t.get k=st.get k
 | .e,_,_,k=>.inl (T.get_e k)
 | .n l v r,.e,h,k=>by
  simp only[aQy] at h
  obtain ⟨h1,h2,h3⟩:=h
  cases k with
  | zero=>
   simp only[T.get]
   exact aAj h1
  | succ k=>
   rw[T.get_e]
   simp only[T.get]
   by_cases e:k%2=0
   ·rw[if_pos e]
    have:=tQ l .e h2 (k/2)
    rwa [T.get_e] at this
   ·rw[if_neg e]
    have:=tQ r .e h3 (k/2)
    rwa [T.get_e] at this
 | .n l v r,.n l' v' r',h,k=>by
  simp only[aQy] at h
  obtain ⟨h1,h2,h3⟩:=h
  cases k with
  | zero=>
   simp only[T.get]
   exact aAj h1
  | succ k=>
   simp only[T.get]
   by_cases e:k%2=0
   ·rw[if_pos e,if_pos e];exact tQ l l' h2 (k/2)
   ·rw[if_neg e,if_neg e];exact tQ r r' h3 (k/2)

theorem sF:∀ (H H':List Blk),bEp H H'→H=H'
 | [],[],_=>rfl
 | [],_::_,h=>h.elim
 | _::_,[],h=>h.elim
 | ⟨k,lf,cs⟩::l,⟨k',lf',cs'⟩::l',h=>by
  simp only[bEp] at h
  obtain ⟨⟨rfl,rfl,rfl⟩,h⟩:=h
  rw[sF l l' h]

theorem aKw {a b:List Lp} (h:bIs a b):a=b:=by
 unfold bIs at h
 split at h
 ·rfl
 ·exact h

theorem SR.sub {m:M} {s s':S} {a:Act} {w:World} (h:SR gl nt B m s a w) (h1:aQy s'.tm s.tm) (h2:bEp s.hp s'.hp):SR gl nt B m s' a w:=by
 have e:=sF _ _ h2
 refine ⟨fun k => ?_,h.nt,h.df,e▸h.hp⟩
 rcases tQ _ _ h1 k with e | e
 ·rw[e];simp[VR]
 ·rw[←e];exact h.tm k

theorem mV {p:Nat→Prop} (h:∃n,p n):∃n,p n∧∀j,p j→n≤j:=by
 obtain ⟨n,hn⟩:=h
 induction n using Nat.strongRecOn with
 | _ n ih=>
  by_cases hx:∃j,j<n∧p j
  ·obtain ⟨j,h1,h2⟩:=hx
   exact ih j h1 h2
  ·exact ⟨n,hn,fun j hj=>by
    rcases bTe j n with h | h
    ·exact absurd ⟨j,h,hj⟩ hx
    ·exact h⟩

open Classical in
theorem zB {F:Fence} {rm:Nat} {P:Program} {Q:Exit→Act→World→Prop} {a:Act} {w:World} {c:Code} (I:Nat→Act→World→Prop) (n₀:Nat) (h₀:I n₀ a w)
  (round:∀n a w,I n a w→c.wpIn F rm P (Exit.then (fun a' w'=>∃n',n'<n∧I n' a' w') Q) a w):(Code.loop c).wpIn F rm P Q a w:=by
 refine wpIn_loop (fun a w=>∃n,I n a w) (fun a w=>if h:∃n,I n a w then (mV h).choose else 0) ⟨n₀,h₀⟩ ?_
 intro a w hI
 have hs:=(mV hI).choose_spec
 refine bRr (round _ a w hs.1) ?_
 intro e a' w' hq
 cases e with
 | normal=>
  obtain ⟨n',hlt,hI'⟩:=hq
  refine show (∃n,I n a' w')∧(if h:∃n,I n a' w' then (mV h).choose else 0)<(if h:∃n,I n a w then (mV h).choose else 0) from ⟨⟨n',hI'⟩, ?_⟩
  rw[dif_pos ⟨n',hI'⟩,dif_pos hI]
  exact bTf ((mV ⟨n',hI'⟩).choose_spec.2 n' hI') hlt
 | exit id=>exact hq
 | goto l=>exact hq
 | ret=>exact hq
 | panic ch=>exact hq
 | outgrown=>exact hq

theorem zK {p:LInv→Prop}:∀ {l:List LInv},bCs l p→∃I,I∈l∧p I
 | [],h=>h.elim
 | [I],h=>⟨I,by simp,h⟩
 | I::J::l,h=>by
  rcases (show p I∨bCs (J::l) p from h) with h | h
  ·exact ⟨I,by simp,h⟩
  ·obtain ⟨K,h1,h2⟩:=zK h
   exact ⟨K,by simp only[bOr] at h1 ⊢;exact .inr h1,h2⟩

theorem aFl {p:LInv→Prop}:∀ {l:List LInv},bHc l p→∀I,I∈l→p I
 | [],_,I,hI=>by simp at hI
 | [I],h,J,hJ=>by
  obtain rfl:=bOy.1 hJ
  exact h
 | I::J::l,h,K,hK=>by
  have h':p I∧bHc (J::l) p:=h
  rcases bOr.1 hK with rfl | hK
  ·exact h'.1
  ·exact aFl h'.2 K hK

theorem aEu {p:List LInv→Prop}:∀ {l:List (List LInv)},bJs l p→∃I,p I
 | [],h=>h.elim
 | [I],h=>⟨I,h⟩
 | I::J::l,h=>by
  rcases h with h | h
  ·exact ⟨I,h⟩
  ·exact aEu (l:=J::l) h
theorem aHz {v u:AV} {K:Prop} (h:aYa v u K):aHl v u∧K:=by
 cases v<;>first | exact ⟨trivial,h⟩ | exact h
theorem mD:∀ {a b:T} {K:Prop},aWg a b K→aQy a b∧K
 | .e,_,_,h=>⟨trivial,h⟩
 | .n l v r,.e,K,h=>by
  obtain ⟨h1,h2⟩:=aHz h
  obtain ⟨h3,h4⟩:=mD h2
  obtain ⟨h5,h6⟩:=mD h4
  exact ⟨⟨h1,h3,h5⟩,h6⟩
 | .n l v r,.n l' v' r',K,h=>by
  obtain ⟨h1,h2⟩:=aHz h
  obtain ⟨h3,h4⟩:=mD h2
  obtain ⟨h5,h6⟩:=mD h4
  exact ⟨⟨h1,h3,h5⟩,h6⟩
theorem aG5:∀ {a b:List Blk} {K:Prop},eqC a b K→bEp a b∧K
 | [],[],_,h=>⟨trivial,h⟩
 | [],_::_,_,h=>h.elim
 | _::_,[],_,h=>h.elim
 | b::l,b'::l',K,h=>by
  simp only[eqC] at h
  cases hc:(decide (b.k=b'.k)&&(b.lf==b'.lf))
  ·rw[hc] at h;exact h.elim
  ·rw[hc,bO3] at h
   simp only[bN9,bOc,bPt] at hc
   obtain ⟨h1,h2⟩:=aG5 h.2
   exact ⟨⟨⟨hc.1,hc.2,h.1⟩,h1⟩,h2⟩

theorem bD0 {rec:Rec} (hrec:uU P E rec) (hnt:nt≤4000) {r:Option Nat} (hr:∀l,r=some l→l∈X.map (·.l)) {c:Code} {c':AC} {id lv:Nat} {Is:List LInv} {s:S} {k:Gh} {Q:Ex→S→Gh→Prop} {m:M} {a:Act} {w:World}
  (hb:Comp P E.gl nt c c') (hB:B.b≤w.heap.size) (h:SR E.gl nt B m s a w) (hX:LpR P E.gl X k m s.hp w) (hw:aFt E rec id lv c' Is s k Q):(Code.loop c).wpIn (Wd r) 0 P (Post P E.gl nt B X m s.hp w Q) a w:=by
 obtain ⟨hw0,hall⟩:=hw
 obtain ⟨I0,m0,x0,p0,e0'⟩:=zK hw0
 obtain ⟨h0,h0'⟩:=aG5 e0'
 obtain ⟨e0,_⟩:=mD h0'
 have e00:=sF _ _ h0
 refine zB (fun (n:Nat) (a':Act) (w':World)=>∃I,I∈Is∧∃x m',I.pre x∧I.mu x=n∧SR E.gl nt B m' (I.st x) a' w'∧LpR P E.gl X k m' (I.st x).hp w'∧Mx (X.map (·.l)) m s.hp w m' (I.st x).hp w') (I0.mu x0) ⟨I0,m0,x0,m,p0,rfl,h.sub e0 h0,e00▸hX,e00▸(Mv.refl _ _ _).mx _⟩ ?_
 rintro n a' w' ⟨I,hI,x,m',p1,rfl,p3,p4,p5⟩
 refine bRr (hrec nt B r X c c' _ k _ m' a' w' hnt (bO6 hB p5.size) hr hb p3 p4 (aFl hall I hI x p1)) fun e a'' w'' hp => ?_
 obtain ⟨ae,s',k',m'',q1,q2,q3,q4,q5⟩:=hp
 cases ae with
 | nrm=>
  cases e<;>simp only[ExR] at q2
  obtain ⟨s'',m3,⟨⟨l1,l2⟩,hany⟩,t1,t2,t3⟩:=bFp (E:=E) q3 q4 (p5.trans q5) id lv (I.st x).hp.length h.hp.dom p5.len q5.len hX.low p4.low q1
  obtain ⟨J,hJ,y,y1,y2,y3'⟩:=zK hany
  obtain ⟨y4,y4'⟩:=aG5 y3'
  obtain ⟨y3,_⟩:=mD y4'
  have ey:=sF _ _ y4
  have l1:=aKw l1
  exact ⟨_,y2,J,hJ,y,m3,y1,rfl,t1.sub y3 y4,ey▸⟨by rw[←l1];exact t2.all,by rw[←l2];exact t2.key,t2.us,t2.ls⟩,ey▸t3⟩
 | exit i=>
  cases e<;>simp only[ExR] at q2
  exact ⟨_,s',k',m'',q1,q2,q3,q4,p5.trans q5⟩
 | ret=>
  cases e<;>simp only[ExR] at q2
  exact ⟨_,s',k',m'',q1,trivial,q3,q4,p5.trans q5⟩
 | pan v=>
  cases e<;>simp only[ExR] at q2
  exact ⟨_,s',k',m'',q1,q2,q3,q4,p5.trans q5⟩

theorem HR.same {m m':M} {H:List Blk} {w w':World} (hH:HR gl m H w) (he:Ext m m') (hb:m'.blk=m.blk) (hf:m'.frz=m.frz) (hw:∀j,j<w.heap.size→w'.heap[j]? = w.heap[j]?):HR gl m' H w':=by
 refine ⟨fun id I h=>hH.dom id I (by rw[←hb];exact h),fun id I b h h2 => ?_,fun i j I J b h1 h2=>hH.inj i j I J b (by rw[←hb];exact h1) (by rw[←hb];exact h2),fun g cs hg => ?_,hH.gld,fun t k cs hg => ?_,fun t k cs id I b h1 h2=>hH.fow t k cs id I b (by rw[←hf];exact h1) (by rw[←hb];exact h2),fun g cs id I b h1 h2=>hH.gow g cs id I b h1 (by rw[←hb];exact h2)⟩
 ·have h:=hH.blk id I b (by rw[←hb];exact h) h2
  obtain ⟨_,h3,_⟩:=h.obj
  exact h.mono he (hw _ (bOm.1 h3).1)
 ·obtain ⟨cu,e,fr,h3,h4⟩:=hH.glb g cs hg
  exact ⟨cu,e,fr,(hw _ (bOm.1 h3).1).trans h3,VRL.mono he _ _ h4⟩
 ·obtain ⟨cu,e,fr,h3,h4⟩:=hH.frz t k cs (by rw[←hf];exact hg)
  exact ⟨cu,e,fr,(hw _ (bOm.1 h3).1).trans h3,h4⟩

theorem Lps.same {m m':M} {H:List Blk} {w w':World} (he:Ext m m') (hw:∀j,j<w.heap.size→w'.heap[j]? = w.heap[j]?):∀ {X:List Ls} {l:List Lp},Lps P gl m H w X l→Lps P gl m' H w' X l
 | [],[],_=>trivial
 | [],_::_,h=>h.elim
 | _::_,[],h=>h.elim
 | x::X,p::l,h=>⟨⟨h.1.u,he.lp _ _ h.1.lp,(hw _ (bOm.1 h.1.row).1).trans h.1.row,h.1.ext.trans he,h.1.dom,h.1.le,h.1.tm,h.1.nt,h.1.ps,h.1.ca,h.1.cb,h.1.ok⟩,Lps.same he hw h.2⟩

theorem aTr {r:Option Nat} {g:Gh} {m:M} {s:S} {a:Act} {w:World} (hr:∀l,r=some l→l∈X.map (·.l)) (hB:B.b≤w.heap.size) (h:SR gl nt B m s a w) (hX:LpR P gl X g m s.hp w) (fn:FuncId) (ps:Array Tmp) (asg body:Code) :
  ∃l mk w1 dD,(Instr.enterLoop fn a.tmps ps asg body r).run P w=.ok (l,mk) w1∧w1.heap[l]? = some (.loop { state:=.ready,pending:=none,fn:=fn,tmps:=a.tmps,params:=ps,assign:=asg,body:=body,defers:=dD }) ∧
   (∀j,j<w.heap.size→w1.heap[j]? = w.heap[j]?)∧w.heap.size≤l∧w.heap.size≤w1.heap.size∧w1.os=w.os∧w1.tape=w.tape∧w1.output=w.output∧DF B (mk++a.defers) w1:=by
 obtain ⟨Ds,d1,d2,d3⟩:=h.df
 have hDl:∀D∈Ds,D<w.heap.size:=fun D hD=>(bOm.1 (d3 D hD).2).1
 cases r with
 | none=>
  refine ⟨_,_,_,w.heap.size,run_enterLoop_outer fn a.tmps ps asg body, ?_,fun j hj => ?_,by omega, ?_,rfl,rfl,rfl,w.heap.size::Ds, ?_, ?_, ?_⟩
  ·have:=World.alloc_heap_new (w.alloc (.deferred (some []))) (.loop { state:=.ready,pending:=none,fn:=fn,tmps:=a.tmps,params:=ps,assign:=asg,body:=body,defers:=w.heap.size })
   rw[bRb] at this
   exact this
  ·rw[bQ2 _ _ _ (by rw[bRb];omega),bQ2 _ _ _ hj]
  ·rw[bRb,bRb];omega
  ·rw[d1];rfl
  ·rw[bRa]
   exact ⟨fun hm=>by have:=hDl _ hm;omega,d2⟩
  ·intro D hD
   rcases bOr.1 hD with rfl | hD
   ·refine ⟨hB, ?_⟩
    rw[bQ2 _ _ _ (by rw[bRb];omega)]
    exact World.alloc_heap_new w _
   ·refine ⟨(d3 D hD).1, ?_⟩
    rw[bQ2 _ _ _ (by rw[bRb];have:=hDl D hD;omega),bQ2 _ _ _ (hDl D hD)]
    exact (d3 D hD).2
 | some l0=>
  obtain ⟨x,hx,hxl⟩:=bPs.1 (hr l0 rfl)
  obtain ⟨p,hp⟩:=hX.all.mem hx
  have hrow:=hp.row
  rw[show x.l=l0 from hxl] at hrow
  refine ⟨w.heap.size,[],w.alloc (.loop { state:=.ready,pending:=none,fn:=fn,tmps:=a.tmps,params:=ps,assign:=asg,body:=body,defers:=(x.row p.st).defers }),(x.row p.st).defers, ?_,World.alloc_heap_new w _,fun j hj=>bQ2 _ _ _ hj,bOt _, ?_,rfl,rfl,rfl,Ds,d1,d2,fun D hD=>⟨(d3 D hD).1, ?_⟩⟩
  ·unfold Instr.enterLoop
   simp only[bP5,run_getLoop hrow,run_newObj_alloc,Result.andThen,bSj]
  ·rw[bRb];omega
  ·rw[bQ2 _ _ _ (hDl D hD)]
   exact (d3 D hD).2

theorem aC8 {w:World} {k:Nat} {o:Obj} (h:w.heap[k]? = some o):w.putObj k o=w:=by
 have hlt:=(bOm.1 h).1
 have:w.heap.setIfInBounds k o=w.heap:=by
  apply Array.ext_getElem?
  intro i
  by_cases e:i=k
  ·subst e;rw[h];simp[hlt]
  ·rw[bQj (bTl e)]
 unfold World.putObj
 rw[this]

theorem bD4 (hE:EnvOk P E) {rec:Rec} (hrec:uU P E rec) (hnt:nt≤4000) {r:Option Nat} {f:Operand} {ps:Array Tmp} {asg body:Code} {asg' body':AC} (ca:Comp P E.gl nt asg asg') (cb:Comp P E.gl nt body body') (hps:∀p∈ps.toList,p<nt)
  {s:S} {k:Gh} {Q:Ex→S→Gh→Prop} {m:M} {a:Act} {w:World} (hB:B.b≤w.heap.size) (hr:∀l,r=some l→l∈X.map (·.l)) (h:SR E.gl nt B m s a w) (hX:LpR P E.gl X k m s.hp w) {gf:Nat} {x y:List AV} (hf:s.ev (cO f)=.fn (.func gf) x y)
  (hw:aY E rec gf (x++[.yld k.n]++y) s.hp { k with n:=k.n+1,lps:=⟨k.n,s.tm,ps.toList,asg',body',.ready,k.f⟩::k.lps } (aGi s.tm Q)) :
  (Code.rangeFunc f ps asg body).wpIn (Wd r) 0 P (Post P E.gl nt B X m s.hp w Q) a w:=by
 have hcf:=h.ops f
 rw[hf] at hcf
 simp only[VR] at hcf
 obtain ⟨x',y',e1,e2,e3⟩:=hcf
 refine wpIn_rangeFunc fun fn _ => ?_
 obtain ⟨l,mk,w1,dD,n1,n2,n3,n4,n5,n6,n7,n8,n9⟩:=aTr (r:=r) hr hB h hX fn ps asg body
 -- the map with the new range
 obtain ⟨m',hm'⟩:∃m':M,m'=⟨m.blk,m.opq,fun u=>if u=k.n then some l else m.lp u,m.frz⟩:=⟨_,rfl⟩
 have hext:Ext m m':=by
  subst hm'
  refine ⟨fun id I hI=>⟨I,hI,bOt _,fun _=>rfl⟩,rfl,fun u l' hu => ?_,fun _ _ _ h=>h⟩
  have:=hX.key u l' hu
  simp only
  rw[if_neg (by omega)]
  exact hu
 have hblk:m'.blk=m.blk:=by subst hm';rfl
 have hH1:HR E.gl m' s.hp w1:=h.hp.same hext hblk (by subst hm';rfl) n3
 obtain ⟨z,hz⟩:∃z:Ls,z=⟨l,k.n,m,s.hp.length,a.tmps,fn,ps,asg,body,dD,nt⟩:=⟨_,rfl⟩
 have hlt:∀z'∈X,z'.u<k.n∧z'.l<w.heap.size:=by
  intro z' hz'
  obtain ⟨p,hp⟩:=hX.all.mem hz'
  exact ⟨hX.key _ _ hp.lp,(bOm.1 hp.row).1⟩
 have hX1:LpR P E.gl (z::X) { k with n:=k.n+1,lps:=⟨k.n,s.tm,ps.toList,asg',body',.ready,k.f⟩::k.lps } m' s.hp w1:=by
  refine ⟨⟨?_,Lps.same hext n3 hX.all⟩,fun u l' hu => ?_, ?_, ?_⟩
  ·subst hz
   refine ⟨rfl,by subst hm';simp,n2,hext,h.hp.dom,bOt _,h.tm,⟨h.nt,hnt⟩,⟨rfl,hps⟩,ca,cb,fun e he=>by cases he⟩
  ·by_cases e:u=k.n
   ·subst e;simp
   ·subst hm'
    simp only at hu
    rw[if_neg e] at hu
    have:=hX.key u l' hu
    simp only;omega
  ·simp only[bO2,bRa]
   refine ⟨fun hm => ?_,hX.us⟩
   obtain ⟨z',h1,h2⟩:=bPs.1 hm
   have:=(hlt z' h1).1
   rw[h2,hz] at this
   simp at this
  ·simp only[bO2,bRa]
   refine ⟨fun hm => ?_,hX.ls⟩
   obtain ⟨z',h1,h2⟩:=bPs.1 hm
   have:=(hlt z' h1).2
   rw[h2,hz] at this
   simp only at this
   omega
 have hargs:VRL m' (x++[.yld k.n]++y) (x' ++ #[Value.func (.yield l) #[] #[]]++y').toList:=by
  simp only[bS8]
  refine ((VRL.mono hext _ _ e2).append ?_).append (VRL.mono hext _ _ e3)
  refine VRL.one ?_
  simp only[VR]
  exact ⟨l,by subst hm';simp,rfl⟩
 obtain ⟨hen,hcalls⟩:=qU hE hrec hw hargs hH1 hX1
 obtain ⟨fn',f1,f2,f3⟩:=hen
 have f3' : ¬ fn'.name = "runtime.NumGoroutine" := by simpa using f3
 have f2':¬ fn'.body=none:=by
  intro e
  rw[e] at f2
  cases f2
 have hzl:z.l=l:=by rw[hz]
 refine ⟨l,mk,w1,{ target:=.fn (.func gf) y',args:=x' ++ #[Value.func (.yield l) #[] #[]] },w1,gf,x' ++ #[Value.func (.yield l) #[] #[]]++y',w1,n1, ?_,fun _ _=>trivial, ?_,fun h=>(by cases h), ?_⟩
 ·have hy:a.eval (.const (.func (.yield l) #[] #[]))=.func (.yield l) #[] #[]:=rfl
  simp[resolve,rangeCall,e1,Deferred.ofValue,hy]
 ·simp[invoke,callFunc,f1,f2',f3']
 ·refine (callsIn_wide (n:=0-1).2 hcalls).mono fun e w2 hp => ?_
  obtain ⟨o,H',g',m2,q1,q2,q3,q4,q5⟩:=hp
  have q1':=q1
  unfold aGi at q1'
  cases hg:g'.lps with
  | nil=>rw[hg] at q1';exact q1'.elim
  | cons p rest=>
   rw[hg] at q1'
   have hall:=q4.all
   rw[hg] at hall
   obtain ⟨hp1,hrest⟩:=hall
   have hls:=q4.ls
   have hus:=q4.us
   simp only[bO2,bRa] at hls hus
   rw[hzl] at hls
   have hrow:=hp1.row
   rw[hzl] at hrow
   -- behind the range
   have hmx:∀o',Mx (X.map (·.l)) m s.hp w m2 H' (w2.putObj l o'):=by
    intro o'
    have q5':Mx (l::X.map (·.l)) m' s.hp w1 m2 H' w2:=by simpa [hzl] using q5
    refine ⟨hext.trans q5'.ext,q5'.os.trans n6,q5'.tape.trans n7,q5'.output.trans n8,by rw[World.putObj_size];exact bO6 n5 q5'.size,fun j hj ho hx => ?_,fun j hj => ?_,q5'.len,fun id hi hn=>q5'.nw id hi (by rw[hblk];exact hn),fun t b cs hc => ?_⟩
    ·rw[World.putObj_heap_other (by omega),q5'.keep j (by omega) (fun ho'=>ho (by obtain ⟨id,I,b,c1,c2⟩:=ho';exact ⟨id,I,b,by rw[←hblk];exact c1,c2⟩)) (by simp only[bOr,not_or];exact ⟨by omega,hx⟩),n3 j hj]
    ·rcases q5'.own j hj with c | ⟨id,I,b,c1,c2⟩
     ·exact .inl (bO6 n5 c)
     ·exact .inr ⟨id,I,b,by rw[←hblk];exact c1,c2⟩
    ·rcases q5'.fz t b cs hc with c | c | ⟨id,I,b,c1,c2⟩
     ·exact .inl (by subst hm';exact c)
     ·exact .inr (.inl (bO6 n5 c))
     ·exact .inr (.inr ⟨id,I,b,by rw[←hblk];exact c1,c2⟩)
   have hdf:∀o',DF B (mk++a.defers) (w2.putObj l o'):=by
    intro o'
    have hd2:DF B (mk++a.defers) w2:=n9.stepx hH1 hX1 q5
    obtain ⟨Ds,d1,d2,d3⟩:=hd2
    refine ⟨Ds,d1,d2,fun D hD=>⟨(d3 D hD).1, ?_⟩⟩
    rw[World.putObj_heap_other]
    ·exact (d3 D hD).2
    ·intro e
     have h4:=(d3 D hD).2
     rw[e,hrow] at h4
     cases h4
   have hend:∀o' (ae:Ex) (e':Exit),ExR m2 ae e'→Q ae ⟨s.tm,H'⟩ { g' with lps:=rest }→Post P E.gl nt B X m s.hp w Q e' { a with defers:=mk++a.defers } (w2.putObj l o'):=by
    intro o' ae e' hx hq
    refine ⟨ae,_,_,m2,hq,hx,⟨fun j=>VR.mono (hext.trans q5.ext) _ _ (h.tm j),h.nt,hdf o',q3.putObj hrow (by intros;simp) _⟩,⟨Lps.putObj _ hls.1 hrest,q4.key,hus.2,hls.2⟩,hmx o'⟩
   cases o with
   | pan v=>
    cases e<;>simp only[aEx] at q2
    obtain ⟨cv,rfl,hcv⟩:=q2
    have hself:w2.putObj l (.loop (z.row p.st))=w2:=aC8 hrow
    have:=hend (.loop (z.row p.st)) (.pan v) (.panic [{ v:=cv,recovered:=false }]) ⟨cv,rfl,hcv⟩ q1'
    rw[hself] at this
    exact this
   | ret v=>
    cases e<;>simp only[aEx] at q2
    simp only at q1'
    cases hst:p.st with
    | busy=>rw[hst] at q1';exact q1'.elim
    | ready=>
     rw[hst] at q1' hrow
     exact ⟨_,_,run_endLoop hrow (by simp[Ls.row,bKd]),hend _ .nrm .normal trivial q1'⟩
    | done ex=>
     rw[hst] at q1' hrow
     refine ⟨_,_,run_endLoop hrow (by simp[Ls.row,bKd]), ?_⟩
     rcases hp1.ok ex hst with rfl | ⟨i,rfl⟩
     ·exact wpIn_ret (hend _ .ret .ret trivial q1')
     ·exact wpIn_exit (hend _ (.exit i) (.exit i) rfl q1')

theorem aU8 (hE:EnvOk P E):∀n,uU P E (wpx E n):=by
 intro n
 induction n using Nat.strongRecOn with
 | _ n ihn=>
  intro nt B r X code c s k Q m a w hnt hB hr hc
  induction hc generalizing s k Q m a w with
  | scope hb ih=>
   intro h hX hw
   refine lK (bRr (ih s k Q m a w hB h hX hw) fun e a' w' hp => ?_)
   obtain ⟨ae,s',k',m',q1,q2,q3⟩:=hp
   cases ae<;>cases e<;>first | exact q2.elim | exact ⟨_,s',k',m',q1,q2,q3⟩
  | skip=>intro h hX hw;cases n with | zero=>exact hw.elim | succ n=>exact wpIn_skip ⟨.nrm,s,k,m,hw,trivial,h,hX,(Mv.refl _ _ _).mx _⟩
  | label l=>intro h hX hw;cases n with | zero=>exact hw.elim | succ n=>exact wpIn_label ⟨.nrm,s,k,m,hw,trivial,h,hX,(Mv.refl _ _ _).mx _⟩
  | ret=>intro h hX hw;cases n with | zero=>exact hw.elim | succ n=>exact wpIn_ret ⟨.ret,s,k,m,hw,trivial,h,hX,(Mv.refl _ _ _).mx _⟩
  | exit id=>intro h hX hw;cases n with | zero=>exact hw.elim | succ n=>exact wpIn_exit ⟨.exit id,s,k,m,hw,rfl,h,hX,(Mv.refl _ _ _).mx _⟩
  | bad code why=>intro h hX hw;cases n with | zero=>exact hw.elim | succ n=>exact hw.elim
  | sum code g hg=>
   intro h hX hw
   cases n with
   | zero=>exact hw.elim
   | succ n=>
    refine bRr (hg B r s _ m a w h hB hw) fun e a' w' hp => ?_
    obtain ⟨ae,s',m',q1,q2,q3,q4⟩:=hp
    exact ⟨ae,s',k,m',q1,q2,q3,hX.step h.hp q4 rfl (bOt _),q4.mx _⟩
  | region id ops=>
   intro h hX hw
   cases n with
   | zero=>exact hw.elim
   | succ n=>exact wpIn_region_list (aY5 hE (ihn n (by omega)) hnt ops _ s k m a w h hX ((Mv.refl _ _ _).mx _) hw)
  | drawn id ops l hl=>
   intro h hX hw
   cases n with
   | zero=>exact hw.elim
   | succ n=>exact aSy hE (ihn n (by omega)) hnt hl h hX hw
  | cond c' ha hb iha ihb=>
   intro h hX hw
   cases n with
   | zero=>exact hw.elim
   | succ n=>
    have hw:(match s.ev (cO c') with
     | .bool t=>bif t then wpx E n _ s k Q else wpx E n _ s k Q
     | _=>False):=hw
    split at hw
    ·rename_i t ht
     have hv:=h.ops c'
     rw[ht] at hv
     simp only[VR] at hv
     refine wpIn_cond hv ?_
     cases t
     ·exact ihn n (by omega) _ B r X _ _ s k Q m a w hnt hB hr hb h hX hw
     ·exact ihn n (by omega) _ B r X _ _ s k Q m a w hnt hB hr ha h hX hw
    ·exact hw.elim
  | seq ha hb iha ihb=>
   intro h hX hw
   cases n with
   | zero=>exact hw.elim
   | succ n=>
    have hw0:(match E.inv (1000000000+(k.f*4096+hdK _)) with
     | some I=>bDl (wpx E n) _ _ (I s) s k Q
     | none=>wpx E n _ s k fun e s k=>match e with
      | .nrm=>wpx E n _ s k Q
      | e=>Q e s k):=hw
    split at hw0
    ·obtain ⟨Is,h1,h2⟩:=aEu hw0
     refine wpIn_seq (bRr (ihn n (by omega) _ B r X _ _ s k _ m a w hnt hB hr ha h hX h1) fun e a' w' hp => ?_)
     obtain ⟨ae,s',k',m',q1,q2,q3,q4,q5⟩:=hp
     cases ae with
     | nrm=>
      cases e<;>simp only[ExR] at q2
      obtain ⟨⟨l1,l2⟩,hany⟩:=q1
      obtain ⟨J,hJ,y,y1,y2⟩:=zK hany
      obtain ⟨y4,y4'⟩:=aG5 y2
      obtain ⟨y3,_⟩:=mD y4'
      have ey:=sF _ _ y4
      have l1:=aKw l1
      exact bRr (ihn n (by omega) _ B r X _ _ (J.st y) k Q m' a' w' hnt (bO6 hB q5.size) hr hb (q3.sub y3 y4) (ey▸⟨by rw[←l1];exact q4.all,by rw[←l2];exact q4.key,q4.us,q4.ls⟩) (aFl h2 J hJ y y1)) fun e a'' w'' hp=>hp.trans (ey▸q5)
     | exit i=>
      cases e<;>simp only[ExR] at q2
      exact ⟨_,s',k',m',q1,q2,q3,q4,q5⟩
     | ret=>
      cases e<;>simp only[ExR] at q2
      exact ⟨_,s',k',m',q1,trivial,q3,q4,q5⟩
     | pan v=>
      cases e<;>simp only[ExR] at q2
      exact ⟨_,s',k',m',q1,q2,q3,q4,q5⟩
    refine wpIn_seq (bRr (ihn n (by omega) _ B r X _ _ s k _ m a w hnt hB hr ha h hX hw0) fun e a' w' hp => ?_)
    obtain ⟨ae,s',k',m',q1,q2,q3,q4,q5⟩:=hp
    cases ae with
    | nrm=>
     cases e<;>simp only[ExR] at q2
     exact bRr (ihn n (by omega) _ B r X _ _ s' k' Q m' a' w' hnt (bO6 hB q5.size) hr hb q3 q4 q1) fun e a'' w'' hp=>hp.trans q5
    | exit i=>
     cases e<;>simp only[ExR] at q2
     exact ⟨_,s',k',m',q1,q2,q3,q4,q5⟩
    | ret=>
     cases e<;>simp only[ExR] at q2
     exact ⟨_,s',k',m',q1,trivial,q3,q4,q5⟩
    | pan v=>
     cases e<;>simp only[ExR] at q2
     exact ⟨_,s',k',m',q1,q2,q3,q4,q5⟩
  | block id hb ih=>
   intro h hX hw
   cases n with
   | zero=>exact hw.elim
   | succ n=>
    refine wpIn_block (bRr (ihn n (by omega) _ B r X _ _ s k _ m a w hnt hB hr hb h hX hw) fun e a' w' hp => ?_)
    obtain ⟨ae,s',k',m',q1,q2,q3,q4,q5⟩:=hp
    cases ae with
    | nrm=>
     cases e<;>simp only[ExR] at q2
     exact ⟨_,s',k',m',q1,trivial,q3,q4,q5⟩
    | exit i=>
     cases e<;>simp only[ExR] at q2
     subst q2
     simp only[Exit.inBlock]
     simp only at q1
     cases hi:Nat.beq i id
     ·rw[hi] at q1
      have:¬ i=id:=fun e=>by rw[e,bTc] at hi;cases hi
      rw[if_neg this]
      exact ⟨_,s',k',m',q1,rfl,q3,q4,q5⟩
     ·rw[hi] at q1
      rw[if_pos (bPl hi)]
      exact ⟨_,s',k',m',q1,trivial,q3,q4,q5⟩
    | ret=>
     cases e<;>simp only[ExR] at q2
     exact ⟨_,s',k',m',q1,trivial,q3,q4,q5⟩
    | pan v=>
     cases e<;>simp only[ExR] at q2
     exact ⟨_,s',k',m',q1,q2,q3,q4,q5⟩
  | rfn f ps ha hb hps iha ihb=>
   intro h hX hw
   cases n with
   | zero=>exact hw.elim
   | succ n=>
    have hw:(match s.ev (cO f) with
     | .fn (.func gf) x y=>aY E (wpx E n) gf (x++[.yld k.n]++y) s.hp { k with n:=k.n+1,lps:=⟨k.n,s.tm,ps.toList,_,_,.ready,k.f⟩::k.lps } (aGi s.tm Q)
     | _=>False):=hw
    split at hw
    ·rename_i gf x y hf
     exact bD4 hE (ihn n (by omega)) hnt ha hb hps hB hr h hX hf hw
    ·exact hw.elim
  | loop id lv hb ih=>
   intro h hX hw
   cases n with
   | zero=>exact hw.elim
   | succ n=>
    have hw0:(match E.inv id with
     | some I=>aD0 E (wpx E n) id lv _ (I s) s k Q
     | none=>wpx E n _ (Go.Proofs.YtnhechnaemmdiaaGreatDoor.clr lv s) k fun e s' k'=>match e with
      | .nrm=>zQ E lv s.hp.length (id*4096+1000000000) s' fun s'=>wpx E n (.loop id lv _) s' k' Q
      | e=>Q e s' k'):=hw
    split at hw0
    ·obtain ⟨Is,hI⟩:=aEu hw0
     exact bD0 (ihn n (by omega)) hnt hr hb hB h hX hI
    rename_i hnone
    exact wpIn_loop_rounds (n+1) (aBw hnone h.hp.dom (n+1) s k m a w (fun j hj s k Q m a w hB h hX hw=>by
     rcases bTe j (n+1) with hlt | hge
     ·exact ihn j hlt _ B r X _ _ s k Q m a w hnt hB hr hb h hX hw
     ·have:j=n+1:=by omega
      subst this
      exact ih s k Q m a w hB h hX hw) hB h hX ((Mv.refl _ _ _).mx _) hw)
end
end Go.Proofs.YtnhechnaemmdiaaGreatDoor

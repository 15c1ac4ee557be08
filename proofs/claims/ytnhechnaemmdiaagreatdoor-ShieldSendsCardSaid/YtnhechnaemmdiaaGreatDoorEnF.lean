/-
  The engine, part R: regions that draw their order.
-/
import Derived.Test.YtnhechnaemmdiaaGreatDoorEnE
set_option linter.unusedSimpArgs false
set_option linter.unusedVariables false
namespace Go.Proofs.YtnhechnaemmdiaaGreatDoor
open Go.RowKit

section
variable {P:Program} {E:Env} {nt:Nat} {B:Fb} {ops:Array Oper} {l0:List AOper} {t0:Nat->AV} {X:List Ls} {g:Gh} {m0:M} {H0:HV} {w0:World} {L:Nat->Bool} {D:List Rcd} {l:List AOper} {s:S} {fl:List Fl} {m:M} {a:Act} {w:World} {rec:Rec} {Q:Ex->S->Gh->Prop}

theorem Canon.bad(C:Canon P nt ops l0){x:AOper}(hx:x∈l0){why:String}(hb:x.op=.bad why)(hd:¬ ∃o,ops[x.ix]? = some o∧o.dst=x.dst∧(∀d,o.dst=some d->d<nt)∧x.op=cOp P o.op ∧
  ((o.guard=none∧x.guard=none)∨∃j b g,o.guard=some (j,b)∧(ops[j]?).bind (·.dst)=some g∧g<nt∧x.guard=some (g,b))):x.guard=none:=by
 obtain⟨o,h1,h2,h3,h4,h5⟩:=C.mem x hx
 rcases nV P nt ops o with ⟨why,hbad⟩ | ⟨hd',c1,c2,c3⟩
 ·rw[hbad]at h4;exact h4
 ·exact absurd ⟨o,h1,by rw[h2,c1],hd',by rw[h3,c2],by rw[h4];exact c3⟩ hd

def bQc(P:Program)(nt:Nat)(ops:Array Oper)(x:AOper):Prop:=∃o,ops[x.ix]? = some o∧o.dst=x.dst∧(∀d,o.dst=some d->d<nt)∧x.op=cOp P o.op ∧
  ((o.guard=none∧x.guard=none)∨∃j b g,o.guard=some (j,b)∧(ops[j]?).bind (·.dst)=some g∧g<nt∧x.guard=some (g,b))

theorem Canon.cases(C:Canon P nt ops l0){x:AOper}(hx:x∈l0):bQc P nt ops x∨(x.guard=none∧∃why,x.op=.bad why):=by
 obtain⟨o,h1,h2,h3,h4,h5⟩:=C.mem x hx
 rcases nV P nt ops o with ⟨why,hbad⟩ | ⟨hd',c1,c2,c3⟩
 ·rw[hbad]at h4 h3;exact .inr ⟨h4,why,h3⟩
 ·exact .inl ⟨o,h1,by rw[h2,c1],hd',by rw[h3,c2],by rw[h4];exact c3⟩

def Stop(E:Env)(rec:Rec)(Q:Ex->S->Gh->Prop)(l:List AOper)(s:S)(k:Gh)(fl:List Fl):Prop:=
 (l=[]∧Q .nrm s k)∨∃x l',l=x::l'∧gd s x.guard=some true∧heavy x.op=true∧aKw E rec (x::l') s k fl Q

theorem Inv.advance(C:Canon P nt ops l0)(hnt:nt<=4000):∀ (l:List AOper) (D:List Rcd) (s:S) (k:Gh) (fl:List Fl),Inv P E nt B ops l0 t0 X m0 H0 w0 L D l s k fl m a w->aKw E rec l s k fl Q →
  ∃D' l' s' k' fl',Inv P E nt B ops l0 t0 X m0 H0 w0 L D' l' s' k' fl' m a w∧Stop E rec Q l' s' k' fl'
 | [],D,s,k,fl,h,hd=>⟨D,[],s,k,fl,h,.inl ⟨rfl,hd⟩⟩
 | x::l,D,s,k,fl,h,hd=>by
  have hxl:x∈l0:=by rw[←h.ord];simp
  by_cases hhv:gd s x.guard=some true∧heavy x.op=true
  ·exact⟨D,x::l,s,k,fl,h,.inr ⟨x,l,rfl,hhv.1,hhv.2,hd⟩⟩
  rw[aKw]at hd
  cases hg:gd s x.guard with
  | none=>rw[hg]at hd;exact hd.elim
  | some t=>
   rw[hg]at hd
   have hB:bQc P nt ops x:=by
    rcases C.cases hxl with hB | ⟨hgn,why,hbad⟩
    ·exact hB
    ·rw[hgn]at hg
     simp only[gd,bW5]at hg
     subst hg
     exact absurd ⟨by rw[hgn];rfl,by rw[hbad];rfl⟩ hhv
   obtain⟨o,o1,o2,o3,o4,o5⟩:=hB
   have hdn:∀k,x.dst=some k->k<nt:=λk hk=>o3 k (by rw[o2];exact hk)
   cases t with
   | false=>
    simp only at hd
    have hf:bLm E t0 D ⟨x,.tup [],.skip s.tm⟩:=⟨h.tms,by rw[←bMb];exact hg,rfl⟩
    have h':=h.quietly hnt hdn (v:=.tup []) (kd:=.skip s.tm) (by simp) hf [] fl (λf hf=>hf) trivial (λi hi=>by simp[sP]at hi)
    rw[bXs]at h'
    exact Inv.advance C hnt l _ _ _ _ h' hd
   | true=>
    have hnh:heavy x.op=false:=by
     cases hc:heavy x.op with
     | false=>rfl
     | true=>exact absurd ⟨hg,hc⟩ hhv
    simp only at hd
    split at hd
    ·rename_i f args hop
     rw[hop]at hnh
     simp[heavy]at hnh
    ·split at hd
     ·rename_i r hl
      obtain⟨hp,hd⟩:=nN hd
      have hd:=qD hd
      have hf:bLm E t0 D ⟨x,r.v,.quiet s.tm s.hp r⟩:=⟨h.tms,by rw[←bMb];exact hg,hl,hp,rfl⟩
      have h':=h.quietly hnt hdn (v:=r.v) (kd:=.quiet s.tm s.hp r) (by simp) hf r.nb.toList (aW2 x s.hp r++fl) (λf hf=>cA2 _ hf) ?_ ?_
      ·exact Inv.advance C hnt l _ _ _ _ h' hd
      ·refine⟨λy hy => ?_,λb hb => ?_⟩
       ·have hlt:y.id<s.hp.length:=by
         rcases bLz hl hp y hy with ⟨tot,hc⟩ | hc
         ·unfold cur at hc
          split at hc
          ·rename_i b hb;exact(bXq.1 hb).1
          ·cases hc
         ·unfold aR at hc
          split at hc
          ·rename_i b hb;exact(bXq.1 hb).1
          ·exact absurd rfl hc
        have e1:(s.hp++r.nb.toList)[y.id]? = s.hp[y.id]? := bXx hlt
        refine⟨⟨by simp only[aR,e1],by simp only[lC,e1]⟩,by simp;omega, ?_⟩
        refine cAh _ ?_
        unfold aW2
        exact cAh _ (bZb.2 ⟨y,hy,rfl⟩)
       ·refine⟨by simp[hb], ?_,h.mv.len, ?_⟩
        ·cases hc:m.blk s.hp.length with
         | none=>rfl
         | some J=>have:=h.hr.dom _ _ hc;omega
        ·refine cAh _ ?_
         unfold aW2
         rw[hb]
         exact cA2 _ (by simp)
      ·intro i hi
       simp only[sP]at hi
       cases hb:r.nb with
       | none=>rw[hb]at hi;simp at hi
       | some b=>rw[hb]at hi;simp at hi;simp[hi]
     ·exact absurd (aQc hd) (by rw[hnh];simp)

theorem Inv.all(C:Canon P nt ops l0)(h:Inv P E nt B ops l0 t0 X m0 H0 w0 L D l s g fl m a w){listed:Array Bool}(hsz:listed.size=ops.size)(hL:∀j,L j=listed.getD j false)(hr:Region.ready .any ops listed=[]):∀x∈l0,L x.ix=true:=by
 have hno:∀i o,ops[i]? = some o->L i=false->(∀e∈o.after,Region.binds .any e=true->L e.on=true)->False:=by
  intro i o ho hLi he
  have hlt:i<ops.size:=(bXa.1 ho).1
  have:i∈Region.ready .any ops listed:=by
   rw[mem_ready]
   refine⟨?_,o,ho,λe h1 h2=>by rw[←hL];exact he e h1 h2⟩
   have:=hL i
   rw[hLi]at this
   have hlt':i<listed.size:=by omega
   simp[hlt']at this ⊢
   exact this
  rw[hr]at this
  cases this
 have key:∀ (p q:List AOper),p++q=l0->(∀x∈p,L x.ix=true)->∀x∈q,L x.ix=true:=by
  intro p q
  induction q generalizing p with
  | nil=>intro _ _ x hx;cases hx
  | cons y q ih=>
   intro hpq hp x hx
   have hy:y∈l0:=by rw[←hpq];simp
   have hLy:L y.ix=true:=by
    cases hc:L y.ix with
    | true=>rfl
    | false=>
     obtain⟨o,h1,_,_,_,h2⟩:=C.mem y hy
     exfalso
     refine hno y.ix o h1 hc λe he hb => ?_
     have hg:=uX ops.toList [] y.ix o (by simpa using h1)
     simp only[bXm,bY6]at hg
     rw[h2]at hg
     simp only[bW5]at hg
     have hbit:y.bf.testBit e.on=true:=by
      rw[hg]
      exact rR _ _ _ e (by simpa using he) hb
     have hlt:e.on<ops.size:=by
      rcases cA3 e.on ops.size with h3 | h3
      ·exact h3
      ·have:=Nat.testBit_lt_two_pow (bYe (C.self y hy).2 (cA9 (by omega) h3))
       rw[this]at hbit
       cases hbit
     obtain⟨z,z1,z2⟩:=C.cov e.on hlt
     rw[←z2]at hbit ⊢
     have hpw:=C.pairs
     rw[←hpq,bZs,cAa]at hpw
     rw[←hpq]at z1
     rcases bYj.1 z1 with h4 | h4
     ·exact hp z h4
     ·rcases bXd.1 h4 with h4 | h4
      ·rw[h4,(C.self y hy).1]at hbit;cases hbit
      ·rw[aWw (hpw.2.1.1 z h4)]at hbit;cases hbit
   rcases bXd.1 hx with h5 | h5
   ·rw[h5];exact hLy
   ·exact ih (p++[y]) (by rw[←hpq];simp) (λz hz=>by
     rcases bYj.1 hz with h6 | h6
     ·exact hp z h6
     ·rw[bXp]at h6;rw[h6];exact hLy) x h5
 exact λx hx=>key [] l0 rfl (λx hx=>by cases hx) x hx

theorem Inv.fin(h:Inv P E nt B ops l0 t0 X m0 H0 w0 L D l s g fl m a w)(hs:Stop E rec Q l s g fl)(hall:∀x∈l0,L x.ix=true):Post P E.gl nt B X m0 H0 w0 Q .normal a w:=by
 rcases hs with ⟨hl,hQ⟩ | ⟨x,l',hl,_⟩
 ·subst hl
  refine⟨.nrm,s,g,m,hQ,trivial,⟨λt => ?_,h.sz,h.df,h.hr⟩,h.lps,h.mv⟩
  have:=h.con t
  rw[lW (S':=all1) t D _ λr hr _=>hall r.x (by rw[←h.ord];exact cAh _ (bZb.2 ⟨r,hr,rfl⟩)),←h.tms t]at this
  exact this
 ·subst hl
  have h1:=h.unl x (by simp)
  have h2:=hall x (by rw[←h.ord];simp)
  rw[h1]at h2
  cases h2
end
end Go.Proofs.YtnhechnaemmdiaaGreatDoor

namespace Go.Proofs.YtnhechnaemmdiaaGreatDoor
open Go.RowKit

section
variable {P:Program} {E:Env} {nt:Nat} {B:Fb} {ops:Array Oper} {l0:List AOper} {t0:Nat->AV} {X:List Ls} {r0:Option Nat} {m0:M} {H0:HV} {w0:World} {rec:Rec} {Q:Ex->S->Gh->Prop}

theorem zV{listed:Array Bool}{i:Nat}(hi:listed.getD i true=false):listed[i]? = some false∧(∀j,(listed.setIfInBounds i true).getD j false=(listed.getD j false||j==i))∧(listed.setIfInBounds i true).toList.count false+1=listed.toList.count false:=by
 have hlt:i<listed.size:=by
  rcases cA3 i listed.size with h | h
  ·exact h
  ·rw[Array.getD_eq_getD_getElem?,Array.getElem?_eq_none h]at hi;cases hi
 have hf:listed[i]=false:=by simpa[hlt]using hi
 refine⟨by simp[hlt,hf],λj => ?_, ?_⟩
 ·by_cases hj:j=i
  ·subst hj;simp[hlt]
  ·simp[bZj (cCn hj),hj]
 ·rw[cA8,List.count_set (by simpa using hlt)]
  have h1:listed.toList[i]=false:=by simpa using hf
  have h2:0<listed.toList.count false:=List.count_pos_iff.2 (h1▸bXk _)
  have h3:(true==false)=false:=rfl
  simp only[h1,h3,cBv,cBu,bY5,cBj]
  omega

theorem any_ok(hE:EnvOk P E)(hrec:zD P E rec)(C:Canon P nt ops l0)(hnt:nt<=4000):∀ (fuel:Nat) (listed:Array Bool) (L:Nat->Bool) (D:List Rcd) (l:List AOper) (s:S) (k:Gh) (fl:List Fl) (m:M) (a:Act) (w:World),
  listed.size=ops.size->(∀j,L j=listed.getD j false)->listed.toList.count false<=fuel->Inv P E nt B ops l0 t0 X m0 H0 w0 L D l s k fl m a w->aKw E rec l s k fl Q->wpAnyIn (Wd r0) 0 P .any ops (Post P E.gl nt B X m0 H0 w0 Q) fuel listed a w
 | 0,listed,L,D,l,s,k,fl,m,a,w,hsz,hL,hc,h,hd=>by
  obtain⟨D,l,s,k,fl,h,hs⟩:=Inv.advance C hnt l D s k fl h hd
  have hr:Region.ready .any ops listed=[]:=by
   cases hr:Region.ready .any ops listed with
   | nil=>rfl
   | cons i r=>
    have hi:i∈Region.ready .any ops listed:=by rw[hr];simp
    rw[mem_ready]at hi
    have:=(zV hi.1).2.2
    omega
  exact⟨hr,h.fin hs (h.all C hsz hL hr)⟩
 | fuel+1,listed,L,D,l,s,k,fl,m,a,w,hsz,hL,hc,h,hd=>by
  obtain⟨D,l,s,k,fl,h,hs⟩:=Inv.advance C hnt l D s k fl h hd
  refine⟨λhr=>h.fin hs (h.all C hsz hL hr),λi hi => ?_⟩
  rw[mem_ready]at hi
  obtain⟨hi1,o,ho,he⟩:=hi
  obtain⟨s1,s2,s3⟩:=zV hi1
  have hLi:L i=false:=by rw[hL];simp[s1]
  have he:∀e∈o.after,Region.binds .any e=true->L e.on=true:=λe h1 h2=>by rw[hL];exact he e h1 h2
  obtain⟨x,hxl,hxi⟩:=C.cov i (bXa.1 ho).1
  subst hxi
  have hb:=C.bits h.cls hxl ho he
  have ih:∀ {D:List Rcd} {l:List AOper} {s:S} {k:Gh} {fl:List Fl} {m:M} {a:Act} {w:World},Inv P E nt B ops l0 t0 X m0 H0 w0 (λj=>L j||j==x.ix) D l s k fl m a w->aKw E rec l s k fl Q->wpAnyIn (Wd r0) 0 P .any ops (Post P E.gl nt B X m0 H0 w0 Q) fuel (listed.setIfInBounds x.ix true) a w:=
   λ{D l s k fl m a w} h hd=>any_ok hE hrec C hnt fuel _ _ D l s k fl m a w (by simpa using hsz) (λj=>by rw[s2,hL]) (by omega) h hd
  have hpre:aKw E rec l s k fl Q:=by
   rcases hs with ⟨rfl,hQ⟩ | ⟨y,l',rfl,_,_,hd⟩
   ·exact hQ
   ·exact hd
  simp only[wpOpIn,ho]
  have hmem:=hxl
  rw[←h.ord]at hmem
  rcases bYj.1 hmem with hmem | hmem
  ·-- an operation that the abstract run has passed
   obtain⟨r,hrD,hrx⟩:=bZb.1 hmem
   obtain⟨i,hi⟩:=List.getElem?_of_mem hrD
   have hLr:L r.x.ix=false:=by rw[hrx];exact hLi
   have hf:=h.fact i r hi
   have hlv:=h.live r hrD hLr
   have hbr:∀j,r.x.bf.testBit j=true->L j=true:=by rw[hrx];exact hb
   unfold bLm at hf
   split at hf
   ·rename_i hk
    have:=h.hv r hrD hk
    rw[hLr]at this
    cases this
   ·rename_i tm hk
    obtain⟨f1,f2,f3⟩:=hf
    have hsl:∀t∈uses r.x,VR m (tm.get t) (a.tmps.getD t undef):=λt ht=>by rw[f1];exact h.slots C hi hLr hbr ht
    rw[hrx]at f2 hsl
    rcases C.cases hxl with hB | ⟨hgn,_⟩
    ·obtain⟨o',o1,o2,o3,o4,o5⟩:=hB
     rw[ho]at o1
     cases o1
     have hw:=mZ (m:=m) (tm:=tm) h.sz (λg b hg=>hsl g (by simp[uses,hg])) o5 f2
     rw[hw]
     simp only[bY5,cBj]
     refine⟨λ_ _=>trivial, ?_⟩
     have h':=h.run C (o:=o) hi hLr (by rw[hrx];exact ho) (by rw[hrx];exact o2) o3 he (Ext.refl m) (w':=w) (v:=undef) (by rw[f3];simp[VR,undef]) h.hr h.mv h.df h.lps (λid _ h=>h)
     rw[hrx]at h'
     exact ih h' hpre
    ·rw[hgn]at f2;cases f2
   ·rename_i tm H lr hk
    obtain⟨f1,f2,f3,f4,f5⟩:=hf
    have hsl:∀t∈uses r.x,VR m (tm.get t) (a.tmps.getD t undef):=λt ht=>by rw[f1];exact h.slots C hi hLr hbr ht
    rcases C.cases hxl with hB | ⟨_,why,hbad⟩
    ·obtain⟨o',o1,o2,o3,o4,o5⟩:=hB
     rw[ho]at o1
     cases o1
     rw[hrx]at f2 hsl f3
     have hw:=mZ (m:=m) (tm:=tm) h.sz (λg b hg=>hsl g (by simp[uses,hg])) o5 f2
     rw[hw]
     simp only[cBu]
     unfold Live at hlv
     rw[hk]at hlv
     simp only at hlv
     have hρ:∀y,VR m (evu (rQ x.op) tm (cO y)) (a.eval y):=bLn λt ht=>hsl t (by unfold uses;exact cA2 _ ht)
     have hl2:=aTi (cu':=cur s.hp) (ca':=aR s.hp) f3 λy hy=>by
      obtain⟨⟨q1,q2⟩,_⟩:=hlv.1 y hy
      exact⟨λtot=>bG9 q2 tot,q1⟩
     rw[o4]at hl2 hρ
     have hl:=aSr (P:=P) h.hr hρ (λv=>rfl) o H.length hl2 f4
     have hnd:∀c,o.op≠.defer c:=λc hc=>by rw[kJ hc]at hl2;cases hl2
     unfold Oper.wpIn
     refine⟨λ_ _=>trivial, ?_⟩
     rw[iD hnd]
     rcases hl with ⟨hnb,v,hrun,hv⟩ | ⟨nb,v,w',I,hnb,hrun,hN,hv⟩
     ·rw[hrun,cAn]
      have h':=h.run C (o:=o) hi hLr (by rw[hrx];exact ho) (by rw[hrx];exact o2) o3 he (Ext.refl m) (w':=w) (v:=v) (by rw[f5];exact hv) h.hr h.mv h.df h.lps (λid _ h=>h)
      rw[hrx]at h'
      exact ih h' hpre
     ·rw[hrun,cAn]
      obtain⟨n1,n2,n3,n4⟩:=hlv.2 nb hnb
      obtain⟨q1,q2⟩:=h.hr.map n2 n1 (λj _ _=>rfl) (bXe _) hN
      have h':=h.run C (o:=o) hi hLr (by rw[hrx];exact ho) (by rw[hrx];exact o2) o3 he q2.ext (w':=w') (v:=v) (by rw[f5];exact hv _ (M.set_same _ _ _)) q1 (h.mv.late q2 n3) (h.df.step h.hr q2) (h.lps.stepw h.hr q2 (bXe _) rfl (bXe _)) (λid hid hn=>by
       rw[M.set_other _ _ ?_]
       ·exact hn
       ·intro e
        refine hid ?_
        simp[sP,hk,hnb,e])
      rw[hrx]at h'
      exact ih h' hpre
    ·rw[hrx,hbad]at f3;cases f3
  ·-- the operation that is next
   rcases hs with ⟨rfl,_⟩ | ⟨y,l',rfl,hg,hhv,hd⟩
   ·cases hmem
   ·rcases bXd.1 hmem with e | hmem
    ·subst e
     rcases C.cases hxl with hB | ⟨_,why,hbad⟩
     ·obtain⟨o',o1,o2,o3,o4,o5⟩:=hB
      rw[ho]at o1
      cases o1
      have hsl:∀t∈uses x,VR m (s.tm.get t) (a.tmps.getD t undef):=λt ht=>h.slots_head C hb ht
      have hw:=mZ (m:=m) (tm:=s.tm) (H:=s.hp) h.sz (λg b hg=>hsl g (by simp[uses,hg])) o5 hg
      rw[hw]
      simp only[cBu]
      have hρ:∀y,VR m (evu (rQ (cOp P o.op)) s.tm (cO y)) (a.eval y):=bLn λt ht=>hsl t (by unfold uses;rw[o4];exact cA2 _ ht)
      obtain⟨p1,p2⟩:=bL7 hE hrec (X:=X) (r:=r0) h.hr hρ (λ_=>rfl) (o:=o) (next:=wpAnyIn (Wd r0) 0 P .any ops (Post P E.gl nt B X m0 H0 w0 Q) fuel (listed.setIfInBounds x.ix true)) (QQ:=Post P E.gl nt B X m0 H0 w0 Q)
      rw[aKw,hg]at hd
      simp only at hd
      rw[o4]at hd
      split at hd
      ·rename_i f args hop
       refine p2 f args k _ h.lps hop hd λm' w' ov H' k' hq hH' hX' hmv'=>⟨λav v e hv => ?_,λav v e hv => ?_⟩
       ·subst e
        obtain⟨c1,c2,c3⟩:=rF hq
        exact ih (h.writes C hnt ho o2 o3 he hv hH' hmv' (h.df.stepx h.hr h.lps hmv') hX' c2 c3) (qD c1)
       ·subst e
        exact⟨.pan av,_,k',m',hq,⟨v,rfl,hv⟩,⟨λj=>by rw[T.get_e];simp[VR],h.sz,h.df.stepx h.hr h.lps hmv',hH'⟩,hX',h.mv.trans hmv'⟩
      ·rename_i hne
       split at hd
       ·rename_i r hl
        have:=aVc hl
        rw[←o4,hhv]at this
        cases this
       ·refine p1 _ _ (bU9 hd) λm' w' av H' v hq hH' hmv' hv => ?_
        obtain⟨c1,c2,c3⟩:=rF hq
        exact ih (h.writes C hnt ho o2 o3 he hv hH' (hmv'.mx _) (h.df.step h.hr hmv'.toMw) (h.lps.step (g':=k) h.hr hmv' rfl (bXe _)) c2 c3) (qD c1)
     ·rw[aKw,hg]at hd
      simp only at hd
      rw[hbad]at hd
      exact hd.elim
    ·obtain⟨_,hpl,_⟩:=h.pairs C
     rw[cAa]at hpl
     have:=hb _ (aN4 (hpl.1 x hmem) hhv)
     rw[h.unl y (by simp)]at this
     cases this

theorem aXz(hE:EnvOk P E)(hrec:zD P E rec)(hnt:nt<=4000){id:Nat}(hl:drawnOf P nt ops=.drawn l0){s:S}{k:Gh}{m:M}{a:Act}{w:World}(h:SR E.gl nt B m s a w)(hX:LpR P E.gl X k m s.hp w)(hd:aKw E rec l0 s k [] Q) :
  (Code.region id ops true).wpIn (Wd r0) 0 P (Post P E.gl nt B X m s.hp w Q) a w:=by
 refine wpIn_region_any hE.mixed (any_ok (t0:=λt=>s.tm.get t) hE hrec (aZ4 hl) hnt ops.size _ (λ_=>false) [] l0 s k [] m a _ (by simp) (λj => ?_) (by simp[List.count_replicate]) ?_ hd)
 ·by_cases hj:j<ops.size<;>simp[hj]
 ·have hm:Mv m s.hp w m s.hp { w with drawn:=w.drawn+1 }:=⟨⟨Ext.refl m,rfl,rfl,rfl,bXe _,λ_ _ _=>rfl,λ_ h=>.inr h,λ_ _ h=>h,λ_ _ _ h=>.inl h⟩,bXe _,λ_ _ h=>h⟩
  refine⟨rfl,λt=>rfl,λt=>h.tm t,h.nt,h.df,hX.step (g':=k) h.hp hm rfl (bXe _),⟨h.hp.dom,λid I b h1 h2 => ?_,h.hp.inj,h.hp.glb,h.hp.gld,h.hp.frz,h.hp.fow,h.hp.gow⟩,hm.mx _,λr hr=>(by cases hr),λ_ _=>rfl,λi r hi=>(by simp at hi),λr hr=>(by cases hr),List.Pairwise.nil,λr hr=>(by cases hr),λi o ho hL=>(by cases hL)⟩
  have:=h.hp.blk id I b h1 h2
  exact⟨this.tot,this.lf,this.row,this.mrow⟩
end
end Go.Proofs.YtnhechnaemmdiaaGreatDoor

namespace Go.Proofs.YtnhechnaemmdiaaGreatDoor
open Go.RowKit

theorem fQ{P:Program}{b:Frame}{a:Act}{k:List Item}{cs:List Frame}{w:World}{c:Code}:Go.step P (lone (b.atR a (.code (.scope c)::k)) cs w)=.next (lone (b.atR a (.code c::.inScope c::k)) cs w):=
 step_lone_go (by simp[stepG,stepG.exec,Frame.atR])
theorem aBv{P:Program}{b:Frame}{a:Act}{k:List Item}{cs:List Frame}{w:World}{c:Code}:Go.step P (lone (b.atR a (.inScope c::k)) cs w)=.next (lone (b.atR a k) cs w):=
 step_lone_go (by simp[stepG,stepG.exec,Frame.atR])

theorem nD{F:Fence}{n:Nat}{P:Program}{Q:Exit->Act->World->Prop}{a:Act}{w:World}{c:Code}(h:c.wpIn F n P (Exit.noGoto Q) a w):(Code.scope c).wpIn F n P Q a w:=by
 intro b k cs hro hb hr
 have h0:(lone (b.atR a (.code (.scope c)::k)) cs w).fenced P F:=fenced_calm hb hr rfl
 obtain⟨e,a₁,w₁,hq,harr⟩:=h b (.inScope c::k) cs hro hb hr
 cases e with
 | normal=>exact⟨.normal,a₁,w₁,hq,.head h0 fQ (StepsIn.trans harr (.one (fenced_calm hb hr rfl) aBv))⟩
 | exit id=>
  have hx:exitTo id (.inScope c::k)=exitTo id k:=by simp[exitTo]
  exact⟨.exit id,a₁,w₁,hq,λk' hk=>.head h0 fQ (harr.1 k' (by rw[hx];exact hk)),
   λhr' hk=>let ⟨k₁,h1,h2⟩:=harr.2 hr' (by rw[hx];exact hk);⟨k₁,h1,.head h0 fQ h2⟩⟩
 | goto l=>exact hq.elim
 | ret=>exact⟨_,a₁,w₁,hq,.of_steps (.one h0 fQ) harr⟩
 | panic ch=>exact⟨_,a₁,w₁,hq,.of_steps (.one h0 fQ) harr⟩
 | outgrown=>exact⟨_,a₁,w₁,hq,.of_steps (.one h0 fQ) harr⟩

section
variable {P:Program} {gl:Nat->Option HB} {E:Env} {nt:Nat} {B:Fb} {X:List Ls}

theorem Post.trans{m0 m1:M}{H0 H1:HV}{w0 w1:World}{Q:Ex->S->Gh->Prop}(h:Mx (X.map (·.l)) m0 H0 w0 m1 H1 w1){e:Exit}{a:Act}{w:World}(k:Post P gl nt B X m1 H1 w1 Q e a w):Post P gl nt B X m0 H0 w0 Q e a w:=by
 obtain⟨ae,s',k',m',q1,q2,q3,q4,q5⟩:=k
 exact⟨ae,s',k',m',q1,q2,q3,q4,h.trans q5⟩

theorem SR.clr{m:M}{s:S}{a:Act}{w:World}(h:SR gl nt B m s a w)(lv:Nat):SR gl nt B m (clr lv s) a w:=by
 refine⟨λk => ?_,h.nt,h.df,h.hp⟩
 show VR m ((s.tm.keep lv 1 0).get k) _
 rcases T.get_keep lv s.tm 1 0 k with e | e
 ·rw[e];exact h.tm k
 ·rw[e];simp[VR]

theorem aYg{lv base k:Nat}{s:S}{K:S->Prop}(h:aCt E lv base k s K):K (Go.Proofs.YtnhechnaemmdiaaGreatDoor.clr lv s)∨(((Go.Proofs.YtnhechnaemmdiaaGreatDoor.clr lv s).tm.old base=true∧aNh base (s.hp.take base)=true)∧K ⟨(Go.Proofs.YtnhechnaemmdiaaGreatDoor.clr lv s).tm,s.hp.take base⟩):=by
 unfold aCt at h
 split at h
 ·simp only[bW3]at h;exact .inr h
 ·exact .inl h
 ·cases hc:((Go.Proofs.YtnhechnaemmdiaaGreatDoor.clr lv s).tm.old base&&aNh base (s.hp.take base))
  ·simp only[hc,bYi]at h;exact .inl h
  ·simp only[hc,bXw]at h
   simp only[bW3]at hc
   exact .inr ⟨hc,h⟩

theorem aHq{m0 m:M}{H0:HV}{w0:World}{s:S}{g:Gh}{a:Act}{w:World}(h:SR gl nt B m s a w)(hX:LpR P gl X g m s.hp w)(hm:Mx (X.map (·.l)) m0 H0 w0 m s.hp w)(lv base k:Nat)(hd:∀id I,m0.blk id=some I->id<base)(hb:H0.length<=base)(hbl:base<=s.hp.length)(hlow:Low X base){K:S->Prop}(hK:aCt E lv base k s K) :
  ∃s' m',K s'∧SR gl nt B m' s' a w∧LpR P gl X g m' s'.hp w∧Mx (X.map (·.l)) m0 H0 w0 m' s'.hp w:=by
 have hc:=h.clr lv
 rcases aYg hK with hk | ⟨ho,hk⟩
 ·exact⟨_,m,hk,hc,hX,hm⟩
 ·exact⟨_,m.below base,hk,⟨λk=>VR.below _ _ (T.old_get _ _ ho.1) (hc.tm k),hc.nt,hc.df,HR.take (m0:=m0) (H0:=H0) (w0:=w0) hc.hp ho.2⟩,hX.take hbl hlow,hm.take hd hb⟩

theorem bPr{m0 m:M}{H0:HV}{w0:World}{s:S}{g:Gh}{a:Act}{w:World}(h:SR gl nt B m s a w)(hX:LpR P gl X g m s.hp w)(hm:Mx (X.map (·.l)) m0 H0 w0 m s.hp w)(id lv base:Nat)(hd:∀id I,m0.blk id=some I->id<H0.length)(hb:H0.length<=base)(hbl:base<=s.hp.length)(hlow0:Low X H0.length)(hlow:Low X base){K:S->Prop}(hK:bSx E id lv H0.length base s K) :
  ∃s' m',K s'∧SR gl nt B m' s' a w∧LpR P gl X g m' s'.hp w∧Mx (X.map (·.l)) m0 H0 w0 m' s'.hp w:=by
 unfold bSx at hK
 split at hK
 ·exact aHq (E:=E) h hX hm lv base _ (λi I hI=>bYe (hd i I hI) hb) hb hbl hlow hK
 ·obtain⟨s1,m1,k1,k2,k3,k4,k5⟩:=aE9 hd (bXe _) hlow0 _ _ m (h.clr lv) hX hm hK
  exact aHq (E:=E) k2 k3 k4 lv base _ (λi I hI=>bYe (hd i I hI) hb) hb (by rw[k5];exact hbl) hlow k1

theorem aF3{r:Option Nat}{c:Code}{c':AC}{id lv:Nat}(hno:E.inv id=none){Q:Ex->S->Gh->Prop}{m0:M}{H0:HV}{w0:World}(hd:∀i I,m0.blk i=some I->i<H0.length) :
  ∀ (n:Nat) (s:S) (k:Gh) (m:M) (a:Act) (w:World),
   (∀j,j<=n->∀ (s:S) (k:Gh) (Q:Ex->S->Gh->Prop) (m:M) (a:Act) (w:World),B.b<=w.heap.size->SR E.gl nt B m s a w->LpR P E.gl X k m s.hp w->wpx E j c' s k Q->c.wpIn (Wd r) 0 P (Post P E.gl nt B X m s.hp w Q) a w) →
   B.b<=w.heap.size->SR E.gl nt B m s a w->LpR P E.gl X k m s.hp w->Mx (X.map (·.l)) m0 H0 w0 m s.hp w->wpx E n (.loop id lv c') s k Q->Code.roundsIn (Wd r) 0 P c (Post P E.gl nt B X m0 H0 w0 Q) n a w
 | 0,s,k,m,a,w,hb,hB,h,hX,hm,hw=>hw.elim
 | n+1,s,k,m,a,w,hb,hB,h,hX,hm,hw=>by
  rw[roundsIn_succ]
  have hw1:(match E.inv id with
   | some I=>aG3 E (wpx E n) id lv c' (I s) s k Q
   | none=>wpx E n c' (Go.Proofs.YtnhechnaemmdiaaGreatDoor.clr lv s) k λe s' k'=>match e with
    | .nrm=>aCt E lv s.hp.length (id*4096+1000000000) s' λs'=>wpx E n (.loop id lv c') s' k' Q
    | e=>Q e s' k'):=hw
  rw[hno]at hw1
  have hw':wpx E n c' (clr lv s) k (λe s' k'=>match e with
   | .nrm=>aCt E lv s.hp.length (id*4096+1000000000) s' λs'=>wpx E n (.loop id lv c') s' k' Q
   | e=>Q e s' k'):=hw1
  refine cAw (hb n (by omega) _ _ _ m a w hB (h.clr lv) hX hw') λe a' w' hp => ?_
  obtain⟨ae,s',k',m',q1,q2,q3,q4,q5⟩:=hp
  have q5':Mx (X.map (·.l)) m s.hp w m' s'.hp w':=q5
  cases ae with
  | nrm=>
   cases e<;>simp only[ExR]at q2
   obtain⟨s'',m'',t0,t1,t2,t3⟩:=aHq (E:=E) q3 q4 (hm.trans q5') lv s.hp.length (id*4096+1000000000) (λid I hI=>bYe (hd id I hI) hm.len) hm.len q5'.len hX.low q1
   exact aF3 hno hd n _ _ m'' a' w' (λj hj=>hb j (by omega)) (bYh hB q5'.size) t1 t2 t3 t0
  | exit i=>
   cases e<;>simp only[ExR]at q2
   exact⟨_,s',k',m',q1,q2,q3,q4,hm.trans q5'⟩
  | ret=>
   cases e<;>simp only[ExR]at q2
   exact⟨_,s',k',m',q1,trivial,q3,q4,hm.trans q5'⟩
  | pan v=>
   cases e<;>simp only[ExR]at q2
   exact⟨_,s',k',m',q1,q2,q3,q4,hm.trans q5'⟩

theorem aD1{v u:AV}(h:aKj v u):v=.undef∨u=v:=by
 cases v<;>first | exact .inl rfl | exact .inr h

theorem vN:∀ (st t:T),aWm st t->∀k,st.get k=.undef∨t.get k=st.get k
 | .e,_,_,k=>.inl (T.get_e k)
 | .n l v r,.e,h,k=>by
  simp only[aWm]at h
  obtain⟨h1,h2,h3⟩:=h
  cases k with
  | zero=>
   simp only[T.get]
   exact aD1 h1
  | succ k=>
   rw[T.get_e]
   simp only[T.get]
   by_cases e:k%2=0
   ·rw[if_pos e]
    have:=vN l .e h2 (k/2)
    rwa[T.get_e]at this
   ·rw[if_neg e]
    have:=vN r .e h3 (k/2)
    rwa[T.get_e]at this
 | .n l v r,.n l' v' r',h,k=>by
  simp only[aWm]at h
  obtain⟨h1,h2,h3⟩:=h
  cases k with
  | zero=>
   simp only[T.get]
   exact aD1 h1
  | succ k=>
   simp only[T.get]
   by_cases e:k%2=0
   ·rw[if_pos e,if_pos e];exact vN l l' h2 (k/2)
   ·rw[if_neg e,if_neg e];exact vN r r' h3 (k/2)

theorem uS:∀ (H H':HV),bMf H H'->H=H'
 | [],[],_=>rfl
 | [],_::_,h=>h.elim
 | _::_,[],h=>h.elim
 | ⟨k,lf,cs⟩::l,⟨k',lf',cs'⟩::l',h=>by
  simp only[bMf]at h
  obtain⟨⟨rfl,rfl,rfl⟩,h⟩:=h
  rw[uS l l' h]

theorem aVk{a b:List Lp}(h:bQ6 a b):a=b:=by
 unfold bQ6 at h
 split at h
 ·rfl
 ·exact h

theorem SR.sub{m:M}{s s':S}{a:Act}{w:World}(h:SR gl nt B m s a w)(h1:aWm s'.tm s.tm)(h2:bMf s.hp s'.hp):SR gl nt B m s' a w:=by
 have e:=uS _ _ h2
 refine⟨λk => ?_,h.nt,h.df,e▸h.hp⟩
 rcases vN _ _ h1 k with e | e
 ·rw[e];simp[VR]
 ·rw[←e];exact h.tm k

theorem oU{p:Nat->Prop}(h:∃n,p n):∃n,p n∧∀j,p j->n<=j:=by
 obtain⟨n,hn⟩:=h
 induction n using Nat.strongRecOn with
 | _ n ih=>
  by_cases hx:∃j,j<n∧p j
  ·obtain⟨j,h1,h2⟩:=hx
   exact ih j h1 h2
  ·exact⟨n,hn,λj hj=>by
    rcases cA3 j n with h | h
    ·exact absurd ⟨j,h,hj⟩ hx
    ·exact h⟩

open Classical in
theorem aBp{F:Fence}{rm:Nat}{P:Program}{Q:Exit->Act->World->Prop}{a:Act}{w:World}{c:Code}(I:Nat->Act->World->Prop)(n₀:Nat)(h₀:I n₀ a w)
  (round:∀n a w,I n a w->c.wpIn F rm P (Exit.then (λa' w'=>∃n',n'<n∧I n' a' w') Q) a w):(Code.loop c).wpIn F rm P Q a w:=by
 refine wpIn_loop (λa w=>∃n,I n a w) (λa w=>if h:∃n,I n a w then(oU h).choose else 0) ⟨n₀,h₀⟩ ?_
 intro a w hI
 have hs:=(oU hI).choose_spec
 refine cAw (round _ a w hs.1) ?_
 intro e a' w' hq
 cases e with
 | normal=>
  obtain⟨n',hlt,hI'⟩:=hq
  refine show(∃n,I n a' w')∧(if h:∃n,I n a' w' then(oU h).choose else 0)<(if h:∃n,I n a w then(oU h).choose else 0)from⟨⟨n',hI'⟩, ?_⟩
  rw[dif_pos ⟨n',hI'⟩,dif_pos hI]
  exact cBm ((oU ⟨n',hI'⟩).choose_spec.2 n' hI') hlt
 | exit id=>exact hq
 | goto l=>exact hq
 | ret=>exact hq
 | panic ch=>exact hq
 | outgrown=>exact hq

theorem aBj{p:LInv->Prop}:∀ {l:List LInv},bKd l p->∃I,I∈l∧p I
 | [],h=>h.elim
 | [I],h=>⟨I,by simp,h⟩
 | I::J::l,h=>by
  rcases(show p I∨bKd (J::l) p from h)with h | h
  ·exact⟨I,by simp,h⟩
  ·obtain⟨K,h1,h2⟩:=aBj h
   exact⟨K,by simp only[bXd]at h1 ⊢;exact .inr h1,h2⟩

theorem aG5{p:LInv->Prop}:∀ {l:List LInv},bM5 l p->∀I,I∈l->p I
 | [],_,I,hI=>by simp at hI
 | [I],h,J,hJ=>by
  obtain rfl:=bXp.1 hJ
  exact h
 | I::J::l,h,K,hK=>by
  have h':p I∧bM5 (J::l) p:=h
  rcases bXd.1 hK with rfl | hK
  ·exact h'.1
  ·exact aG5 h'.2 K hK

theorem aIm{p:List LInv->Prop}:∀ {l:List (List LInv)},bRl l p->∃I,p I
 | [],h=>h.elim
 | [I],h=>⟨I,h⟩
 | I::J::l,h=>by
  rcases h with h | h
  ·exact⟨I,h⟩
  ·exact aIm (l:=J::l) h
theorem aLo{v u:AV}{K:Prop}(h:bFr v u K):aKj v u∧K:=by
 cases v<;>first | exact⟨trivial,h⟩ | exact h
theorem nE:∀ {a b:T} {K:Prop},bCp a b K->aWm a b∧K
 | .e,_,_,h=>⟨trivial,h⟩
 | .n l v r,.e,K,h=>by
  obtain⟨h1,h2⟩:=aLo h
  obtain⟨h3,h4⟩:=nE h2
  obtain⟨h5,h6⟩:=nE h4
  exact⟨⟨h1,h3,h5⟩,h6⟩
 | .n l v r,.n l' v' r',K,h=>by
  obtain⟨h1,h2⟩:=aLo h
  obtain⟨h3,h4⟩:=nE h2
  obtain⟨h5,h6⟩:=nE h4
  exact⟨⟨h1,h3,h5⟩,h6⟩
theorem aKy:∀ {a b:HV} {K:Prop},eqC a b K->bMf a b∧K
 | [],[],_,h=>⟨trivial,h⟩
 | [],_::_,_,h=>h.elim
 | _::_,[],_,h=>h.elim
 | b::l,b'::l',K,h=>by
  simp only[eqC]at h
  cases hc:(decide (b.k=b'.k)&&(b.lf==b'.lf))
  ·rw[hc]at h;exact h.elim
  ·rw[hc,bXw]at h
   simp only[bW3,bW6,bYr]at hc
   obtain⟨h1,h2⟩:=aKy h.2
   exact⟨⟨⟨hc.1,hc.2,h.1⟩,h1⟩,h2⟩

theorem bPd{rec:Rec}(hrec:zD P E rec)(hnt:nt<=4000){r:Option Nat}(hr:∀l,r=some l->l∈X.map (·.l)){c:Code}{c':AC}{id lv:Nat}{Is:List LInv}{s:S}{k:Gh}{Q:Ex->S->Gh->Prop}{m:M}{a:Act}{w:World}
  (hb:Comp P E.gl nt c c') (hB:B.b<=w.heap.size) (h:SR E.gl nt B m s a w) (hX:LpR P E.gl X k m s.hp w) (hw:aKe E rec id lv c' Is s k Q):(Code.loop c).wpIn (Wd r) 0 P (Post P E.gl nt B X m s.hp w Q) a w:=by
 obtain⟨hw0,hall⟩:=hw
 obtain⟨I0,m0,x0,p0,e0'⟩:=aBj hw0
 obtain⟨h0,h0'⟩:=aKy e0'
 obtain⟨e0,_⟩:=nE h0'
 have e00:=uS _ _ h0
 refine aBp (λ(n:Nat) (a':Act) (w':World)=>∃I,I∈Is∧∃x m',I.pre x∧I.mu x=n∧SR E.gl nt B m' (I.st x) a' w'∧LpR P E.gl X k m' (I.st x).hp w'∧Mx (X.map (·.l)) m s.hp w m' (I.st x).hp w') (I0.mu x0) ⟨I0,m0,x0,m,p0,rfl,h.sub e0 h0,e00▸hX,e00▸(Mv.refl _ _ _).mx _⟩ ?_
 rintro n a' w' ⟨I,hI,x,m',p1,rfl,p3,p4,p5⟩
 refine cAw (hrec nt B r X c c' _ k _ m' a' w' hnt (bYh hB p5.size) hr hb p3 p4 (aG5 hall I hI x p1)) λe a'' w'' hp => ?_
 obtain⟨ae,s',k',m'',q1,q2,q3,q4,q5⟩:=hp
 cases ae with
 | nrm=>
  cases e<;>simp only[ExR]at q2
  obtain⟨s'',m3,⟨⟨l1,l2⟩,hany⟩,t1,t2,t3⟩:=bPr (E:=E) q3 q4 (p5.trans q5) id lv (I.st x).hp.length h.hp.dom p5.len q5.len hX.low p4.low q1
  obtain⟨J,hJ,y,y1,y2,y3'⟩:=aBj hany
  obtain⟨y4,y4'⟩:=aKy y3'
  obtain⟨y3,_⟩:=nE y4'
  have ey:=uS _ _ y4
  have l1:=aVk l1
  exact⟨_,y2,J,hJ,y,m3,y1,rfl,t1.sub y3 y4,ey▸⟨by rw[←l1];exact t2.all,by rw[←l2];exact t2.key,t2.us,t2.ls⟩,ey▸t3⟩
 | exit i=>
  cases e<;>simp only[ExR]at q2
  exact⟨_,s',k',m'',q1,q2,q3,q4,p5.trans q5⟩
 | ret=>
  cases e<;>simp only[ExR]at q2
  exact⟨_,s',k',m'',q1,trivial,q3,q4,p5.trans q5⟩
 | pan v=>
  cases e<;>simp only[ExR]at q2
  exact⟨_,s',k',m'',q1,q2,q3,q4,p5.trans q5⟩

theorem HR.same{m m':M}{H:HV}{w w':World}(hH:HR gl m H w)(he:Ext m m')(hb:m'.blk=m.blk)(hf:m'.frz=m.frz)(hw:∀j,j<w.heap.size->w'.heap[j]? = w.heap[j]?):HR gl m' H w':=by
 refine⟨λid I h=>hH.dom id I (by rw[←hb];exact h),λid I b h h2 => ?_,λi j I J b h1 h2=>hH.inj i j I J b (by rw[←hb];exact h1) (by rw[←hb];exact h2),λg cs hg => ?_,hH.gld,λt k cs hg => ?_,λt k cs id I b h1 h2=>hH.fow t k cs id I b (by rw[←hf];exact h1) (by rw[←hb];exact h2),λg cs id I b h1 h2=>hH.gow g cs id I b h1 (by rw[←hb];exact h2)⟩
 ·have h:=hH.blk id I b (by rw[←hb];exact h) h2
  obtain⟨_,h3,_⟩:=h.obj
  exact h.mono he (hw _ (bXa.1 h3).1)
 ·obtain⟨cu,e,fr,h3,h4⟩:=hH.glb g cs hg
  exact⟨cu,e,fr,(hw _ (bXa.1 h3).1).trans h3,VRL.mono he _ _ h4⟩
 ·obtain⟨cu,e,fr,h3,h4⟩:=hH.frz t k cs (by rw[←hf];exact hg)
  exact⟨cu,e,fr,(hw _ (bXa.1 h3).1).trans h3,h4⟩

theorem Lps.same{m m':M}{H:HV}{w w':World}(he:Ext m m')(hw:∀j,j<w.heap.size->w'.heap[j]? = w.heap[j]?):∀ {X:List Ls} {l:List Lp},Lps P gl m H w X l->Lps P gl m' H w' X l
 | [],[],_=>trivial
 | [],_::_,h=>h.elim
 | _::_,[],h=>h.elim
 | x::X,p::l,h=>⟨⟨h.1.u,he.lp _ _ h.1.lp,(hw _ (bXa.1 h.1.row).1).trans h.1.row,h.1.ext.trans he,h.1.dom,h.1.le,h.1.tm,h.1.nt,h.1.ps,h.1.ca,h.1.cb,h.1.ok⟩,Lps.same he hw h.2⟩

theorem aXk{r:Option Nat}{g:Gh}{m:M}{s:S}{a:Act}{w:World}(hr:∀l,r=some l->l∈X.map (·.l))(hB:B.b<=w.heap.size)(h:SR gl nt B m s a w)(hX:LpR P gl X g m s.hp w)(fn:FuncId)(ps:Array Tmp)(asg body:Code) :
  ∃l mk w1 dD,(Instr.enterLoop fn a.tmps ps asg body r).run P w=.ok (l,mk) w1∧w1.heap[l]? = some (.loop { state:=.ready,pending:=none,fn:=fn,tmps:=a.tmps,params:=ps,assign:=asg,body:=body,defers:=dD }) ∧
   (∀j,j<w.heap.size->w1.heap[j]? = w.heap[j]?)∧w.heap.size<=l∧w.heap.size<=w1.heap.size∧w1.os=w.os∧w1.tape=w.tape∧w1.output=w.output∧DF B (mk++a.defers) w1:=by
 obtain⟨Ds,d1,d2,d3⟩:=h.df
 have hDl:∀D∈Ds,D<w.heap.size:=λD hD=>(bXa.1 (d3 D hD).2).1
 cases r with
 | none=>
  refine⟨_,_,_,w.heap.size,run_enterLoop_outer fn a.tmps ps asg body, ?_,λj hj => ?_,by omega, ?_,rfl,rfl,rfl,w.heap.size::Ds, ?_, ?_, ?_⟩
  ·have:=World.alloc_heap_new (w.alloc (.deferred (some []))) (.loop { state:=.ready,pending:=none,fn:=fn,tmps:=a.tmps,params:=ps,assign:=asg,body:=body,defers:=w.heap.size })
   rw[bZ9]at this
   exact this
  ·rw[bZ2 _ _ _ (by rw[bZ9];omega),bZ2 _ _ _ hj]
  ·rw[bZ9,bZ9];omega
  ·rw[d1];rfl
  ·rw[cAm]
   exact⟨λhm=>by have:=hDl _ hm;omega,d2⟩
  ·intro D hD
   rcases bXd.1 hD with rfl | hD
   ·refine⟨hB, ?_⟩
    rw[bZ2 _ _ _ (by rw[bZ9];omega)]
    exact World.alloc_heap_new w _
   ·refine⟨(d3 D hD).1, ?_⟩
    rw[bZ2 _ _ _ (by rw[bZ9];have:=hDl D hD;omega),bZ2 _ _ _ (hDl D hD)]
    exact(d3 D hD).2
 | some l0=>
  obtain⟨x,hx,hxl⟩:=bZb.1 (hr l0 rfl)
  obtain⟨p,hp⟩:=hX.all.mem hx
  have hrow:=hp.row
  rw[show x.l=l0 from hxl]at hrow
  refine⟨w.heap.size,[],w.alloc (.loop { state:=.ready,pending:=none,fn:=fn,tmps:=a.tmps,params:=ps,assign:=asg,body:=body,defers:=(x.row p.st).defers }),(x.row p.st).defers, ?_,World.alloc_heap_new w _,λj hj=>bZ2 _ _ _ hj,bXe _, ?_,rfl,rfl,rfl,Ds,d1,d2,λD hD=>⟨(d3 D hD).1, ?_⟩⟩
  ·unfold Instr.enterLoop
   simp only[bY1,run_getLoop hrow,run_newObj_alloc,Result.andThen,cBh]
  ·rw[bZ9];omega
  ·rw[bZ2 _ _ _ (hDl D hD)]
   exact(d3 D hD).2

theorem aHx{w:World}{k:Nat}{o:Obj}(h:w.heap[k]? = some o):w.putObj k o=w:=by
 have hlt:=(bXa.1 h).1
 have:w.heap.setIfInBounds k o=w.heap:=by
  apply Array.ext_getElem?
  intro i
  by_cases e:i=k
  ·subst e;rw[h];simp[hlt]
  ·rw[bZj (cCn e)]
 unfold World.putObj
 rw[this]

theorem bMn(hE:EnvOk P E){rec:Rec}(hrec:zD P E rec)(hnt:nt<=4000){r:Option Nat}{f:Operand}{ps:Array Tmp}{asg body:Code}{asg' body':AC}(ca:Comp P E.gl nt asg asg')(cb:Comp P E.gl nt body body')(hps:∀p∈ps.toList,p<nt)
  {s:S} {k:Gh} {Q:Ex->S->Gh->Prop} {m:M} {a:Act} {w:World} (hB:B.b<=w.heap.size) (hr:∀l,r=some l->l∈X.map (·.l)) (h:SR E.gl nt B m s a w) (hX:LpR P E.gl X k m s.hp w) {gf:Nat} {x y:HB} (hf:s.ev (cO f)=.fn (.func gf) x y)
  (hw:aT E rec gf (x++[.yld k.n]++y) s.hp { k with n:=k.n+1,lps:=⟨k.n,s.tm,ps.toList,asg',body',.ready,k.f⟩::k.lps } (aKm s.tm Q)) :
  (Code.rangeFunc f ps asg body).wpIn (Wd r) 0 P (Post P E.gl nt B X m s.hp w Q) a w:=by
 have hcf:=h.ops f
 rw[hf]at hcf
 simp only[VR]at hcf
 obtain⟨x',y',e1,e2,e3⟩:=hcf
 refine wpIn_rangeFunc λfn _ => ?_
 obtain⟨l,mk,w1,dD,n1,n2,n3,n4,n5,n6,n7,n8,n9⟩:=aXk (r:=r) hr hB h hX fn ps asg body
 -- the map with the new range
 obtain⟨m',hm'⟩:∃m':M,m'=⟨m.blk,m.opq,λu=>if u=k.n then some l else m.lp u,m.frz⟩:=⟨_,rfl⟩
 have hext:Ext m m':=by
  subst hm'
  refine⟨λid I hI=>⟨I,hI,bXe _,λ_=>rfl⟩,rfl,λu l' hu => ?_,λ_ _ _ h=>h⟩
  have:=hX.key u l' hu
  simp only
  rw[if_neg (by omega)]
  exact hu
 have hblk:m'.blk=m.blk:=by subst hm';rfl
 have hH1:HR E.gl m' s.hp w1:=h.hp.same hext hblk (by subst hm';rfl) n3
 obtain⟨z,hz⟩:∃z:Ls,z=⟨l,k.n,m,s.hp.length,a.tmps,fn,ps,asg,body,dD,nt⟩:=⟨_,rfl⟩
 have hlt:∀z'∈X,z'.u<k.n∧z'.l<w.heap.size:=by
  intro z' hz'
  obtain⟨p,hp⟩:=hX.all.mem hz'
  exact⟨hX.key _ _ hp.lp,(bXa.1 hp.row).1⟩
 have hX1:LpR P E.gl (z::X) { k with n:=k.n+1,lps:=⟨k.n,s.tm,ps.toList,asg',body',.ready,k.f⟩::k.lps } m' s.hp w1:=by
  refine⟨⟨?_,Lps.same hext n3 hX.all⟩,λu l' hu => ?_, ?_, ?_⟩
  ·subst hz
   refine⟨rfl,by subst hm';simp,n2,hext,h.hp.dom,bXe _,h.tm,⟨h.nt,hnt⟩,⟨rfl,hps⟩,ca,cb,λe he=>by cases he⟩
  ·by_cases e:u=k.n
   ·subst e;simp
   ·subst hm'
    simp only at hu
    rw[if_neg e]at hu
    have:=hX.key u l' hu
    simp only;omega
  ·simp only[bXu,cAm]
   refine⟨λhm => ?_,hX.us⟩
   obtain⟨z',h1,h2⟩:=bZb.1 hm
   have:=(hlt z' h1).1
   rw[h2,hz]at this
   simp at this
  ·simp only[bXu,cAm]
   refine⟨λhm => ?_,hX.ls⟩
   obtain⟨z',h1,h2⟩:=bZb.1 hm
   have:=(hlt z' h1).2
   rw[h2,hz]at this
   simp only at this
   omega
 have hargs:VRL m' (x++[.yld k.n]++y) (x' ++ #[Value.func (.yield l) #[] #[]]++y').toList:=by
  simp only[cB8]
  refine((VRL.mono hext _ _ e2).append ?_).append (VRL.mono hext _ _ e3)
  refine VRL.one ?_
  simp only[VR]
  exact⟨l,by subst hm';simp,rfl⟩
 obtain⟨hen,hcalls⟩:=aCk hE hrec hw hargs hH1 hX1
 obtain⟨fn',f1,f2,f3⟩:=hen
 have f3' : ¬ fn'.name = "runtime.NumGoroutine" := by simpa using f3
 have f2':¬ fn'.body=none:=by
  intro e
  rw[e]at f2
  cases f2
 have hzl:z.l=l:=by rw[hz]
 refine⟨l,mk,w1,{ target:=.fn (.func gf) y',args:=x' ++ #[Value.func (.yield l) #[] #[]] },w1,gf,x' ++ #[Value.func (.yield l) #[] #[]]++y',w1,n1, ?_,λ_ _=>trivial, ?_,λh=>(by cases h), ?_⟩
 ·have hy:a.eval (.const (.func (.yield l) #[] #[]))=.func (.yield l) #[] #[]:=rfl
  simp[resolve,rangeCall,e1,Deferred.ofValue,hy]
 ·simp[invoke,callFunc,f1,f2',f3']
 ·refine(callsIn_wide (n:=0-1).2 hcalls).mono λe w2 hp => ?_
  obtain⟨o,H',g',m2,q1,q2,q3,q4,q5⟩:=hp
  have q1':=q1
  unfold aKm at q1'
  cases hg:g'.lps with
  | nil=>rw[hg]at q1';exact q1'.elim
  | cons p rest=>
   rw[hg]at q1'
   have hall:=q4.all
   rw[hg]at hall
   obtain⟨hp1,hrest⟩:=hall
   have hls:=q4.ls
   have hus:=q4.us
   simp only[bXu,cAm]at hls hus
   rw[hzl]at hls
   have hrow:=hp1.row
   rw[hzl]at hrow
   -- behind the range
   have hmx:∀o',Mx (X.map (·.l)) m s.hp w m2 H' (w2.putObj l o'):=by
    intro o'
    have q5':Mx (l::X.map (·.l)) m' s.hp w1 m2 H' w2:=by simpa[hzl]using q5
    refine⟨hext.trans q5'.ext,q5'.os.trans n6,q5'.tape.trans n7,q5'.output.trans n8,by rw[World.putObj_size];exact bYh n5 q5'.size,λj hj ho hx => ?_,λj hj => ?_,q5'.len,λid hi hn=>q5'.nw id hi (by rw[hblk];exact hn),λt b cs hc => ?_⟩
    ·rw[World.putObj_heap_other (by omega),q5'.keep j (by omega) (λho'=>ho (by obtain⟨id,I,b,c1,c2⟩:=ho';exact⟨id,I,b,by rw[←hblk];exact c1,c2⟩)) (by simp only[bXd,not_or];exact⟨by omega,hx⟩),n3 j hj]
    ·rcases q5'.own j hj with c | ⟨id,I,b,c1,c2⟩
     ·exact .inl (bYh n5 c)
     ·exact .inr ⟨id,I,b,by rw[←hblk];exact c1,c2⟩
    ·rcases q5'.fz t b cs hc with c | c | ⟨id,I,b,c1,c2⟩
     ·exact .inl (by subst hm';exact c)
     ·exact .inr (.inl (bYh n5 c))
     ·exact .inr (.inr ⟨id,I,b,by rw[←hblk];exact c1,c2⟩)
   have hdf:∀o',DF B (mk++a.defers) (w2.putObj l o'):=by
    intro o'
    have hd2:DF B (mk++a.defers) w2:=n9.stepx hH1 hX1 q5
    obtain⟨Ds,d1,d2,d3⟩:=hd2
    refine⟨Ds,d1,d2,λD hD=>⟨(d3 D hD).1, ?_⟩⟩
    rw[World.putObj_heap_other]
    ·exact(d3 D hD).2
    ·intro e
     have h4:=(d3 D hD).2
     rw[e,hrow]at h4
     cases h4
   have hend:∀o' (ae:Ex) (e':Exit),ExR m2 ae e'->Q ae ⟨s.tm,H'⟩ { g' with lps:=rest }->Post P E.gl nt B X m s.hp w Q e' { a with defers:=mk++a.defers } (w2.putObj l o'):=by
    intro o' ae e' hx hq
    refine⟨ae,_,_,m2,hq,hx,⟨λj=>VR.mono (hext.trans q5.ext) _ _ (h.tm j),h.nt,hdf o',q3.putObj hrow (by intros;simp) _⟩,⟨Lps.putObj _ hls.1 hrest,q4.key,hus.2,hls.2⟩,hmx o'⟩
   cases o with
   | pan v=>
    cases e<;>simp only[aIk]at q2
    obtain⟨cv,rfl,hcv⟩:=q2
    have hself:w2.putObj l (.loop (z.row p.st))=w2:=aHx hrow
    have:=hend (.loop (z.row p.st)) (.pan v) (.panic [{ v:=cv,recovered:=false }]) ⟨cv,rfl,hcv⟩ q1'
    rw[hself]at this
    exact this
   | ret v=>
    cases e<;>simp only[aIk]at q2
    simp only at q1'
    cases hst:p.st with
    | busy=>rw[hst]at q1';exact q1'.elim
    | ready=>
     rw[hst]at q1' hrow
     exact⟨_,_,run_endLoop hrow (by simp[Ls.row,bTy]),hend _ .nrm .normal trivial q1'⟩
    | done ex=>
     rw[hst]at q1' hrow
     refine⟨_,_,run_endLoop hrow (by simp[Ls.row,bTy]), ?_⟩
     rcases hp1.ok ex hst with rfl | ⟨i,rfl⟩
     ·exact wpIn_ret (hend _ .ret .ret trivial q1')
     ·exact wpIn_exit (hend _ (.exit i) (.exit i) rfl q1')

theorem bL9(hE:EnvOk P E):∀n,zD P E (wpx E n):=by
 intro n
 induction n using Nat.strongRecOn with
 | _ n ihn=>
  intro nt B r X code c s k Q m a w hnt hB hr hc
  induction hc generalizing s k Q m a w with
  | scope hb ih=>
   intro h hX hw
   refine nD (cAw (ih s k Q m a w hB h hX hw) λe a' w' hp => ?_)
   obtain⟨ae,s',k',m',q1,q2,q3⟩:=hp
   cases ae<;>cases e<;>first | exact q2.elim | exact⟨_,s',k',m',q1,q2,q3⟩
  | skip=>intro h hX hw;cases n with | zero=>exact hw.elim | succ n=>exact wpIn_skip ⟨.nrm,s,k,m,hw,trivial,h,hX,(Mv.refl _ _ _).mx _⟩
  | label l=>intro h hX hw;cases n with | zero=>exact hw.elim | succ n=>exact wpIn_label ⟨.nrm,s,k,m,hw,trivial,h,hX,(Mv.refl _ _ _).mx _⟩
  | ret=>intro h hX hw;cases n with | zero=>exact hw.elim | succ n=>exact wpIn_ret ⟨.ret,s,k,m,hw,trivial,h,hX,(Mv.refl _ _ _).mx _⟩
  | exit id=>intro h hX hw;cases n with | zero=>exact hw.elim | succ n=>exact wpIn_exit ⟨.exit id,s,k,m,hw,rfl,h,hX,(Mv.refl _ _ _).mx _⟩
  | bad code why=>intro h hX hw;cases n with | zero=>exact hw.elim | succ n=>exact hw.elim
  | sum code g hg=>
   intro h hX hw
   cases n with
   | zero=>exact hw.elim
   | succ n=>
    refine cAw (hg B r s _ m a w h hB hw) λe a' w' hp => ?_
    obtain⟨ae,s',m',q1,q2,q3,q4⟩:=hp
    exact⟨ae,s',k,m',q1,q2,q3,hX.step h.hp q4 rfl (bXe _),q4.mx _⟩
  | region id ops=>
   intro h hX hw
   cases n with
   | zero=>exact hw.elim
   | succ n=>exact wpIn_region_list (bHs hE (ihn n (by omega)) hnt ops _ s k m a w h hX ((Mv.refl _ _ _).mx _) hw)
  | drawn id ops l hl=>
   intro h hX hw
   cases n with
   | zero=>exact hw.elim
   | succ n=>exact aXz hE (ihn n (by omega)) hnt hl h hX hw
  | cond c' ha hb iha ihb=>
   intro h hX hw
   cases n with
   | zero=>exact hw.elim
   | succ n=>
    have hw:(match s.ev (cO c')with
     | .bool t=>bif t then wpx E n _ s k Q else wpx E n _ s k Q
     | _=>False):=hw
    split at hw
    ·rename_i t ht
     have hv:=h.ops c'
     rw[ht]at hv
     simp only[VR]at hv
     refine wpIn_cond hv ?_
     cases t
     ·exact ihn n (by omega) _ B r X _ _ s k Q m a w hnt hB hr hb h hX hw
     ·exact ihn n (by omega) _ B r X _ _ s k Q m a w hnt hB hr ha h hX hw
    ·exact hw.elim
  | seq ha hb iha ihb=>
   intro h hX hw
   cases n with
   | zero=>exact hw.elim
   | succ n=>
    have hw0:(match E.inv (1000000000+(k.f*4096+hdK _))with
     | some I=>bMd (wpx E n) _ _ (I s) s k Q
     | none=>wpx E n _ s k λe s k=>match e with
      | .nrm=>wpx E n _ s k Q
      | e=>Q e s k):=hw
    split at hw0
    ·obtain⟨Is,h1,h2⟩:=aIm hw0
     refine wpIn_seq (cAw (ihn n (by omega) _ B r X _ _ s k _ m a w hnt hB hr ha h hX h1) λe a' w' hp => ?_)
     obtain⟨ae,s',k',m',q1,q2,q3,q4,q5⟩:=hp
     cases ae with
     | nrm=>
      cases e<;>simp only[ExR]at q2
      obtain⟨⟨l1,l2⟩,hany⟩:=q1
      obtain⟨J,hJ,y,y1,y2⟩:=aBj hany
      obtain⟨y4,y4'⟩:=aKy y2
      obtain⟨y3,_⟩:=nE y4'
      have ey:=uS _ _ y4
      have l1:=aVk l1
      exact cAw (ihn n (by omega) _ B r X _ _ (J.st y) k Q m' a' w' hnt (bYh hB q5.size) hr hb (q3.sub y3 y4) (ey▸⟨by rw[←l1];exact q4.all,by rw[←l2];exact q4.key,q4.us,q4.ls⟩) (aG5 h2 J hJ y y1)) λe a'' w'' hp=>hp.trans (ey▸q5)
     | exit i=>
      cases e<;>simp only[ExR]at q2
      exact⟨_,s',k',m',q1,q2,q3,q4,q5⟩
     | ret=>
      cases e<;>simp only[ExR]at q2
      exact⟨_,s',k',m',q1,trivial,q3,q4,q5⟩
     | pan v=>
      cases e<;>simp only[ExR]at q2
      exact⟨_,s',k',m',q1,q2,q3,q4,q5⟩
    refine wpIn_seq (cAw (ihn n (by omega) _ B r X _ _ s k _ m a w hnt hB hr ha h hX hw0) λe a' w' hp => ?_)
    obtain⟨ae,s',k',m',q1,q2,q3,q4,q5⟩:=hp
    cases ae with
    | nrm=>
     cases e<;>simp only[ExR]at q2
     exact cAw (ihn n (by omega) _ B r X _ _ s' k' Q m' a' w' hnt (bYh hB q5.size) hr hb q3 q4 q1) λe a'' w'' hp=>hp.trans q5
    | exit i=>
     cases e<;>simp only[ExR]at q2
     exact⟨_,s',k',m',q1,q2,q3,q4,q5⟩
    | ret=>
     cases e<;>simp only[ExR]at q2
     exact⟨_,s',k',m',q1,trivial,q3,q4,q5⟩
    | pan v=>
     cases e<;>simp only[ExR]at q2
     exact⟨_,s',k',m',q1,q2,q3,q4,q5⟩
  | block id hb ih=>
   intro h hX hw
   cases n with
   | zero=>exact hw.elim
   | succ n=>
    refine wpIn_block (cAw (ihn n (by omega) _ B r X _ _ s k _ m a w hnt hB hr hb h hX hw) λe a' w' hp => ?_)
    obtain⟨ae,s',k',m',q1,q2,q3,q4,q5⟩:=hp
    cases ae with
    | nrm=>
     cases e<;>simp only[ExR]at q2
     exact⟨_,s',k',m',q1,trivial,q3,q4,q5⟩
    | exit i=>
     cases e<;>simp only[ExR]at q2
     subst q2
     simp only[Exit.inBlock]
     simp only at q1
     cases hi:Nat.beq i id
     ·rw[hi]at q1
      have:¬ i=id:=λe=>by rw[e,cCd]at hi;cases hi
      rw[if_neg this]
      exact⟨_,s',k',m',q1,rfl,q3,q4,q5⟩
     ·rw[hi]at q1
      rw[if_pos (bYg hi)]
      exact⟨_,s',k',m',q1,trivial,q3,q4,q5⟩
    | ret=>
     cases e<;>simp only[ExR]at q2
     exact⟨_,s',k',m',q1,trivial,q3,q4,q5⟩
    | pan v=>
     cases e<;>simp only[ExR]at q2
     exact⟨_,s',k',m',q1,q2,q3,q4,q5⟩
  | rfn f ps ha hb hps iha ihb=>
   intro h hX hw
   cases n with
   | zero=>exact hw.elim
   | succ n=>
    have hw:(match s.ev (cO f)with
     | .fn (.func gf) x y=>aT E (wpx E n) gf (x++[.yld k.n]++y) s.hp { k with n:=k.n+1,lps:=⟨k.n,s.tm,ps.toList,_,_,.ready,k.f⟩::k.lps } (aKm s.tm Q)
     | _=>False):=hw
    split at hw
    ·rename_i gf x y hf
     exact bMn hE (ihn n (by omega)) hnt ha hb hps hB hr h hX hf hw
    ·exact hw.elim
  | loop id lv hb ih=>
   intro h hX hw
   cases n with
   | zero=>exact hw.elim
   | succ n=>
    have hw0:(match E.inv id with
     | some I=>aG3 E (wpx E n) id lv _ (I s) s k Q
     | none=>wpx E n _ (Go.Proofs.YtnhechnaemmdiaaGreatDoor.clr lv s) k λe s' k'=>match e with
      | .nrm=>aCt E lv s.hp.length (id*4096+1000000000) s' λs'=>wpx E n (.loop id lv _) s' k' Q
      | e=>Q e s' k'):=hw
    split at hw0
    ·obtain⟨Is,hI⟩:=aIm hw0
     exact bPd (ihn n (by omega)) hnt hr hb hB h hX hI
    rename_i hnone
    exact wpIn_loop_rounds (n+1) (aF3 hnone h.hp.dom (n+1) s k m a w (λj hj s k Q m a w hB h hX hw=>by
     rcases cA3 j (n+1)with hlt | hge
     ·exact ihn j hlt _ B r X _ _ s k Q m a w hnt hB hr hb h hX hw
     ·have:j=n+1:=by omega
      subst this
      exact ih s k Q m a w hB h hX hw) hB h hX ((Mv.refl _ _ _).mx _) hw)
end
end Go.Proofs.YtnhechnaemmdiaaGreatDoor

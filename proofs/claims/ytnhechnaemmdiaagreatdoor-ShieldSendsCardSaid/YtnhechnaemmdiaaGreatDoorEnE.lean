/-
  The engine, part V: rounds of a range over a function; one operation.
-/
import Derived.Test.YtnhechnaemmdiaaGreatDoorEnD
import Derived.Orders
set_option linter.unusedSimpArgs false
set_option linter.unusedVariables false
namespace Go.Proofs.YtnhechnaemmdiaaGreatDoor
open Go.RowKit

section
variable {P:Program} {gl:Nat->Option HB} {nt:Nat} {B:Fb} {m:M} {s:S} {a:Act} {w:World}

theorem aFq{α β:Type}{f:α->β}:∀ {l:List α} {x y:α},(l.map f).Nodup->x∈l->y∈l->f x=f y->x=y
 | [],_,_,_,h,_,_=>by cases h
 | z::l,x,y,hn,hx,hy,e=>by
  simp only[bXu,cAm]at hn
  rcases bXd.1 hx with h1 | h1<;>rcases bXd.1 hy with h2 | h2
  ·rw[h1,h2]
  ·exact absurd (bZb.2 ⟨y,h2,by rw[←e,h1]⟩) hn.1
  ·exact absurd (bZb.2 ⟨x,h1,by rw[e,h2]⟩) hn.1
  ·exact aFq hn.2 h1 h2 e

theorem Lps.find{H:HV}{u:Nat}:∀ {X:List Ls} {l:List Lp} {p:Lp},Lps P gl m H w X l->zY u l=some p->∃x∈X,x.u=u∧Lp1 P gl m H w x p
 | [],[],p,_,h=>by cases h
 | [],_::_,_,h,_=>h.elim
 | _::_,[],_,h,_=>h.elim
 | x::X,q::l,p,h,hf=>by
  obtain⟨h1,h2⟩:=h
  simp only[zY]at hf
  cases hb:Nat.beq q.u u
  ·rw[hb,bYi]at hf
   obtain⟨y,hy,q1,q2⟩:=Lps.find h2 hf
   exact⟨y,by simp[hy],q1,q2⟩
  ·rw[hb,bXw]at hf
   cases hf
   exact⟨x,by simp,by rw[←h1.u];exact bYg hb,h1⟩

theorem Lps.mem{H:HV}{x:Ls}:∀ {X:List Ls} {l:List Lp},Lps P gl m H w X l->x∈X->∃p,Lp1 P gl m H w x p
 | [],_,_,h=>by cases h
 | _::_,[],h,_=>h.elim
 | y::X,q::l,h,hx=>by
  rcases bXd.1 hx with rfl | hx
  ·exact⟨q,h.1⟩
  ·exact Lps.mem h.2 hx

theorem Lps.setSt{H:HV}{x:Ls}{st:Lst}(hst:∀e,st=.done e->e=.ret∨∃i,e=.exit i):∀ {X:List Ls} {l:List Lp},Lps P gl m H w X l->(X.map (·.u)).Nodup->(X.map (·.l)).Nodup->x∈X →
  Lps P gl m H (w.putObj x.l (.loop (x.row st))) X (aZ6 x.u st l)
 | [],_,_,_,_,h=>by cases h
 | _::_,[],h,_,_,_=>h.elim
 | y::X,q::l,h,hu,hl,hx=>by
  obtain⟨h1,h2⟩:=h
  simp only[bXu,cAm]at hu hl
  simp only[aZ6]
  rcases bXd.1 hx with rfl | hx
  ·have hb:Nat.beq q.u x.u=true:=by rw[h1.u];exact cCd _
   rw[hb,bXw]
   refine⟨⟨h1.u,h1.lp,World.putObj_heap_same (bXa.1 h1.row).1,h1.ext,h1.dom,h1.le,h1.tm,h1.nt,h1.ps,h1.ca,h1.cb,hst⟩,Lps.putObj _ hl.1 h2⟩
  ·have hne:¬ q.u=x.u:=by
    rw[h1.u]
    intro e
    exact hu.1 (e▸bZb.2 ⟨x,hx,rfl⟩)
   have hb:Nat.beq q.u x.u=false:=by
    cases hc:Nat.beq q.u x.u with
    | false=>rfl
    | true=>exact absurd (bYg hc) hne
   have hne2:y.l≠x.l:=λe=>hl.1 (e▸bZb.2 ⟨x,hx,rfl⟩)
   rw[hb,bYi]
   refine⟨⟨h1.u,h1.lp, ?_,h1.ext,h1.dom,h1.le,h1.tm,h1.nt,h1.ps,h1.ca,h1.cb,h1.ok⟩,Lps.setSt hst h2 hu.2 hl.2 hx⟩
   rw[World.putObj_heap_other hne2]
   exact h1.row

theorem LpR.setSt{X:List Ls}{g:Gh}{H:HV}(h:LpR P gl X g m H w){x:Ls}(hx:x∈X){st:Lst}(hst:∀e,st=.done e->e=.ret∨∃i,e=.exit i):LpR P gl X (g.set x.u st) m H (w.putObj x.l (.loop (x.row st))):=
 ⟨Lps.setSt hst h.all h.us h.ls hx,h.key,h.us,h.ls⟩

theorem SR.putObj(h:SR gl nt B m s a w){k:Nat}{o0:Obj}(hk:w.heap[k]? = some o0)(ho:∀cu e fr,o0≠.cells cu e fr)(hd:∀d,o0≠.deferred d)(o:Obj)(ho2:∀es c,o0≠.map es c:=by intros;simp):SR gl nt B m s a (w.putObj k o):=by
 refine⟨h.tm,h.nt, ?_,h.hp.putObj hk ho o ho2⟩
 obtain⟨Ds,h1,h2,h3⟩:=h.df
 refine⟨Ds,h1,h2,λD hD=>⟨(h3 D hD).1, ?_⟩⟩
 rw[World.putObj_heap_other]
 ·exact(h3 D hD).2
 ·intro e
  have h4:=(h3 D hD).2
  rw[e,hk]at h4
  cases h4
  exact hd _ rfl

theorem aFs{m:M}{n:Nat}(hn:n<=4000):∀ (ps:List Nat) (args:HB) (vs:List Value) (t:T) (tmps:Array Value),(∀p∈ps,p<n)->n<=tmps.size->VRL m args vs->(∀k,VR m (t.get k) (tmps.getD k undef)) →
  (∀k,VR m ((vF t ps args).get k) (((ps.zip vs).foldl (λtmps (p:Nat×Value)=>tmps.setIfInBounds p.1 p.2) tmps).getD k undef))∧((ps.zip vs).foldl (λtmps (p:Nat×Value)=>tmps.setIfInBounds p.1 p.2) tmps).size=tmps.size
 | [],args,vs,t,tmps,_,_,_,h=>⟨λk=>by simpa[vF]using h k,by simp⟩
 | p::ps,[],vs,t,tmps,_,_,hv,h=>by
  rw[gL]at hv
  subst hv
  exact⟨λk=>by simpa[vF]using h k,by simp⟩
 | p::ps,v::args,vs,t,tmps,hp,hs,hv,h=>by
  obtain⟨cv,vs',rfl,h1,h2⟩:=bB hv
  have hpn:=hp p (by simp)
  simp only[vF,List.zip_cons_cons,cAz]
  have ih:=aFs hn ps args vs' (T.put 12 t p v) (tmps.setIfInBounds p cv) (λq hq=>hp q (by simp[hq])) (by simpa using hs) h2 λk=>by
   rw[T.get_put 12 t p v k (by omega)]
   by_cases e:k=p
   ·subst e
    rw[if_pos rfl]
    have:(tmps.setIfInBounds k cv).getD k undef=cv:=by
     have hk:k<tmps.size:=by omega
     simp[hk]
    rw[this];exact h1
   ·rw[if_neg e]
    have:(tmps.setIfInBounds p cv).getD k undef=tmps.getD k undef:=by
     simp[bZj (cCn e)]
    rw[this];exact h k
  exact⟨ih.1,by rw[ih.2];simp⟩

theorem aSm{E:Env}{rec:Rec}(hrec:zD P E rec){X:List Ls}{u l:Nat}{args:HB}{H:HV}{g:Gh}{Q:BS}{r:Option Nat}
  (h:aUm rec u args H g Q) {vs:Array Value} (hv:VRL m args vs.toList) (hH:HR E.gl m H w) (hX:LpR P E.gl X g m H w) (hl:m.lp u=some l) :
  ∃f tmps asg body,(Instr.yield l vs).run P w=.ok (.round l f tmps asg body) w∧RoundIn (Wd r) 0 P l f tmps asg body w (kK P E.gl X m H w Q):=by
 unfold aUm at h
 cases hf:zY u g.lps with
 | none=>rw[hf]at h;exact h.elim
 | some p=>
  rw[hf]at h
  simp only at h
  obtain⟨x,hx,rfl,hp⟩:=hX.all.find hf
  have hll:x.l=l:=by
   have:=hp.lp
   rw[hl]at this
   exact(cBl this).symm
  subst hll
  cases hb:(Nat.beq args.length p.ps.length&&g.isReady x.u)
  ·rw[hb]at h;exact h.elim
  rw[hb,bXw]at h
  simp only[bW3,bS]at hb
  have hlen:vs.size=x.ps.size:=by
   have h1:=hv.len
   have h2:=hb.1
   rw[hp.ps.1]at h2
   simp at h1 h2
   omega
  refine⟨x.fn,_,x.asg,x.body,run_yield hp.row hlen, ?_⟩
  have hpa:=aFs (m:=m) hp.nt.2 x.ps.toList args vs.toList p.tm x.tmps (by rw[←hp.ps.1];exact hp.ps.2) hp.nt.1 hv (λk=>VR.mono hp.ext _ _ (hp.tm k))
  have hz:((x.row p.st).params.zip vs).foldl (λtmps (t,a)=>tmps.setIfInBounds t a) (x.row p.st).tmps=(x.ps.toList.zip vs.toList).foldl (λtmps (p:Nat×Value)=>tmps.setIfInBounds p.1 p.2) x.tmps:=by
   show(x.ps.zip vs).foldl _ x.tmps=_
   rw[←Array.foldl_toList,Array.toList_zip]
  rw[hz]
  have hmem:x.l∈X.map (·.l):=bZb.2 ⟨x,hx,rfl⟩
  have hr:∀l',some x.l=some l'->l'∈X.map (·.l):=λl' e=>by cases e;exact hmem
  refine roundIn_of_wpIn trivial ?_
  have hsr:SR E.gl x.nt ⟨0,[]⟩ m ⟨vF p.tm p.ps args,H⟩ { tmps:=(x.ps.toList.zip vs.toList).foldl (λtmps (p:Nat×Value)=>tmps.setIfInBounds p.1 p.2) x.tmps,defers:=[] } w:=by
   refine⟨λk=>by rw[hp.ps.1];exact hpa.1 k,by rw[hpa.2];exact hp.nt.1,⟨[],rfl,cBa,λD hD=>by cases hD⟩,hH⟩
  refine cAw (hrec x.nt ⟨0,[]⟩ (some x.l) X x.asg p.asg _ (g.at p.f) _ m _ w hp.nt.2 (bYb _) hr hp.ca hsr (hX.step hH (Mv.refl _ _ _) rfl (bXe _)) h) λe a1 w1 hpost => ?_
  obtain⟨ae,s1,g1,m1,q1,q2,q3,q4,q5⟩:=hpost
  cases ae with
  | exit i=>exact q1.elim
  | ret=>exact q1.elim
  | pan v=>exact q1.elim
  | nrm=>
   cases e<;>simp only[ExR]at q2
   simp only at q1
   cases hrd:g1.isReady x.u
   ·rw[hrd]at q1;exact q1.elim
   rw[hrd,bXw]at q1
   -- the record is ready
   have hrow:w1.heap[x.l]? = some (.loop (x.row .ready)):=by
    unfold Gh.isReady at hrd
    split at hrd
    ·rename_i p1 hf1
     split at hrd
     ·rename_i hst
      obtain⟨y,hy,hyu,hp1⟩:=q4.all.find hf1
      have hyx:y=x:=aFq q4.us hy hx hyu
      subst hyx
      have:=hp1.row
      rw[hst]at this
      exact this
     ·cases hrd
    ·cases hrd
   refine⟨_,run_beginRound hrow rfl, ?_⟩
   have q3':=q3.putObj hrow (by intros;simp) (by intros;simp) (.loop (x.row .busy))
   have q4':=q4.setSt hx (st:=.busy) (λe he=>by cases he)
   have q5':=q5.putObj (.inl hmem) (.loop (x.row .busy))
   refine cAw (hrec x.nt ⟨0,[]⟩ (some x.l) X x.body p.body s1 (g1.set x.u .busy) _ m1 a1 _ hp.nt.2 (bYb _) hr hp.cb q3' q4' q1) λe a2 w2 hpost => ?_
   obtain⟨ae,s2,g2,m2,r1,r2,r3,r4,r5⟩:=hpost
   obtain⟨p2,hp2⟩:=r4.all.mem hx
   have fin:∀ (st:Lst) (b:Bool),(∀e,st=.done e->e=.ret∨∃i,e=.exit i)->Q (.ret (.bool b)) s2.hp ((g2.at g.f).set x.u st)->kK P E.gl X m H w Q (.returned (.bool b)) (w2.putObj x.l (.loop (x.row st))):=by
    intro st b hst hq
    exact⟨_,_,_,m2,hq,by simp[aIk,VR],r3.hp.putObj hp2.row (by intros;simp) _,(show LpR P E.gl X (g2.at g.f) m2 s2.hp w2 from⟨r4.all,r4.key,r4.us,r4.ls⟩).setSt hx hst,(q5'.trans r5).putObj (.inl hmem) _⟩
   cases ae with
   | nrm=>
    cases e<;>simp only[ExR]at r2
    exact⟨_,_,run_endRound none hp2.row,fin .ready true (λe he=>by cases he) r1⟩
   | ret=>
    cases e<;>simp only[ExR]at r2
    exact⟨_,_,run_endRound (some .ret) hp2.row,fin (.done .ret) false (λe he=>by cases he;exact .inl rfl) r1⟩
   | exit i=>
    cases e<;>simp only[ExR]at r2
    subst r2
    exact⟨_,_,run_endRound (some (.exit i)) hp2.row,fin (.done (.exit i)) false (λe he=>by cases he;exact .inr ⟨i,rfl⟩) r1⟩
   | pan v=>exact r1.elim

theorem iD{r:Option Nat}{o:Oper}{ρ:Operand->Value}(h:∀c,o.op≠.defer c):Oper.semAt r ρ o=execOp ρ o:=Oper.semAt_eq r ρ o h

theorem kJ {op : Op} {c : Call} (h : op = .defer c) : cOp P op = .bad "op" := by subst h; rfl

theorem bL7{E:Env}(hE:EnvOk P E){rec:Rec}(hrec:zD P E rec){X:List Ls}{r:Option Nat}{ev:AO->AV}{H:HV}(hH:HR E.gl m H w)(hρ:∀x,VR m (ev (cO x)) (a.eval x))(hev:∀v,ev (.c v)=v){o:Oper}
  {next:Act->World->Prop} {QQ:Exit->Act->World->Prop} :
  (∀ (k:Nat) (K:AV->HV->Prop),bIs E ev H k (cOp P o.op) K->(∀m' w' av H' v,K av H'->HR E.gl m' H' w'->Mv m H w m' H' w'->VR m' av v->next (a.put o.dst v) w')->o.wpIn (Wd r) 0 P a w next QQ) ∧
  (∀ (f:AO) (args:List AO) (g:Gh) (K:BS),LpR P E.gl X g m H w->cOp P o.op=.call f args->aQv E rec (ev f) (args.map ev) H g K →
   (∀m' w' ov H' g',K ov H' g'->HR E.gl m' H' w'->LpR P E.gl X g' m' H' w'->Mx (X.map (·.l)) m H w m' H' w'->(∀av v,ov=.ret av->VR m' av v->next (a.put o.dst v) w')∧(∀av v,ov=.pan av->VR m' av v->QQ (.panic [{ v:=v,recovered:=false }]) a w'))->o.wpIn (Wd r) 0 P a w next QQ):=by
 refine⟨λk K hK hn => ?_,λf args g K hX hc hx hn => ?_⟩
 ·have hnd:∀c,o.op≠.defer c:=λc hc=>by rw[kJ hc]at hK;exact hK.elim
  obtain⟨av,H',v,w',m',q1,q2,q3,q4,q5⟩:=bHt (P:=P) hH hρ o hK
  have:=hn m' w' av H' v q1 q4 q5 q3
  unfold Oper.wpIn
  refine⟨λ_ _=>trivial, ?_⟩
  rw[iD hnd]
  rcases q2 with hrun | ⟨hrun,rfl⟩
  ·rw[hrun,cAn];exact this
  ·rw[hrun,Oper.uponIn_skip];exact this
 ·rcases aZz hc with ⟨cf,cargs,ts,ho,rfl,rfl⟩ | ⟨x,ho,rfl,rfl⟩
  rotate_left
  ·have hnd:∀c,o.op≠.defer c:=λc hc=>by rw[ho]at hc;cases hc
   have hxr:=hρ x
   rw[hev]at hx
   simp only[aQv,bXu,cBt]at hx
   cases he:ev (cO x)<;>simp only[he]at hx hxr<;>try exact hx.elim
   rename_i t v
   obtain⟨y,e1,e2⟩:∃y,a.eval x=.iface t y∧VR m v y:=by simpa only[VR]using hxr
   have hrun:(execOp a.eval o).run P w=.halt (.panic (.iface t y)) w:=by
    simp[execOp,ho,Instr.panic,e1,goPanic]
   unfold Oper.wpIn
   refine⟨λ_ _=>trivial, ?_⟩
   rw[iD hnd,hrun,Oper.uponIn_panic]
   exact(hn m w (.pan (.iface t v)) H g hx hH hX ((Mv.refl m H w).mx _)).2 (.iface t v) (.iface t y) rfl (by simp only[VR];exact⟨y,rfl,e2⟩)
  have hnd:∀c,o.op≠.defer c:=λc hc=>by rw[ho]at hc;cases hc
  have hcf:=hρ cf
  have fin:∀e w',kK P E.gl X m H w K e w'->(match e,w' with
    | .returned v,w''=>next (a.put o.dst v) w''
    | .panicked chain,w''=>QQ (.panic chain) a w''
    | .outgrown,_=>LetsOut QQ):=by
   intro e w' hp
   obtain⟨ov,H',g',m',q1,q2,q3,q4,q5⟩:=hp
   obtain⟨n1,n2⟩:=hn m' w' ov H' g' q1 q3 q4 q5
   cases ov with
   | ret av=>
    cases e<;>simp only[aIk]at q2
    exact n1 av _ rfl q2
   | pan av=>
    cases e<;>simp only[aIk]at q2
    obtain⟨cv,rfl,hcv⟩:=q2
    exact n2 av cv rfl hcv
  have hargs0:VRL m ((cargs.toList.map cO).map ev) (cargs.map a.eval).toList:=by
   simp only[cCq]
   exact aFr hρ _
  unfold aQv at hx
  unfold Oper.wpIn
  refine⟨λ_ _=>trivial, ?_⟩
  rw[iD hnd]
  split at hx
  ·rename_i fid x y hf
   rw[hf]at hcf
   simp only[VR]at hcf
   obtain⟨x',y',e1,e2,e3⟩:=hcf
   have hargs:VRL m (x++(cargs.toList.map cO).map ev++y) (x'++cargs.map a.eval++y').toList:=by
    simp only[cB8]
    exact(e2.append hargs0).append e3
   obtain⟨hen,hcalls⟩:=aCk hE hrec hx hargs hH hX
   rw[aNe ho e1 hen,Oper.uponIn_enter]
   exact⟨λh=>(by cases h),(callsIn_wide (n:=0-1).2 hcalls).mono λe w' hp=>fin e w' hp⟩
  ·rename_i u hf
   rw[hf]at hcf
   simp only[VR]at hcf
   obtain⟨l,hl,hv⟩:=hcf
   obtain⟨f,tmps,asg,body,hrun,hround⟩:=aSm hrec (r:=r) hx hargs0 hH hX hl
   have hex:(execOp a.eval o).run P w=.ok (.round l f tmps asg body) w:=by
    simp[execOp,ho,resolve,hv,Deferred.ofValue,invoke,hrun]
   rw[hex,Oper.uponIn_round]
   exact⟨λh=>(by cases h),hround.mono λe w' hp=>fin e w' hp⟩
  ·rename_i hf
   rw[hf]at hcf
   simp only[VR]at hcf
   exact absurd hcf.2.1 (by simp)
  ·cases hx

theorem aX9{E:Env}(h:SR E.gl nt B m s a w){r0:Option Nat}{o:Oper}{next:Act->World->Prop}{QQ:Exit->Act->World->Prop}(r:LR)(hr:lop E.gl s.ev (cur s.hp) (aR s.hp) s.hp.length (cOp P o.op)=some r)(hp:r.pre=true)
  (hn:∀m' w' v,SR E.gl nt B m' ⟨s.tm,s.hp++r.nb.toList⟩ a w'->Mv m s.hp w m' (s.hp++r.nb.toList) w'->VR m' r.v v->next (a.put o.dst v) w'):o.wpIn (Wd r0) 0 P a w next QQ:=by
 have hnd:∀c,o.op≠.defer c:=λc hc=>by rw[kJ hc]at hr;cases hr
 have hl:=aSr (P:=P) h.hp h.ops (λv=>rfl) o s.hp.length hr hp
 unfold Oper.wpIn
 refine⟨λ_ _=>trivial, ?_⟩
 rw[iD hnd]
 rcases hl with ⟨hnb,v,hrun,hv⟩ | ⟨nb,v,w',I,hnb,hrun,hN,hv⟩
 ·rw[hrun,cAn]
  refine hn m w v ?_ ?_ hv
  ·rw[hnb];simpa using h
  ·rw[hnb];simpa using Mv.refl m s.hp w
 ·rw[hrun,cAn]
  obtain⟨q1,q2⟩:=h.hp.new hN
  refine hn (m.set s.hp.length I) w' v ?_ ?_ (hv _ (M.set_same _ _ _))
  ·rw[hnb];exact h.step q2 q1
  ·rw[hnb];exact q2

theorem HR.newF{H:HV}{w':World}(hH:HR gl m H w){I:Inf}{nb:Blk}(hN:NewB m nb I w w')(hY:bX nb.cs=true)(hlf:nb.lf=true) :
  ∃m2,HR gl m2 H w'∧Mv m H w m2 H w'∧∀ (len sz:Nat) (v:Value),VR (m.set H.length I) (.sl H.length nb.cs.length 0 len sz) v->len*sz=nb.cs.length->VR m2 (.lst 0 nb.cs len sz) v:=by
 obtain⟨cu,e,lo,hi,hh,h1,h2,h3,h4,h5,h6⟩:=hN.row
 have hkeep:∀j,j<w.heap.size->w'.heap[j]? = w.heap[j]? := λj hj=>by rw[hh,Array.getElem?_push,if_neg (by omega)]
 have hnew:w'.heap[I.b]? = some (.cells cu e (lo,hi)):=by rw[hh,hN.b];simp
 have hnf:∀t cs,m.frz t I.b=some cs->False:=λt cs hf=>by
  obtain⟨_,_,_,h,_⟩:=hH.frz t _ cs hf
  have:=(bXa.1 h).1
  rw[hN.b]at this
  omega
 have hlt:∀id J,m.blk id=some J->J.b<w.heap.size:=λid J h=>by
  have hd:=hH.dom id J h
  obtain⟨_,q1,_⟩:=(hH.blk id J H[id] h (bW8 hd)).obj
  exact(bXa.1 q1).1
 obtain⟨m2,hm2⟩:∃m2:M,m2=⟨m.blk,m.opq,m.lp,λt b=>if t=0∧b=I.b then some (cu.toList.take I.tot)else m.frz t b⟩:=⟨_,rfl⟩
 have hext:Ext m m2:=by
  subst hm2
  refine⟨λ_ J h=>⟨J,h,bXe _,λ_=>rfl⟩,rfl,λ_ _ h=>h,λt b cs h => ?_⟩
  simp only
  rw[if_neg]
  ·exact h
  ·rintro⟨_,rfl⟩;exact hnf t cs h
 have hlen:(cu.toList.take I.tot).length=I.tot:=by simp;omega
 refine⟨m2,⟨λid J h=>hH.dom id J (by subst hm2;exact h),λid J b h hb => ?_,λi j J K b a1 a2=>hH.inj i j J K b (by subst hm2;exact a1) (by subst hm2;exact a2),λg cs hg => ?_,hH.gld,λt k cs hf => ?_,λt k cs id J b hf a1 a2 a3 => ?_,λg cs id J b a1 a2=>hH.gow g cs id J b a1 (by subst hm2;exact a2)⟩,
  ⟨⟨hext,hN.os,hN.tape,hN.output,by rw[hh];simp,λk hk _=>hkeep k hk,λk hk=>.inr ?_,λu l h=>by subst hm2;exact h,λt k cs hf => ?_⟩,bXe _,λid _ h=>by subst hm2;exact h⟩,λlen sz v hv hl => ?_⟩
 ·have h':m.blk id=some J:=by subst hm2;exact h
  exact(hH.blk id J b h' hb).mono hext (hkeep _ (hlt id J h'))
 ·obtain⟨cu',e',fr',q1,q2⟩:=hH.glb g cs hg
  exact⟨cu',e',fr',(hkeep g (bXa.1 q1).1).trans q1,VRL.mono hext _ _ q2⟩
 ·subst hm2
  simp only at hf
  split at hf
  ·rename_i hc
   cases hf
   rw[hc.2]
   exact⟨cu,e,_,hnew,by rw[hlen]⟩
  ·obtain⟨cu',e',fr',q1,q2⟩:=hH.frz t k cs hf
   exact⟨cu',e',fr',(hkeep k (bXa.1 q1).1).trans q1,q2⟩
 ·have a1':m.blk id=some J:=by subst hm2;exact a1
  subst hm2
  simp only at hf
  split at hf
  ·rename_i hc
   rw[hc.2,hN.b]
   have:=hlt id J a1'
   omega
  ·exact hH.fow t k cs id J b hf a1' a2 a3
 ·obtain⟨id,J,b,b1,b2⟩:=hk
  exact⟨id,J,b,by subst hm2;exact b1,b2⟩
 ·subst hm2
  simp only at hf
  split at hf
  ·rename_i hc
   exact .inr (.inl (by rw[hc.2,hN.b];exact bXe _))
  ·exact .inl hf
 ·simp only[VR]at hv ⊢
  obtain⟨v1,J,v2,v3,v4⟩:=hv
  rw[M.set_same]at v2
  cases v2
  obtain⟨o,cap,rfl,v5,v6⟩:=v4 hN.tot.symm
  refine⟨v1,hl.symm,some ⟨I.b,o,none⟩,cap,rfl,v5, ?_⟩
  rcases v6 with ⟨v6,_⟩ | ⟨v6,v7⟩
  ·left
   rw[hN.d]at v6
   obtain rfl:o=0:=by omega
   refine⟨⟨I.b,0,none⟩,cu.toList.take I.tot,rfl,rfl,by subst hm2;simp[M.strip],by rw[hlen,hN.tot];simp, ?_⟩
   rw[bXl,bW4 (by rw[hlen,hN.tot];exact bXe _)]
   exact VRL.flat (m:=m) (m':=m2.strip) (by subst hm2;rfl) hext.strip _ _ (hN.lf hlf) hY h6
  ·right
   subst v6
   refine⟨rfl,bXo (by omega),λh=>by cases h⟩

theorem aP4{E:Env}(h:SR E.gl nt B m s a w){r0:Option Nat}{o:Oper}{next:Act->World->Prop}{QQ:Exit->Act->World->Prop}(r:LR)(hr:lop E.gl s.ev (cur s.hp) (aR s.hp) s.hp.length (cOp P o.op)=some r)(hp:r.pre=true){K:AV->Prop}
  (hf:bU6 s.hp.length r.v r.nb K) (hn:∀m' w' av v,K av->SR E.gl nt B m' s a w'->Mv m s.hp w m' s.hp w'->VR m' av v->next (a.put o.dst v) w'):o.wpIn (Wd r0) 0 P a w next QQ:=by
 have hnd:∀c,o.op≠.defer c:=λc hc=>by rw[kJ hc]at hr;cases hr
 have hl:=aSr (P:=P) h.hp h.ops (λv=>rfl) o s.hp.length hr hp
 unfold Oper.wpIn
 refine⟨λ_ _=>trivial, ?_⟩
 rw[iD hnd]
 unfold bU6 at hf
 split at hf
 ·rename_i id tot off len sz nb hv hnb
  cases hc:(Nat.beq id s.hp.length&&Nat.beq off 0&&Nat.beq tot nb.cs.length&&Nat.beq (len*sz) tot&&nb.lf&&bX nb.cs)
  ·rw[hc]at hf;exact hf.elim
  ·rw[hc,bXw]at hf
   simp only[bW3,bS]at hc
   obtain⟨⟨⟨⟨⟨rfl,rfl⟩,rfl⟩,c4⟩,c5⟩,c6⟩:=hc
   rcases hl with ⟨hnb',_⟩ | ⟨nb',v,w',I,hnb',hrun,hN,hvv⟩
   ·rw[hnb]at hnb';cases hnb'
   ·rw[hnb]at hnb'
    cases hnb'
    rw[hrun,cAn]
    obtain⟨m2,q1,q2,q3⟩:=h.hp.newF hN c6 c5
    have:=hvv (m.set s.hp.length I) (M.set_same _ _ _)
    rw[hv]at this
    exact hn m2 w' _ v hf (h.step q2 q1) q2 (q3 _ _ _ this c4)
 ·exact hf.elim

theorem aKn{E:Env}(hE:EnvOk P E){rec:Rec}(hrec:zD P E rec)(hnt:nt<=4000)(ops:Array Oper){X:List Ls}{r0:Option Nat}{m0:M}{H0:HV}{w0:World}{Q:Ex->S->Gh->Prop}{QQ:Exit->Act->World->Prop}{tail:List Oper}
  (hpan:∀v s g m a w,Q (.pan v) s g->SR E.gl nt B m s a w->LpR P E.gl X g m s.hp w->Mx (X.map (·.l)) m0 H0 w0 m s.hp w->∀cv,VR m v cv->QQ (.panic [{ v:=cv,recovered:=false }]) a w)
  (htail:∀s g m a w,Q .nrm s g->SR E.gl nt B m s a w->LpR P E.gl X g m s.hp w->Mx (X.map (·.l)) m0 H0 w0 m s.hp w->wpListIn (Wd r0) 0 P ops QQ tail a w) :
  ∀ (l:List Oper) (s:S) (g:Gh) (m:M) (a:Act) (w:World),SR E.gl nt B m s a w->LpR P E.gl X g m s.hp w->Mx (X.map (·.l)) m0 H0 w0 m s.hp w->aWb E rec (l.map (mO P nt ops)) s g Q->wpListIn (Wd r0) 0 P ops QQ (l++tail) a w
 | [],s,g,m,a,w,h,hX,hmv,hr=>htail s g m a w hr h hX hmv
 | o::l,s,g,m,a,w,h,hX,hmv,hr=>by
  simp only[bXu,aWb]at hr
  have ih:=λs g m a w=>aKn hE hrec hnt ops (X:=X) (r0:=r0) (m0:=m0) (H0:=H0) (w0:=w0) (Q:=Q) hpan htail l s g m a w
  rw[bX0]
  rcases nV P nt ops o with ⟨why,hbad⟩ | ⟨hd,c1,c2,c3⟩
  ·rw[hbad]at hr
   simp[gd,lop,bIs,hop]at hr
  ·rw[c1,c2]at hr
   cases hg:gd s (mO P nt ops o).guard with
   | none=>rw[hg]at hr;cases hr
   | some t=>
    rw[hg]at hr
    have hw:=aLw h c3 hg
    refine wpListIn_step λK hK => ?_
    rw[hw]
    cases t with
    | false=>
     simp only at hr
     simp only[bY5,cBj]
     refine⟨λ_ _=>trivial,hK _ _ (ih _ _ m _ w (h.put (by simp[VR,undef]) hd hnt) ?_ ?_ hr)⟩
     ·have:=hX.step (g':=g) h.hp (Mv.refl _ _ _) rfl (bXe _)
      cases o.dst<;>exact this
     ·cases o.dst<;>exact hmv
    | true=>
     simp only at hr
     simp only[cBu]
     obtain⟨o2,o3⟩:=bL7 hE hrec (X:=X) (r:=r0) h.hp h.ops (λ_=>rfl) (o:=o) (next:=K) (QQ:=QQ)
     split at hr
     ·rename_i f args hop
      refine o3 f args g _ hX hop hr λm' w' ov H' g' hq hH' hX' hmv'=>⟨λav v e hv => ?_,λav v e hv => ?_⟩
      ·subst e
       have hs':=h.stepx hX hmv' hH'
       refine hK _ _ (ih _ _ m' _ w' (hs'.put hv hd hnt) ?_ ?_ (qD hq))
       ·cases o.dst<;>exact hX'
       ·have:=hmv.trans hmv'
        cases o.dst<;>exact this
      ·subst e
       exact hpan av _ g' m' a w' hq (h.stepx hX hmv' hH') hX' (hmv.trans hmv') v hv
     ·rename_i hne
      split at hr
      ·rename_i r hl
       obtain⟨hp,hr⟩:=nN hr
       cases hz:E.hz (g.key o.dst)with
       | true=>
        rw[hz,bXw]at hr
        refine aP4 h r hl hp hr λm' w' av v hr' hs' hmv' hv => ?_
        refine hK _ _ (ih _ _ m' _ w' (hs'.put hv hd hnt) ?_ ?_ hr')
        ·have:=hX.step (g':=g) h.hp hmv' rfl (bXe _)
         cases o.dst<;>exact this
        ·have:=hmv.trans (hmv'.mx _)
         cases o.dst<;>exact this
       | false=>
       rw[hz,bYi]at hr
       refine aX9 h r hl hp λm' w' v hs' hmv' hv => ?_
       refine hK _ _ (ih _ _ m' _ w' (hs'.put hv hd hnt) ?_ ?_ (qD hr))
       ·have:=hX.step (g':=g) h.hp hmv' rfl (bXe _)
        cases o.dst<;>exact this
       ·have:=hmv.trans (hmv'.mx _)
        cases o.dst<;>exact this
      ·refine o2 _ _ hr λm' w' av H' v hq hH' hmv' hv => ?_
       cases hz:E.hz (g.key o.dst)with
       | true=>
        rw[hz,bXw]at hq
        obtain⟨s2,m2,k1,k2,k3,k4⟩:=bHe h hX hd hnt hmv' hH' hv rfl hq
        exact hK _ _ (ih s2 _ m2 _ w' k2 k3 (hmv.trans k4) k1)
       | false=>
       rw[hz,bYi]at hq
       have hs':=h.step hmv' hH'
       refine hK _ _ (ih _ _ m' _ w' (hs'.put hv hd hnt) ?_ ?_ (qD hq))
       ·have:=hX.step (g':=g) h.hp hmv' rfl (bXe _)
        cases o.dst<;>exact this
       ·have:=hmv.trans (hmv'.mx _)
        cases o.dst<;>exact this
theorem bHs{E:Env}(hE:EnvOk P E){rec:Rec}(hrec:zD P E rec)(hnt:nt<=4000)(ops:Array Oper){X:List Ls}{r0:Option Nat}{m0:M}{H0:HV}{w0:World}{Q:Ex->S->Gh->Prop}
  (l:List Oper) (s:S) (g:Gh) (m:M) (a:Act) (w:World) (h:SR E.gl nt B m s a w) (hX:LpR P E.gl X g m s.hp w) (hm:Mx (X.map (·.l)) m0 H0 w0 m s.hp w) (hr:aWb E rec (l.map (mO P nt ops)) s g Q):wpListIn (Wd r0) 0 P ops (Post P E.gl nt B X m0 H0 w0 Q) l a w:=by
 have:=aKn hE hrec hnt ops (X:=X) (r0:=r0) (m0:=m0) (H0:=H0) (w0:=w0) (Q:=Q) (QQ:=Post P E.gl nt B X m0 H0 w0 Q) (tail:=[])
  (λv s g m a w hq h hX hm cv hv=>⟨.pan v,s,g,m,hq,⟨cv,rfl,hv⟩,h,hX,hm⟩) (λs g m a w hq h hX hm=>⟨.nrm,s,g,m,hq,trivial,h,hX,hm⟩) l s g m a w h hX hm hr
 rwa[bXs]at this
end
end Go.Proofs.YtnhechnaemmdiaaGreatDoor

namespace Go.Proofs.YtnhechnaemmdiaaGreatDoor
open Go.RowKit

mutual
theorem aTj:∀ (a b:AV),iC a b=true->a=b
 | .undef,b,h=>by cases b<;>simp[iC]at h;rfl
 | .opq i,b,h=>by cases b<;>simp[iC]at h;rw[h]
 | .bool x,b,h=>by cases b<;>simp[iC]at h;rw[h]
 | .int k n,b,h=>by cases b<;>simp[iC]at h;rw[h.1,h.2]
 | .str s,b,h=>by cases b<;>simp[iC,jG]at h;rw[h]
 | .nilp,b,h=>by cases b<;>simp[iC]at h;rfl
 | .ptr x y z,b,h=>by cases b<;>simp[iC]at h;rw[h.1.1,h.1.2,h.2]
 | .gptr x y,b,h=>by cases b<;>simp[iC]at h;rw[h.1,h.2]
 | .nils,b,h=>by cases b<;>simp[iC]at h;rfl
 | .sl x y z u v,b,h=>by cases b<;>simp[iC]at h;rw[h.1.1.1.1,h.1.1.1.2,h.1.1.2,h.1.2,h.2]
 | .nilf,b,h=>by cases b<;>simp[iC]at h;rfl
 | .fn f x y,b,h=>by
  cases b<;>simp[iC]at h
  rw[h.1.1,gZ x _ h.1.2,gZ y _ h.2]
 | .yld u,b,h=>by cases b<;>simp[iC]at h;rw[h]
 | .nili,b,h=>by cases b<;>simp[iC]at h;rfl
 | .iface t v,b,h=>by
  cases b<;>simp[iC]at h
  rw[h.1,aTj v _ h.2]
 | .agg l,b,h=>by
  cases b<;>simp[iC]at h
  rw[gZ l _ h]
 | .tup l,b,h=>by
  cases b<;>simp[iC]at h
  rw[gZ l _ h]
 | .lst t l n z,b,h=>by
  cases b<;>simp[iC]at h
  rw[h.1.1.1,gZ l _ h.1.1.2,h.1.2,h.2]
 | .mpn,b,h=>by cases b<;>simp[iC]at h;rfl
 | .mp x,b,h=>by cases b<;>simp[iC]at h;rw[h]
 | .lptr t l o,b,h=>by
  cases b<;>simp[iC]at h
  rw[h.1.1,gZ l _ h.1.2,h.2]
theorem gZ:∀ (a b:HB),dE a b=true->a=b
 | [],b,h=>by cases b<;>simp[dE]at h;rfl
 | x::a,b,h=>by
  cases b with
  | nil=>simp[dE]at h
  | cons y b=>
   simp only[dE,bW3]at h
   rw[aTj x y h.1,gZ a b h.2]
end

theorem aY6{a b:Option Blk}(h:aYn a b=true):a=b:=by
 cases a<;>cases b<;>simp[aYn]at h
 ·rfl
 ·rename_i x y
  obtain⟨k,lf,cs⟩:=x
  obtain⟨k',lf',cs'⟩:=y
  simp only at h
  rw[h.1.1,h.1.2,gZ _ _ h.2]

theorem bG9{H H':HV}{id:Nat}(h:lC H id=lC H' id)(tot:Nat):cur H id tot=cur H' id tot:=by
 unfold lC at h
 unfold cur
 cases h1:H[id]?<;>cases h2:H'[id]?<;>simp only[h1,h2]at h ⊢
 ·cases h
 ·cases h
 ·rename_i x y
  simp only[bW5]at h
  cases hx:isMap x<;>cases hy:isMap y<;>simp only[hx,hy,bXw,bYi,Bool.not_true,Bool.not_false,bX7,bZi]at h ⊢
  ·rw[show x.cs.length=y.cs.length by omega]
  ·omega
  ·omega

theorem rU{cu cu':Nat->Nat->Bool}:∀ {c:List (Nat×Nat)},(∀p∈c,∀tot,cu p.1 tot=cu' p.1 tot)->fB cu c=fB cu' c
 | [],_=>rfl
 | (a,b)::c,h=>by
  simp only[fB]
  rw[h (a,b) (by simp) b,rU λp hp=>h p (by simp[hp])]

theorem aAs{gl:Nat->Option HB}{ev:AO->AV}{cu:Nat->Nat->Bool}{ca:Nat->Nat->Nat->HB}{nid:Nat}{st:Option IntKind}{a i:AO}{z:AV}{r:LR}(h:lop gl ev cu ca nid (.mpget st a i z)=some r) :
  (∃id c,ev a=.mp id∧ca id 0 2=[.tup c]∧r = { v:=(rV st (ev i) z c).getD .undef,pre := !cu id 1&&(isK st (ev i)&&(rV st (ev i) z c).isSome),rd:=[⟨id,0,2⟩] })∨(ev a=.mpn∧r = { v:=z,pre:=isK st (ev i) }):=by
 simp only[lop]at h
 split at h
 ·rename_i id he
  split at h
  ·rename_i c hc
   simp only[bW5]at h
   exact .inl ⟨id,c,he,hc,h.symm⟩
  ·cases h
 ·rename_i he
  simp only[bW5]at h
  exact .inr ⟨he,h.symm⟩
 ·cases h

theorem aTi{gl:Nat->Option HB}{ev:AO->AV}{cu cu':Nat->Nat->Bool}{ca ca':Nat->Nat->Nat->HB}{nid:Nat}{op:AOp}{r:LR}(h:lop gl ev cu ca nid op=some r)
  (hrd:∀x∈r.rd,(∀tot,cu x.id tot=cu' x.id tot)∧ca x.id x.off x.size=ca' x.id x.off x.size):lop gl ev cu' ca' nid op=some r:=by
 cases op<;>try exact h
 case ld agg n a=>
  simp only[lop]at h ⊢
  cases he:ev a<;>simp only[he]at h ⊢<;>try exact h
  cases agg<;>simp only[bXw,bYi,bW5]at h ⊢<;>subst h
  ·obtain⟨h1,h2⟩:=hrd _ (bXp.2 rfl)
   simp only at h1 h2
   rw[h1,h2]
  ·obtain⟨h1,h2⟩:=hrd _ (bXp.2 rfl)
   simp only at h1 h2
   rw[h1,h2]
 case nilck a=>
  simp only[lop]at h ⊢
  cases he:ev a<;>simp only[he]at h ⊢<;>first
   | exact h
   | (rename_i f x y;cases f<;>exact h)
   | (cases h;rw[(hrd _ (bXp.2 rfl)).1])
 case bin op sh x y=>
  simp only[lop]at h ⊢
  cases hb:binop op sh (ev x) (ev y)with
  | none=>rw[hb]at h;cases h
  | some p=>
   obtain⟨b,c,v⟩:=p
   rw[hb]at h
   simp only[bW5]at h ⊢
   subst h
   rw[rU (cu:=cu) (cu':=cu') λp hp=>(hrd _ (bZb.2 ⟨p,hp,rfl⟩)).1]
 case conv k a=>
  simp only[lop]at h ⊢
  cases k<;>cases he:ev a<;>simp only[he]at h ⊢<;>try exact h
  simp only[bW5]at h ⊢
  subst h
  obtain⟨h1,h2⟩:=hrd _ (bXp.2 rfl)
  simp only at h1 h2
  rw[h1,h2]
 case slL n a lo hi=>
  simp only[lop]at h ⊢
  cases he:ev a<;>simp only[he]at h ⊢<;>try exact h
  generalize lS _ _=q at h ⊢
  cases q with
  | none=>exact h
  | some q=>
   obtain⟨q1,q2,q3⟩:=q
   simp only[bW5]at h ⊢
   subst h
   rw[(hrd _ (bXp.2 rfl)).1]
 case slA k n a lo hi=>
  simp only[lop]at h ⊢
  cases he:ev a<;>simp only[he]at h ⊢<;>try exact h
  generalize lS _ _=q at h ⊢
  cases q with
  | none=>exact h
  | some q=>
   obtain⟨q1,q2,q3⟩:=q
   simp only[bW5]at h ⊢
   subst h
   rw[(hrd _ (bXp.2 rfl)).1]
 case fa n a=>
  simp only[lop]at h ⊢
  cases he:ev a<;>simp only[he]at h ⊢<;>try exact h
  cases h
  rw[(hrd _ (bXp.2 rfl)).1]
 case iaA k n a i=>
  simp only[lop]at h ⊢
  cases he:ev a<;>cases hi:vE (ev i)<;>simp only[he,hi]at h ⊢<;>try exact h
  cases h
  rw[(hrd _ (bXp.2 rfl)).1]
 case iaL n a i=>
  simp only[lop]at h ⊢
  cases he:ev a<;>cases hi:vE (ev i)<;>simp only[he,hi]at h ⊢<;>try exact h
  cases h
  rw[(hrd _ (bXp.2 rfl)).1]
 case lenL a=>
  simp only[lop]at h ⊢
  cases he:ev a<;>simp only[he]at h ⊢<;>try exact h
  cases h
  rw[(hrd _ (bXp.2 rfl)).1]
 case s2a n a=>
  simp only[lop]at h ⊢
  cases he:ev a<;>simp only[he]at h ⊢<;>try exact h
  cases h
  rw[(hrd _ (bXp.2 rfl)).1]
 case mpget st a i z=>
  rcases aAs h with ⟨id,c,he,hc,rfl⟩ | ⟨he,rfl⟩
  ·obtain⟨h1,h2⟩:=hrd _ (bXp.2 rfl)
   simp only at h1 h2
   simp only[lop,he,←h2,hc,h1]
  ·simp only[lop,he]

theorem bLz{gl:Nat->Option HB}{ev:AO->AV}{cu:Nat->Nat->Bool}{ca:Nat->Nat->Nat->HB}{nid:Nat}{op:AOp}{r:LR}(h:lop gl ev cu ca nid op=some r)(hp:r.pre=true):∀x∈r.rd,(∃tot,cu x.id tot=true)∨ca x.id x.off x.size≠[]:=by
 have one:∀ (y:Rdc) (tot:Nat),r.rd=[y]->cu y.id tot=true->∀x∈r.rd,(∃tot,cu x.id tot=true)∨ca x.id x.off x.size≠[]:=by
  intro y tot h1 h2 x hx
  rw[h1,bXp]at hx
  subst hx
  exact .inl ⟨tot,h2⟩
 have nil:r.rd=[]->∀x∈r.rd,(∃tot,cu x.id tot=true)∨ca x.id x.off x.size≠[]:=by
  intro h1 x hx
  rw[h1]at hx
  cases hx
 cases op
 case ld agg n a=>
  simp only[lop]at h
  cases he:ev a<;>simp only[he]at h<;>try(cases h;done)
  ·cases agg<;>simp only[bXw,bYi,bW5]at h<;>subst h<;>simp only[bW3]at hp
   ·exact one _ _ rfl hp.1
   ·exact one _ _ rfl hp.1
  ·split at h
   ·cases agg<;>simp only[bXw,bYi,bW5]at h<;>subst h<;>exact nil rfl
   ·cases h
  ·cases agg<;>simp only[bXw,bYi,bW5]at h<;>subst h<;>exact nil rfl
 case nilck a=>
  simp only[lop]at h
  cases he:ev a<;>simp only[he]at h<;>try(cases h;done)
  all_goals first
   | (cases h;exact one _ _ rfl hp)
   | (cases h;exact nil rfl)
   | (rename_i f x y;cases f<;>simp only at h<;>first | (cases h;done) | (cases h;exact nil rfl))
 case bin op sh x y=>
  simp only[lop]at h
  cases hb:binop op sh (ev x) (ev y)with
  | none=>rw[hb]at h;cases h
  | some p=>
   obtain⟨b,c,v⟩:=p
   rw[hb]at h
   simp only[bW5]at h
   subst h
   simp only[bW3]at hp
   intro z hz
   simp only[bZb]at hz
   obtain⟨q,hq,rfl⟩:=hz
   exact .inl ⟨q.2,zT hp.2 q hq⟩
 case conv k a=>
  simp only[lop]at h
  cases k<;>cases he:ev a<;>simp only[he]at h<;>first
   | (cases h;done)
   | (simp only[bW5]at h;subst h;exact nil rfl)
   | (simp only[bW5]at h;subst h;simp only[bW3]at hp;exact one _ _ rfl hp.1.1.1)
 case slL n a lo hi=>
  simp only[lop]at h
  cases he:ev a<;>simp only[he]at h<;>try(cases h;done)
  all_goals
   generalize lS _ _=q at h
   cases q with
   | none=>cases h
   | some q=>
    obtain⟨q1,q2,q3⟩:=q
    simp only[bW5]at h
    subst h
    first
     | exact nil rfl
     | (simp only[bW3]at hp;exact one _ _ rfl hp.1.2)
 case slA k n a lo hi=>
  simp only[lop]at h
  cases he:ev a<;>simp only[he]at h<;>try(cases h;done)
  generalize lS _ _=q at h
  cases q with
  | none=>cases h
  | some q=>
   obtain⟨q1,q2,q3⟩:=q
   simp only[bW5]at h
   subst h
   simp only[bW3]at hp
   exact one _ _ rfl hp.1.2
 case fa n a=>
  simp only[lop]at h
  cases he:ev a<;>simp only[he]at h<;>try(cases h;done)
  ·cases h;exact one _ _ rfl hp
  ·cases h;exact nil rfl
  ·cases h;exact nil rfl
 case iaA k n a i=>
  simp only[lop]at h
  cases he:ev a<;>cases hi:vE (ev i)<;>simp only[he,hi]at h<;>try(cases h;done)
  ·cases h;simp only[bW3]at hp;exact one _ _ rfl hp.2
  ·cases h;exact nil rfl
  ·cases h;exact nil rfl
 case iaL n a i=>
  simp only[lop]at h
  cases he:ev a<;>cases hi:vE (ev i)<;>simp only[he,hi]at h<;>try(cases h;done)
  ·cases h
   simp only[bW3]at hp
   exact one _ _ rfl hp.1.2
  ·cases h;exact nil rfl
 case lenL a=>
  simp only[lop]at h
  cases he:ev a<;>simp only[he]at h<;>try(cases h;done)
  ·cases h;exact nil rfl
  ·cases h;exact one _ _ rfl hp
  ·cases h;exact nil rfl
 case s2a n a=>
  simp only[lop]at h
  cases he:ev a<;>simp only[he]at h<;>try(cases h;done)
  cases h
  simp only[bW3]at hp
  exact one _ _ rfl hp.1.1
 case mpget st a i z=>
  rcases aAs h with ⟨id,c,he,hc,rfl⟩ | ⟨he,rfl⟩
  ·intro x hx
   simp only[bXp]at hx
   subst hx
   exact .inr (by simp[hc])
  ·exact nil rfl
 all_goals
  simp only[lop]at h
  repeat' (first | (cases h;done) | split at h)
  all_goals first
   | (simp only[bW5]at h;subst h;exact nil rfl)

theorem kR(a b:Nat):(2^a).testBit b=decide (a=b):=by
 rw[Nat.testBit_two_pow]

def dU(acc:List Nat)(m:Nat)(l:List Edge):Nat:=l.foldl (λm e=>if Region.binds .any e then m ||| 2^e.on ||| acc.getD e.on 0 else m) m

theorem rZ(acc:List Nat)(j:Nat):∀ (l:List Edge) (m:Nat),(dU acc m l).testBit j=true->m.testBit j=true∨∃e∈l,Region.binds .any e=true∧(e.on=j∨(acc.getD e.on 0).testBit j=true)
 | [],m,h=>.inl h
 | e::l,m,h=>by
  simp only[dU,cAz]at h
  rcases rZ acc j l _ h with h1 | ⟨e',h1,h2⟩
  ·by_cases hb:Region.binds .any e=true
   ·rw[if_pos hb]at h1
    simp only[Nat.testBit_or,bXh,kR,bW6]at h1
    rcases h1 with (h1 | h1) | h1
    ·exact .inl h1
    ·exact .inr ⟨e,by simp,hb,.inl h1⟩
    ·exact .inr ⟨e,by simp,hb,.inr h1⟩
   ·rw[if_neg hb]at h1
    exact .inl h1
  ·exact .inr ⟨e',by simp[h1],h2⟩

theorem oP(acc:List Nat)(j:Nat):∀ (l:List Edge) (m:Nat),m.testBit j=true->(dU acc m l).testBit j=true
 | [],m,h=>h
 | e::l,m,h=>by
  simp only[dU,cAz]
  refine oP acc j l _ ?_
  split
  ·simp[Nat.testBit_or,h]
  ·exact h

theorem rR(acc:List Nat):∀ (l:List Edge) (m:Nat) (e:Edge),e∈l->Region.binds .any e=true->(dU acc m l).testBit e.on=true
 | e'::l,m,e,h,hb=>by
  simp only[dU,cAz]
  rcases bXd.1 h with rfl | h
  ·refine oP acc _ l _ ?_
   rw[if_pos hb]
   simp[Nat.testBit_or,kR]
  ·exact rR acc l _ e h hb

theorem nH:∀ (os:List Oper) (acc:List Nat),∃t,eF os acc=acc++t∧t.length=os.length
 | [],acc=>⟨[],by simp[eF],rfl⟩
 | o::os,acc=>by
  obtain⟨t,h1,h2⟩:=nH os (acc++[dU acc 0 o.after.toList])
  exact⟨dU acc 0 o.after.toList::t,by
   have:eF (o::os) acc=eF os (acc++[dU acc 0 o.after.toList]):=rfl
   rw[this,h1];simp,by simp[h2]⟩

theorem uX(os:List Oper):∀ (acc:List Nat) (i:Nat) (o:Oper),os[i]? = some o->(eF os acc)[acc.length+i]? = some (dU ((eF os acc).take (acc.length+i)) 0 o.after.toList):=by
 induction os with
 | nil=>intro acc i o h;simp at h
 | cons o' os ih=>
  intro acc i o h
  have e:eF (o'::os) acc=eF os (acc++[dU acc 0 o'.after.toList]):=rfl
  cases i with
  | zero=>
   simp at h
   subst h
   obtain⟨t,h1,h2⟩:=nH os (acc++[dU acc 0 o'.after.toList])
   have h3:(acc++[dU acc 0 o'.after.toList]++t).take acc.length=acc:=by simp
   rw[e,h1,bYv,h3]
   simp
  | succ i=>
   have ih':=ih (acc++[dU acc 0 o'.after.toList]) i o (by simpa using h)
   rw[e]
   have e2:(acc++[dU acc 0 o'.after.toList]).length+i=acc.length+(i+1):=by simp;omega
   rw[e2]at ih'
   exact ih'

def Closed(ops:Array Oper)(S:Nat->Bool):Prop:=∀i o,ops[i]? = some o->S i=true->∀e∈o.after,Region.binds .any e=true->S e.on=true

theorem yI{ops:Array Oper}{S:Nat->Bool}(hS:Closed ops S):∀ (n i:Nat) (o:Oper),i<n->ops[i]? = some o->(∀e∈o.after,Region.binds .any e=true->S e.on=true)->∀j b,(eF ops.toList [])[i]? = some b->b.testBit j=true->S j=true
 | 0,i,o,hn,_,_,_,_,_,_=>by omega
 | n+1,i,o,hn,ho,he,j,b,hb,hj=>by
  have hg:=uX ops.toList [] i o (by simpa using ho)
  simp only[bXm,bY6]at hg
  rw[hg]at hb
  cases hb
  rcases rZ _ j _ _ hj with h | ⟨e,h1,h2,h3⟩
  ·simp at h
  ·have hSe:=he e (by simpa using h1) h2
   rcases h3 with rfl | h3
   ·exact hSe
   ·by_cases hlt:e.on<i
    ·obtain⟨t,t1,t2⟩:=nH ops.toList []
     have hi:i<ops.size:=(bXa.1 ho).1
     have hlen:(eF ops.toList []).length=ops.size:=by rw[t1];simp[t2]
     obtain⟨b',hb'⟩:∃b',(eF ops.toList [])[e.on]? = some b':=⟨_,bW8 (by omega)⟩
     have hget:((eF ops.toList []).take i).getD e.on 0=b':=by
      simp[bW7,bXz,hlt,hb']
     rw[hget]at h3
     obtain⟨o',ho'⟩:∃o',ops[e.on]? = some o':=⟨_,Array.getElem?_eq_getElem (by omega)⟩
     exact yI hS n e.on o' (by omega) ho' (λe' he' hb2=>hS e.on o' ho' hSe e' he' hb2) j b' hb' h3
    ·have:((eF ops.toList []).take i).getD e.on 0=0:=by
      simp[bW7,bXz,hlt]
     rw[this]at h3
     simp at h3
inductive Kd where
 | heavy
 | skip (tm:T)
 | quiet (tm:T) (H:HV) (r:LR)

structure Rcd where
 x:AOper
 v:AV
 kd:Kd

def all1:Nat->Bool:=λ_=>true

def tv(S:Nat->Bool)(t:Nat):List Rcd->AV->AV
 | [],acc=>acc
 | r::D,acc=>tv S t D (bif S r.x.ix&&(r.x.dst==some t)then r.v else acc)

theorem iN(S:Nat->Bool)(t:Nat):∀ (D D':List Rcd) (acc:AV),tv S t (D++D') acc=tv S t D' (tv S t D acc)
 | [],_,_=>rfl
 | r::D,D',acc=>by simp only[bX0,tv];exact iN S t D D' _

theorem lW{S S':Nat->Bool}(t:Nat):∀ (D:List Rcd) (acc:AV),(∀r∈D,r.x.dst=some t->S r.x.ix=S' r.x.ix)->tv S t D acc=tv S' t D acc
 | [],_,_=>rfl
 | r::D,acc,h=>by
  simp only[tv]
  have e:(S r.x.ix&&(r.x.dst==some t))=(S' r.x.ix&&(r.x.dst==some t)):=by
   by_cases hd:r.x.dst=some t
   ·rw[h r (by simp) hd]
   ·have:(r.x.dst==some t)=false:=by simpa using hd
    rw[this,cAd,cAd]
  rw[e]
  exact lW t D _ λr' hr'=>h r' (by simp[hr'])

theorem aJo{S:Nat->Bool}(t:Nat):∀ (D:List Rcd) (acc:AV),(∀r∈D,r.x.dst=some t->S r.x.ix=false)->tv S t D acc=acc
 | [],_,_=>rfl
 | r::D,acc,h=>by
  simp only[tv]
  have e:(S r.x.ix&&(r.x.dst==some t))=false:=by
   by_cases hd:r.x.dst=some t
   ·rw[h r (by simp) hd,bZi]
   ·have:(r.x.dst==some t)=false:=by simpa using hd
    rw[this,cAd]
  rw[e,bYi]
  exact aJo t D _ λr' hr'=>h r' (by simp[hr'])

def sP(r:Rcd):Option Nat:=match r.kd with
 | .quiet _ H lr=>if lr.nb.isSome then some H.length else none
 | _=>none

theorem rF{E:Env}{H H':HV}{bf:Nat}:∀ {fl:List Fl} {c:Prop},aRr E H H' bf fl c->c∧(∀ix r,Fl.rd ix r∈fl->Nat.testBit bf ix=false->aR H r.id r.off r.size=aR H' r.id r.off r.size∧lC H r.id=lC H' r.id)∧(∀ix id,Fl.nb ix id∈fl->Nat.testBit bf ix=false->H[id]? = H'[id]?)
 | [],c,h=>⟨h,by simp,by simp⟩
 | .rd ix r::l,c,h=>by
  simp only[aRr]at h
  cases hb:Nat.testBit bf ix
  ·rw[hb,bYi]at h
   have key:(aR H r.id r.off r.size=aR H' r.id r.off r.size∧lC H r.id=lC H' r.id)∧aRr E H H' bf l c:=by
    cases hc:(dE (aR H r.id r.off r.size) (aR H' r.id r.off r.size)&&(lC H r.id==lC H' r.id))
    ·rw[hc,bYi]at h;exact h.elim
    ·rw[hc,bXw]at h
     simp only[bW3,bYr]at hc
     exact⟨⟨gZ _ _ hc.1,hc.2⟩,h⟩
   obtain⟨h1,h2,h3⟩:=rF key.2
   refine⟨h1,λix' r' hm hb' => ?_,λix' id hm hb' => ?_⟩
   ·rcases bXd.1 hm with e | hm
    ·cases e;exact key.1
    ·exact h2 ix' r' hm hb'
   ·rcases bXd.1 hm with e | hm
    ·cases e
    ·exact h3 ix' id hm hb'
  ·rw[hb,bXw]at h
   obtain⟨h1,h2,h3⟩:=rF h
   refine⟨h1,λix' r' hm hb' => ?_,λix' id hm hb' => ?_⟩
   ·rcases bXd.1 hm with e | hm
    ·cases e;rw[hb]at hb';cases hb'
    ·exact h2 ix' r' hm hb'
   ·rcases bXd.1 hm with e | hm
    ·cases e
    ·exact h3 ix' id hm hb'
 | .nb ix id::l,c,h=>by
  simp only[aRr]at h
  cases hb:Nat.testBit bf ix
  ·rw[hb,bYi]at h
   have key:H[id]? = H'[id]? ∧ aRr E H H' bf l c:=by
    cases hc:aYn H[id]? H'[id]?
    ·rw[hc,bYi]at h;exact h.elim
    ·rw[hc,bXw]at h
     exact⟨aY6 hc,h⟩
   obtain⟨h1,h2,h3⟩:=rF key.2
   refine⟨h1,λix' r' hm hb' => ?_,λix' id' hm hb' => ?_⟩
   ·rcases bXd.1 hm with e | hm
    ·cases e
    ·exact h2 ix' r' hm hb'
   ·rcases bXd.1 hm with e | hm
    ·cases e;exact key.1
    ·exact h3 ix' id' hm hb'
  ·rw[hb,bXw]at h
   obtain⟨h1,h2,h3⟩:=rF h
   refine⟨h1,λix' r' hm hb' => ?_,λix' id' hm hb' => ?_⟩
   ·rcases bXd.1 hm with e | hm
    ·cases e
    ·exact h2 ix' r' hm hb'
   ·rcases bXd.1 hm with e | hm
    ·cases e;rw[hb]at hb';cases hb'
    ·exact h3 ix' id' hm hb'

structure Canon (P:Program) (nt:Nat) (ops:Array Oper) (l:List AOper):Prop where
 pairs:l.Pairwise λx y=>iZ x y=true
 mem:∀x∈l,∃o,ops[x.ix]? = some o∧x.dst=(mO P nt ops o).dst∧x.op=(mO P nt ops o).op∧x.guard=(mO P nt ops o).guard∧(eF ops.toList [])[x.ix]? = some x.bf
 self:∀x∈l,x.bf.testBit x.ix=false∧x.bf<2^ops.size
 cov:∀i,i<ops.size->∃x∈l,x.ix=i

theorem nT{p:AOper->Bool}:∀ {l:List AOper} {x:AOper} {r:List AOper},yL p l=some (x,r)->x∈l∧∀y∈r,y∈l
 | [],x,r,h=>by cases h
 | o::l,x,r,h=>by
  simp only[yL]at h
  cases hp:p o
  ·rw[hp,bYi]at h
   split at h
   ·rename_i x' r' ht
    cases h
    obtain⟨h1,h2⟩:=nT ht
    refine⟨by simp[h1],λy hy => ?_⟩
    rcases bXd.1 hy with rfl | hy
    ·simp
    ·simp[h2 y hy]
   ·cases h
  ·rw[hp,bXw]at h
   cases h
   exact⟨by simp,λy hy=>by simp[hy]⟩

theorem vS:∀ (n done:Nat) (l:List AOper),∀x∈canon n done l,x∈l
 | 0,_,_,x,h=>by cases h
 | n+1,done,l,x,h=>by
  simp only[canon]at h
  split at h
  ·rename_i o r ht
   obtain⟨h1,h2⟩:=nT ht
   rcases bXd.1 h with rfl | h
   ·exact h1
   ·exact h2 x (vS n _ r x h)
  ·split at h
   ·rename_i o r ht
    obtain⟨h1,h2⟩:=nT ht
    rcases bXd.1 h with rfl | h
    ·exact h1
    ·exact h2 x (vS n _ r x h)
   ·cases h

theorem zQ:∀ (i:Nat) (bs:List Nat) (os:List AOper) (x:AOper),x∈number i bs os->∃j,x.ix=i+j∧bs[j]? = some x.bf∧∃o,os[j]? = some o∧x.dst=o.dst∧x.op=o.op∧x.guard=o.guard
 | i,[],os,x,h=>by cases os<;>cases h
 | i,b::bs,[],x,h=>by cases h
 | i,b::bs,o::os,x,h=>by
  simp only[number]at h
  rcases bXd.1 h with rfl | h
  ·exact⟨0,rfl,rfl,o,rfl,rfl,rfl,rfl⟩
  ·obtain⟨j,h1,h2,o',h3,h4⟩:=zQ (i+1) bs os x h
   exact⟨j+1,by omega,by simpa using h2,o',by simpa using h3,h4⟩

theorem wE:∀ {l:List AOper},oQ l=true->l.Pairwise λx y=>iZ x y=true
 | [],_=>List.Pairwise.nil
 | x::l,h=>by
  simp only[oQ,bW3,bYy]at h
  exact List.Pairwise.cons h.1 (wE h.2)

theorem aZ4{P:Program}{nt:Nat}{ops:Array Oper}{l:List AOper}(h:drawnOf P nt ops=.drawn l):Canon P nt ops l:=by
 unfold drawnOf at h
 simp only at h
 generalize hc:canon ops.size 0 (number 0 (eF ops.toList []) (ops.toList.map (mO P nt ops)))=l' at h
 cases hb:(Nat.beq l'.length ops.size&&oQ l'&&l'.all (λo=>Nat.blt o.ix ops.size&&Nat.blt o.bf (2^ops.size) && !(o.bf.testBit o.ix))&&(List.range ops.size).all (λi=>l'.any λo=>Nat.beq o.ix i))
 ·rw[hb,bYi]at h;cases h
 rw[hb,bXw]at h
 cases h
 simp only[bW3,bYy,aD,bYc,bZ8,bS,List.mem_range]at hb
 obtain⟨⟨⟨_,h2⟩,h3⟩,h4⟩:=hb
 refine⟨wE h2,λx hx => ?_,λx hx=>⟨(h3 x hx).2,(h3 x hx).1.2⟩,λi hi => ?_⟩
 ·have hm:=vS ops.size 0 _ x (by rw[hc];exact hx)
  obtain⟨j,e1,e2,o,e3,e4,e5,e6⟩:=zQ 0 _ _ x hm
  simp only[bY6]at e1
  subst e1
  simp only[cAo,Option.map_eq_some_iff]at e3
  obtain⟨o',e7,rfl⟩:=e3
  exact⟨o',by simpa using e7,e4,e5,e6,e2⟩
 ·obtain⟨x,h5,h6⟩:=h4 i hi
  exact⟨x,h5,h6⟩

theorem HR.push{gl:Nat->Option HB}{m:M}{H:HV}{w:World}(hH:HR gl m H w)(l:HV):HR gl m (H++l) w:=by
 have hg:∀id I,m.blk id=some I->(H++l)[id]? = H[id]? := λid I h=>bXx (hH.dom id I h)
 refine⟨λid I h=>by have:=hH.dom id I h;simp;omega,λid I b h hb=>hH.blk id I b h (by rw[←hg id I h];exact hb),λi j I J b h1 h2 h3 h4 h5=>hH.inj i j I J b h1 h2 (by rw[←hg i I h1];exact h3) h4 h5,hH.glb,hH.gld,hH.frz,λt k cs id I b h1 h2 h3 h4=>hH.fow t k cs id I b h1 h2 (by rw[←hg id I h2];exact h3) h4,λg cs id I b h1 h2 h3 h4=>hH.gow g cs id I b h1 h2 (by rw[←hg id I h2];exact h3) h4⟩

theorem Mx.push{X:List Nat}{gl:Nat->Option HB}{m0 m:M}{H0 H:HV}{w0 w:World}(hH:HR gl m H w)(h:Mx X m0 H0 w0 m H w)(l:HV):Mx X m0 H0 w0 m (H++l) w:=by
 refine⟨h.ext,h.os,h.tape,h.output,h.size,h.keep,λk hk => ?_,by have:=h.len;simp;omega,h.nw,h.fz⟩
 obtain⟨id,I,b,h1,h2,h3,h4⟩:=hk
 exact h.own k ⟨id,I,b,h1,by rw[bXx (hH.dom id I h1)]at h2;exact h2,h3,h4⟩

theorem Mx.late{X:List Nat}{m0 m:M}{H0 H:HV}{w0 w w':World}{id:Nat}{I:Inf}(h:Mx X m0 H0 w0 m H w)(k:Mw m H w (m.set id I) H w')(hid:H0.length<=id):Mx X m0 H0 w0 (m.set id I) H w':=by
 refine⟨h.ext.trans k.ext,k.os.trans h.os,k.tape.trans h.tape,k.output.trans h.output,bYh h.size k.size,λb hb ho hx => ?_,λb hb => ?_,h.len,λj hj hn=>by rw[M.set_other _ _ (by omega)];exact h.nw j hj hn,λt b cs hc => ?_⟩
 ·refine(k.keep b (bYe hb h.size) λho' => ?_).trans (h.keep b hb ho hx)
  rcases h.own b ho' with h1 | h1
  ·omega
  ·exact ho h1
 ·rcases k.own b hb with h1 | h1
  ·exact .inl (bYh h.size h1)
  ·exact h.own b h1
 ·rcases k.fz t b cs hc with h1 | h1 | h1
  ·exact h.fz t b cs h1
  ·exact .inr (.inl (bYh h.size h1))
  ·rcases h.own b h1 with h2 | h2
   ·exact .inr (.inl h2)
   ·exact .inr (.inr h2)

theorem Lps.push{P:Program}{gl:Nat->Option HB}{m:M}{H:HV}{w:World}(l:HV):∀ {X:List Ls} {ps:List Lp},Lps P gl m H w X ps->Lps P gl m (H++l) w X ps
 | [],[],_=>trivial
 | [],_::_,h=>h.elim
 | _::_,[],h=>h.elim
 | x::X,p::ps,h=>⟨⟨h.1.u,h.1.lp,h.1.row,h.1.ext,h.1.dom,by have:=h.1.le;simp;omega,h.1.tm,h.1.nt,h.1.ps,h.1.ca,h.1.cb,h.1.ok⟩,Lps.push l h.2⟩

theorem LpR.push{P:Program}{gl:Nat->Option HB}{X:List Ls}{g:Gh}{m:M}{H:HV}{w:World}(h:LpR P gl X g m H w)(l:HV):LpR P gl X g m (H++l) w:=
 ⟨Lps.push l h.all,h.key,h.us,h.ls⟩

theorem mZ{nt:Nat}{m:M}{tm:T}{a:Act}(hn:nt<=a.tmps.size){ops:Array Oper}{o:Oper}{ag:Option (Nat×Bool)}(ht:∀g b,ag=some (g,b)->VR m (tm.get g) (a.tmps.getD g undef))
  (hg:(o.guard=none∧ag=none)∨∃j b g,o.guard=some (j,b)∧(ops[j]?).bind (·.dst)=some g∧g<nt∧ag=some (g,b))
  {H:HV} {r:Bool} (hr:gd ⟨tm,H⟩ ag=some r):Region.wanted o (yielded ops a.tmps)=r:=by
 rcases hg with ⟨h1,rfl⟩ | ⟨j,b,g,h1,h2,h3,rfl⟩
 ·simp only[gd,bW5]at hr
  subst hr
  simp[Region.wanted,h1]
 ·have ht:=ht g b rfl
  have hget:a.tmps[g]? = some (a.tmps.getD g undef):=by
   have:g<a.tmps.size:=bYe h3 hn
   simp[this]
  simp only[gd]at hr
  simp only[Region.wanted,h1,yielded,h2,cCt,hget]
  split at hr
  ·rename_i x hx
   rw[hx]at ht
   simp only[VR]at ht
   rw[ht]
   simp only[bW5]at hr
   subst hr
   cases b<;>cases x<;>rfl
  ·rename_i hx
   rw[hx]at ht
   simp only[VR]at ht
   obtain⟨cs,e1,e2⟩:=ht
   rw[e1]
   simp only[bW5]at hr
   subst hr
   rfl
  ·cases hr

theorem aQc{E:Env}{ev:AO->AV}{H:HV}{k:Nat}{op:AOp}{K:AV->HV->Prop}(h:hop E ev H k op K):heavy op=true:=by
 cases op<;>first | rfl | exact h.elim

theorem aVc{gl:Nat->Option HB}{ev:AO->AV}{cu:Nat->Nat->Bool}{ca:Nat->Nat->Nat->HB}{nid:Nat}{op:AOp}{r:LR}(h:lop gl ev cu ca nid op=some r):heavy op=false:=by
 cases op<;>first | rfl | cases h
theorem S.put_hp(s:S)(d:Option Nat)(v:AV):(s.put d v).hp=s.hp:=by cases d<;>rfl

theorem S.put_get(s:S)(d:Option Nat)(v:AV)(hd:∀k,d=some k->k<4000)(t:Nat):(s.put d v).tm.get t=bif d==some t then v else s.tm.get t:=by
 cases d with
 | none=>rfl
 | some k=>
  have hk:=hd k rfl
  show(T.put 12 s.tm k v).get t=_
  rw[T.get_put 12 s.tm k v t (by omega)]
  by_cases e:t=k
  ·subst e;simp
  ·have:(some k==some t)=false:=by simpa using λh=>e h.symm
   rw[if_neg e,this,bYi]

theorem bMb(s:S)(g:Option (Nat×Bool)):gd s g=gd ⟨s.tm,[]⟩ g:=by
 cases g with
 | none=>rfl
 | some p=>rfl

theorem lX{x y:AOper}(h:iZ x y=true)(hc:clash x y=true):y.bf.testBit x.ix=true:=by
 simp only[iZ,hc,bW3,bXh,Bool.not_true,bY5,false_and,false_or]at h
 exact h.2
theorem aN4{x y:AOper}(h:iZ x y=true)(hc:heavy x.op=true):y.bf.testBit x.ix=true:=by
 simp only[iZ,hc,bW3,bXh,Bool.not_true,bY5,and_false,false_or]at h
 exact h.2
theorem xE{x y:AOper}(h:iZ x y=true):x.ix≠y.ix:=by
 simp only[iZ,bW3,bZw]at h
 exact h.1.2
theorem aWw{x y:AOper}(h:iZ x y=true):x.bf.testBit y.ix=false:=by
 simp only[iZ,bW3,bYc]at h
 exact h.1.1
theorem aE5{x y:AOper}{d:Nat}(h:x.dst=some d)(hu:d∈uses y):clash x y=true:=by
 simp[clash,h,hu]
theorem aM4{x y:AOper}{d:Nat}(h:x.dst=some d)(hu:y.dst=some d):clash x y=true:=by
 simp[clash,h,hu]
theorem aY1{x y:AOper}{d:Nat}(h:y.dst=some d)(hu:d∈uses x):clash x y=true:=by
 simp[clash,h,hu]

def bLm(E:Env)(t0:Nat->AV)(D1:List Rcd)(r:Rcd):Prop:=match r.kd with
 | .heavy=>True
 | .skip tm=>(∀t,tm.get t=tv all1 t D1 (t0 t))∧gd ⟨tm,[]⟩ r.x.guard=some false∧r.v=.tup []
 | .quiet tm H lr=>(∀t,tm.get t=tv all1 t D1 (t0 t))∧gd ⟨tm,[]⟩ r.x.guard=some true∧lop E.gl (evu (rQ r.x.op) tm) (cur H) (aR H) H.length r.x.op=some lr∧lr.pre=true∧r.v=lr.v

def Live(fl:List Fl)(m:M)(hp:HV)(n0:Nat)(r:Rcd):Prop:=match r.kd with
 | .quiet _ H lr=>(∀x∈lr.rd,(aR H x.id x.off x.size=aR hp x.id x.off x.size∧lC H x.id=lC hp x.id)∧x.id<hp.length∧Fl.rd r.x.ix x∈fl) ∧
   (∀b,lr.nb=some b->hp[H.length]? = some b∧m.blk H.length=none∧n0<=H.length∧Fl.nb r.x.ix H.length∈fl)
 | _=>True

structure Inv (P:Program) (E:Env) (nt:Nat) (B:Fb) (ops:Array Oper) (l0:List AOper) (t0:Nat->AV) (X:List Ls) (m0:M) (H0:HV) (w0:World) (L:Nat->Bool) (D:List Rcd) (l:List AOper) (s:S) (g:Gh) (fl:List Fl) (m:M) (a:Act) (w:World):Prop where
 ord:D.map (·.x)++l=l0
 tms:∀t,s.tm.get t=tv all1 t D (t0 t)
 con:∀t,VR m (tv L t D (t0 t)) (a.tmps.getD t undef)
 sz:nt<=a.tmps.size
 df:DF B a.defers w
 lps:LpR P E.gl X g m s.hp w
 hr:HR E.gl m s.hp w
 mv:Mx (X.map (·.l)) m0 H0 w0 m s.hp w
 hv:∀r∈D,r.kd=.heavy->L r.x.ix=true
 unl:∀y∈l,L y.ix=false
 fact:∀i r,D[i]? = some r->bLm E t0 (D.take i) r
 live:∀r∈D,L r.x.ix=false->Live fl m s.hp H0.length r
 nid:D.Pairwise λr r'=>∀i j,sP r=some i->sP r'=some j->i≠j
 nlt:∀r∈D,∀i,sP r=some i->i<s.hp.length
 cls:Closed ops L

theorem aKg{α:Type _}{D:List α}{i:Nat}{r:α}(h:D[i]? = some r):D=D.take i++r::D.drop (i+1):=by
 obtain⟨hi,e⟩:=bXq.1 h
 have:D.drop i=r::D.drop (i+1):=by rw[bZe hi,e]
 rw[←this,bYw]

section
variable {P:Program} {E:Env} {nt:Nat} {B:Fb} {ops:Array Oper} {l0:List AOper} {t0:Nat->AV} {X:List Ls} {g:Gh} {m0:M} {H0:HV} {w0:World} {L:Nat->Bool} {D:List Rcd} {l:List AOper} {s:S} {fl:List Fl} {m:M} {a:Act} {w:World}

theorem Canon.bits(C:Canon P nt ops l0)(hL:Closed ops L){y:AOper}(hy:y∈l0){o:Oper}(ho:ops[y.ix]? = some o)(he:∀e∈o.after,Region.binds .any e=true->L e.on=true):∀j,y.bf.testBit j=true->L j=true:=by
 intro j hj
 obtain⟨o',h1,_,_,_,h2⟩:=C.mem y hy
 exact yI hL (y.ix+1) y.ix o (by omega) ho he j y.bf h2 hj

theorem Canon.cl(C:Canon P nt ops l0)(hL:Closed ops L){y:AOper}(hy:y∈l0)(hLy:L y.ix=true):∀j,y.bf.testBit j=true->L j=true:=by
 obtain⟨o,h1,_⟩:=C.mem y hy
 exact C.bits hL hy h1 (hL y.ix o h1 hLy)

theorem Inv.pairs(C:Canon P nt ops l0)(h:Inv P E nt B ops l0 t0 X m0 H0 w0 L D l s g fl m a w):D.Pairwise (λr r'=>iZ r.x r'.x=true)∧l.Pairwise (λx y=>iZ x y=true)∧∀r∈D,∀y∈l,iZ r.x y=true:=by
 have hp:=C.pairs
 rw[←h.ord,bZs]at hp
 refine⟨?_,hp.2.1,λr hr y hy=>hp.2.2 r.x (bZb.2 ⟨r,hr,rfl⟩) y hy⟩
 have:=hp.1
 rw[List.pairwise_map]at this
 exact this

theorem Inv.memD(h:Inv P E nt B ops l0 t0 X m0 H0 w0 L D l s g fl m a w){r:Rcd}(hr:r∈D):r.x∈l0:=by
 rw[←h.ord]
 exact cAh _ (bZb.2 ⟨r,hr,rfl⟩)

theorem Inv.slots(C:Canon P nt ops l0)(h:Inv P E nt B ops l0 t0 X m0 H0 w0 L D l s g fl m a w){i:Nat}{r:Rcd}(hi:D[i]? = some r)(hL:L r.x.ix=false)(hb:∀j,r.x.bf.testBit j=true->L j=true){t:Nat}(ht:t∈uses r.x) :
  VR m (tv all1 t (D.take i) (t0 t)) (a.tmps.getD t undef):=by
 have hc:=h.con t
 obtain⟨hp,_,_⟩:=h.pairs C
 have e:=aKg hi
 have hmem:∀r'∈D.drop (i+1),r'∈D:=λr' hr'=>List.mem_of_mem_drop hr'
 rw[e,bZs,cAa]at hp
 have key:tv L t D (t0 t)=tv all1 t (D.take i) (t0 t):=by
  conv=>lhs;rw[e]
  rw[iN]
  simp only[tv,hL,bZi,bYi]
  rw[aJo t (D.drop (i+1))]
  ·refine lW t _ _ λr' hr' hd => ?_
   exact hb _ (lX (hp.2.2 r' hr' r (by simp)) (aE5 hd ht))
  ·intro r' hr' hd
   cases hLr:L r'.x.ix with
   | false=>rfl
   | true=>
    have:=C.cl h.cls (h.memD (hmem r' hr')) hLr _ (lX (hp.2.1.1 r' hr') (aY1 hd ht))
    rw[hL]at this
    cases this
 rw[←key]
 exact hc

theorem Inv.slots_head(C:Canon P nt ops l0){x:AOper}(h:Inv P E nt B ops l0 t0 X m0 H0 w0 L D (x::l) s g fl m a w)(hb:∀j,x.bf.testBit j=true->L j=true){t:Nat}(ht:t∈uses x) :
  VR m (s.tm.get t) (a.tmps.getD t undef):=by
 have hc:=h.con t
 obtain⟨_,_,hp⟩:=h.pairs C
 have key:tv L t D (t0 t)=s.tm.get t:=by
  rw[h.tms t]
  exact lW t _ _ λr hr hd=>hb _ (lX (hp r hr x (by simp)) (aE5 hd ht))
 rw[←key]
 exact hc

theorem bLn{us:List Nat}{tm:T}(hu:∀t∈us,VR m (tm.get t) (a.tmps.getD t undef))(x:Operand):VR m (evu us tm (cO x)) (a.eval x):=by
 cases x with
 | tmp t=>
  show VR m (bif us.contains t then tm.get t else .undef) (a.tmps.getD t undef)
  cases hc:us.contains t
  ·simp[VR]
  ·rw[bXw];exact hu t (by simpa using hc)
 | const v=>exact aJ7 m 4 v
 | global g=>simp[cO,evu,Act.eval,VR]
 | func f=>simp[cO,evu,Act.eval,VR]

theorem aLi{a:Act}{d:Option Nat}{v:Value}(hn:nt<=a.tmps.size)(hd:∀k,d=some k->k<nt)(t:Nat):(a.put d v).tmps.getD t undef=bif d==some t then v else a.tmps.getD t undef:=by
 cases d with
 | none=>rfl
 | some k=>
  have hk:=hd k rfl
  simp only[Act.put]
  by_cases e:k=t
  ·subst e
   have:k<a.tmps.size:=by omega
   simp[this]
  ·have:(some k==some t)=false:=by simpa using e
   rw[this,bYi]
   simp[bZj e]

theorem put_sz{a:Act}{d:Option Nat}{v:Value}:(a.put d v).tmps.size=a.tmps.size∧(a.put d v).defers=a.defers:=by
 cases d<;>simp[Act.put]

theorem Inv.run(C:Canon P nt ops l0)(h:Inv P E nt B ops l0 t0 X m0 H0 w0 L D l s g fl m a w){i:Nat}{r:Rcd}(hi:D[i]? = some r)(hL:L r.x.ix=false)
  {o:Oper} (ho:ops[r.x.ix]? = some o) (hod:o.dst=r.x.dst) (hd:∀k,o.dst=some k->k<nt) (he:∀e∈o.after,Region.binds .any e=true->L e.on=true) {m':M} {w':World} {v:Value} (hx:Ext m m') (hv:VR m' r.v v) (hH:HR E.gl m' s.hp w') (hm:Mx (X.map (·.l)) m0 H0 w0 m' s.hp w') (hdf:DF B a.defers w') (hX:LpR P E.gl X g m' s.hp w')
  (hn:∀id,sP r≠some id->m.blk id=none->m'.blk id=none) :
  Inv P E nt B ops l0 t0 X m0 H0 w0 (λj=>L j||j==r.x.ix) D l s g fl m' (a.put o.dst v) w':=by
 obtain⟨hp,_,hpl⟩:=h.pairs C
 have e:=aKg hi
 have hri:r∈D:=bY3 hi
 have hp':=hp
 rw[e,bZs,cAa]at hp'
 have hni:=h.nid
 rw[e,bZs,cAa]at hni
 have hne:∀r'∈D.take i,r'.x.ix≠r.x.ix:=λr' hr'=>xE (hp'.2.2 r' hr' r (by simp))
 have hne2:∀r'∈D.drop (i+1),r'.x.ix≠r.x.ix:=λr' hr'=>cCn (xE (hp'.2.1.1 r' hr'))
 refine⟨h.ord,h.tms,λt => ?_,by rw[put_sz.1];exact h.sz,by rw[put_sz.2];exact hdf,hX,hH,hm,λr' hr' hk=>by simp[h.hv r' hr' hk],λy hy => ?_,h.fact,λr' hr' hLr' => ?_,h.nid,h.nlt,λj o' ho' hj e' he' hb => ?_⟩
 ·rw[aLi h.sz hd t,hod]
  by_cases hdt:r.x.dst=some t
  ·have e1:(r.x.dst==some t)=true:=by simpa using hdt
   rw[e1,bXw]
   have:tv (λj=>L j||j==r.x.ix) t D (t0 t)=r.v:=by
    conv=>lhs;rw[e]
    rw[iN]
    simp only[tv,hL,cB4,cBv,bX7,e1,bXw]
    refine aJo t _ _ λr' hr' hd' => ?_
    have hne':=hne2 r' hr'
    cases hLr:L r'.x.ix with
    | false=>simpa using hne'
    | true=>
     have:=C.cl h.cls (h.memD (List.mem_of_mem_drop hr')) hLr _ (lX (hp'.2.1.1 r' hr') (aM4 hdt hd'))
     rw[hL]at this
     cases this
   rw[this]
   exact hv
  ·have e1:(r.x.dst==some t)=false:=by simpa using hdt
   rw[e1,bYi]
   have:tv (λj=>L j||j==r.x.ix) t D (t0 t)=tv L t D (t0 t):=by
    refine lW t _ _ λr' hr' hd' => ?_
    have:r'.x.ix≠r.x.ix:=by
     rw[e]at hr'
     rcases bYj.1 hr' with h1 | h1
     ·exact hne r' h1
     ·rcases bXd.1 h1 with h1 | h1
      ·rw[h1]at hd';exact absurd hd' hdt
      ·exact hne2 r' h1
    simp[this]
   rw[this]
   exact VR.mono hx _ _ (h.con t)
 ·have:y.ix≠r.x.ix:=cCn (xE (hpl r hri y hy))
  simp[h.unl y hy,this]
 ·simp only[bXy,cAs]at hLr'
  have hlv:=h.live r' hr' hLr'.1
  unfold Live at hlv ⊢
  split at hlv
  ·rename_i tm H lr hk
   refine⟨hlv.1,λb hb => ?_⟩
   obtain⟨q1,q2,q3,q4⟩:=hlv.2 b hb
   refine⟨q1,hn _ ?_ q2,q3,q4⟩
   have hnid:sP r'=some H.length:=by simp[sP,hk,hb]
   intro hc
   rw[e]at hr'
   rcases bYj.1 hr' with h1 | h1
   ·exact hni.2.2 r' h1 r (by simp) _ _ hnid hc rfl
   ·rcases bXd.1 h1 with h1 | h1
    ·rw[h1]at hLr';exact hLr'.2 rfl
    ·exact hni.2.1.1 r' h1 _ _ hc hnid rfl
  ·trivial
 ·simp only[bXh,bYr]at hj ⊢
  rcases hj with hj | hj
  ·exact .inl (h.cls j o' ho' hj e' he' hb)
  ·subst hj
   rw[ho]at ho'
   cases ho'
   exact .inl (he e' he' hb)

theorem Inv.quietly{x:AOper}(h:Inv P E nt B ops l0 t0 X m0 H0 w0 L D (x::l) s g fl m a w)(hnt:nt<=4000)(hd:∀k,x.dst=some k->k<nt){v:AV}{kd:Kd}(hk:kd≠.heavy)(hf:bLm E t0 D ⟨x,v,kd⟩)(nb:HV)(fl':List Fl)(hfl:∀f∈fl,f∈fl')
  (hlv:Live fl' m (s.hp++nb) H0.length ⟨x,v,kd⟩) (hn:∀i,sP ⟨x,v,kd⟩=some i->i=s.hp.length∧0<nb.length) :
  Inv P E nt B ops l0 t0 X m0 H0 w0 L (D++[⟨x,v,kd⟩]) l (S.put ⟨s.tm,s.hp++nb⟩ x.dst v) g fl' m a w:=by
 have hx:L x.ix=false:=h.unl x (by simp)
 refine⟨by rw[←h.ord];simp,λt => ?_,λt => ?_,h.sz,h.df,by rw[S.put_hp];exact h.lps.push nb, ?_, ?_,λr hr hkr => ?_,λy hy=>h.unl y (by simp[hy]),λi r hi => ?_,λr hr hLr => ?_, ?_,λr hr i hi => ?_,h.cls⟩
 ·rw[S.put_get _ _ _ (λk hk'=>bYe (hd k hk') hnt),iN]
  simp only[tv,all1,bX7]
  rw[h.tms t]
 ·rw[iN]
  simp only[tv,hx,bZi,bYi]
  exact h.con t
 ·rw[S.put_hp];exact h.hr.push nb
 ·rw[S.put_hp];exact Mx.push h.hr h.mv nb
 ·rcases bYj.1 hr with h1 | h1
  ·exact h.hv r h1 hkr
  ·rw[bXp]at h1;subst h1;exact absurd hkr hk
 ·by_cases hlt:i<D.length
  ·rw[bXx hlt]at hi
   rw[bZd (by omega)]
   exact h.fact i r hi
  ·rw[bYa (by omega)]at hi
   have hi0:i-D.length=0:=by
    rcases Nat.eq_zero_or_pos (i-D.length)with h0 | h0
    ·exact h0
    ·rw[bZn (by simp;omega)]at hi;cases hi
   rw[hi0]at hi
   simp at hi
   subst hi
   have:i=D.length:=by omega
   subst this
   simpa using hf
 ·rw[S.put_hp]
  rcases bYj.1 hr with h1 | h1
  ·have hl:=h.live r h1 hLr
   unfold Live at hl ⊢
   split at hl
   ·refine⟨λy hy => ?_,λb hb => ?_⟩
    ·obtain⟨⟨q1,q2⟩,q3,q4⟩:=hl.1 y hy
     have e1:(s.hp++nb)[y.id]? = s.hp[y.id]? := bXx q3
     refine⟨⟨by rw[q1];simp only[aR,e1],by rw[q2];simp only[lC,e1]⟩,by simp;omega,hfl _ q4⟩
    ·obtain⟨q1,q2,q3,q4⟩:=hl.2 b hb
     refine⟨?_,q2,q3,hfl _ q4⟩
     rw[bXx (bXq.1 q1).1]
     exact q1
   ·trivial
  ·rw[bXp]at h1;subst h1;exact hlv
 ·rw[bZs]
  refine⟨h.nid,List.pairwise_singleton _ _,λr hr r' hr' i j h1 h2 => ?_⟩
  rw[bXp]at hr';subst hr'
  have a1:=h.nlt r hr i h1
  have a2:=(hn j h2).1
  omega
 ·rw[S.put_hp]
  rcases bYj.1 hr with h1 | h1
  ·have:=h.nlt r h1 i hi
   simp;omega
  ·rw[bXp]at h1;subst h1
   have:=hn i hi
   simp;omega

theorem Inv.writes(C:Canon P nt ops l0){x:AOper}(h:Inv P E nt B ops l0 t0 X m0 H0 w0 L D (x::l) s g fl m a w)(hnt:nt<=4000){o:Oper}(ho:ops[x.ix]? = some o)(hod:o.dst=x.dst)(hd:∀k,o.dst=some k->k<nt)(he:∀e∈o.after,Region.binds .any e=true->L e.on=true)
  {m':M} {w':World} {H':HV} {av:AV} {v:Value} {g':Gh} (hv:VR m' av v) (hH:HR E.gl m' H' w') (hm:Mx (X.map (·.l)) m s.hp w m' H' w') (hdf:DF B a.defers w') (hX:LpR P E.gl X g' m' H' w')
  (h1:∀ix r,Fl.rd ix r∈fl->Nat.testBit x.bf ix=false->aR s.hp r.id r.off r.size=aR H' r.id r.off r.size∧lC s.hp r.id=lC H' r.id)
  (h2:∀ix id,Fl.nb ix id∈fl->Nat.testBit x.bf ix=false->s.hp[id]? = H'[id]?) :
  Inv P E nt B ops l0 t0 X m0 H0 w0 (λj=>L j||j==x.ix) (D++[⟨x,av,.heavy⟩]) l (S.put ⟨s.tm,H'⟩ x.dst av) g' fl m' (a.put o.dst v) w':=by
 obtain⟨_,hpl,hp⟩:=h.pairs C
 rw[cAa]at hpl
 have hx:L x.ix=false:=h.unl x (by simp)
 have hxl:x∈l0:=by rw[←h.ord];simp
 have hb:=C.bits h.cls hxl ho he
 have hneD:∀r∈D,r.x.ix≠x.ix:=λr hr=>xE (hp r hr x (by simp))
 refine⟨by rw[←h.ord];simp,λt => ?_,λt => ?_,by rw[put_sz.1];exact h.sz,by rw[put_sz.2];exact hdf,by rw[S.put_hp];exact hX,by rw[S.put_hp];exact hH,by rw[S.put_hp];exact h.mv.trans hm,λr hr hkr => ?_,λy hy => ?_,λi r hi => ?_,λr hr hLr => ?_, ?_,λr hr i hi => ?_,λj o' ho' hj e' he' hb' => ?_⟩
 ·rw[S.put_get _ _ _ (λk hk'=>bYe (hd k (by rw[hod];exact hk')) hnt),iN]
  simp only[tv,all1,bX7]
  rw[h.tms t]
 ·rw[aLi h.sz hd t,hod,iN]
  simp only[tv,hx,cB4,cBv,bX7]
  cases hdt:(x.dst==some t)
  ·simp only[bYi]
   have:tv (λj=>L j||j==x.ix) t D (t0 t)=tv L t D (t0 t):=lW t _ _ λr hr _=>by simp[hneD r hr]
   rw[this]
   exact VR.mono hm.ext _ _ (h.con t)
  ·simp only[bXw];exact hv
 ·rcases bYj.1 hr with q | q
  ·simp[h.hv r q hkr]
  ·rw[bXp]at q;subst q;simp
 ·simp[h.unl y (by simp[hy]),cCn (xE (hpl.1 y hy))]
 ·by_cases hlt:i<D.length
  ·rw[bXx hlt]at hi
   rw[bZd (by omega)]
   exact h.fact i r hi
  ·rw[bYa (by omega)]at hi
   have hi0:i-D.length=0:=by
    rcases Nat.eq_zero_or_pos (i-D.length)with h0 | h0
    ·exact h0
    ·rw[bZn (by simp;omega)]at hi;cases hi
   rw[hi0]at hi
   simp at hi
   subst hi
   trivial
 ·rw[S.put_hp]
  simp only[bXy,cAs]at hLr
  rcases bYj.1 hr with q | q
  ·have hbit:Nat.testBit x.bf r.x.ix=false:=by
    cases hc:Nat.testBit x.bf r.x.ix with
    | false=>rfl
    | true=>
     have:=hb _ hc
     rw[hLr.1]at this
     cases this
   have hl:=h.live r q hLr.1
   unfold Live at hl ⊢
   split at hl
   ·rename_i tm H lr hk
    refine⟨λy hy => ?_,λb hbn => ?_⟩
    ·obtain⟨⟨q1,q2⟩,q3,q4⟩:=hl.1 y hy
     obtain⟨c1,c2⟩:=h1 _ _ q4 hbit
     exact⟨⟨q1.trans c1,q2.trans c2⟩,bYe q3 hm.len,q4⟩
    ·obtain⟨q1,q2,q3,q4⟩:=hl.2 b hbn
     have c1:=h2 _ _ q4 hbit
     exact⟨by rw[←c1];exact q1,hm.nw _ (bXq.1 q1).1 q2,q3,q4⟩
   ·trivial
  ·rw[bXp]at q;subst q;trivial
 ·rw[bZs]
  refine⟨h.nid,List.pairwise_singleton _ _,λr hr r' hr' i j h1 h2 => ?_⟩
  rw[bXp]at hr';subst hr'
  simp[sP]at h2
 ·rw[S.put_hp]
  rcases bYj.1 hr with q | q
  ·exact bYe (h.nlt r q i hi) hm.len
  ·rw[bXp]at q;subst q
   simp[sP]at hi
 ·simp only[bXh,bYr]at hj ⊢
  rcases hj with hj | hj
  ·exact .inl (h.cls j o' ho' hj e' he' hb')
  ·subst hj
   rw[ho]at ho'
   cases ho'
   exact .inl (he e' he' hb')
end
end Go.Proofs.YtnhechnaemmdiaaGreatDoor

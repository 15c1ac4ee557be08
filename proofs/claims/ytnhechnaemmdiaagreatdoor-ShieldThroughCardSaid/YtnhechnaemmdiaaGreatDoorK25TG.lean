/-
  A region whose operations come in any order: each slot is filled once, new blocks are frozen.
-/
import Derived.Test.YtnhechnaemmdiaaGreatDoorK25TF
set_option linter.unusedSimpArgs false
set_option linter.unusedVariables false
set_option linter.unusedSectionVars false
namespace Go.Proofs.YtnhechnaemmdiaaGreatDoor
open Go.RowKit
set_option maxRecDepth 1000000

section
variable {P:Program} {gl:Nat→Option (List AV)} {ops:Array Oper} {Q:Exit→Act→World→Prop} {r0:Option Nat}

theorem bB0 (J:(Nat→Bool)→Act→World→Prop) (hac:∀ (i:Nat) (o:Oper),ops[i]? = some o→∀e∈o.after,e.on<i)
  (hstep:∀ (L:Nat→Bool) (a:Act) (w:World) (i:Nat) (o:Oper),J L a w→L i=false→ops[i]? = some o→(∀e∈o.after,Region.binds .any e=true→L e.on=true)→wpOpIn (Wd r0) 0 P ops Q i (J fun j=>L j||j==i) a w)
  (hend:∀ (L:Nat→Bool) (a:Act) (w:World),J L a w→(∀i,i<ops.size→L i=true)→Q .normal a w) :
  ∀ (fuel:Nat) (listed:Array Bool) (a:Act) (w:World),listed.size=ops.size→listed.toList.count false≤fuel→J (fun j=>listed.getD j false) a w→wpAnyIn (Wd r0) 0 P .any ops Q fuel listed a w:=by
 have hall:∀ (listed:Array Bool),listed.size=ops.size→Region.ready .any ops listed=[]→∀i,i<ops.size→listed.getD i false=true:=by
  intro listed hsz hr i
  induction i using Nat.strongRecOn with
  | _ i ih=>
   intro hi
   cases hg:listed.getD i false with
   | true=>rfl
   | false=>
    have ho:ops[i]? = some ops[i]:=bSc hi
    have hm:i∈Region.ready .any ops listed:=by
     rw[bTz]
     refine ⟨?_,ops[i],ho,fun e he _ => ?_⟩
     ·have hlt:i<listed.size:=by omega
      simpa [hlt] using hg
     ·have:=hac i _ ho e he
      exact ih e.on this (by omega)
    rw[hr] at hm
    cases hm
 intro fuel
 induction fuel with
 | zero=>
  intro listed a w hsz hc hJ
  have hr:Region.ready .any ops listed=[]:=by
   cases hr:Region.ready .any ops listed with
   | nil=>rfl
   | cons i r=>
    have hi:i∈Region.ready .any ops listed:=by rw[hr];simp
    rw[bTz] at hi
    have:=(kK hi.1).2.2
    omega
  exact ⟨hr,hend _ _ _ hJ (hall listed hsz hr)⟩
 | succ fuel ih=>
  intro listed a w hsz hc hJ
  refine ⟨fun hr=>hend _ _ _ hJ (hall listed hsz hr),fun i hi => ?_⟩
  rw[bTz] at hi
  obtain ⟨hi1,o,ho,he⟩:=hi
  obtain ⟨s1,s2,s3⟩:=kK hi1
  refine wpOpIn_mono (fun a' w' h=>ih _ a' w' (by simpa using hsz) (by omega) ?_) (hstep _ a w i o hJ (by simp[s1]) ho he)
  have e:(fun j=>(listed.setIfInBounds i true).getD j false)=fun j=>listed.getD j false||j==i:=funext s2
  rw[e]
  exact h
structure RgJ (gl:Nat→Option (List AV)) (ops:Array Oper) (n:Nat) (d:Nat→Nat) (F:Nat→M→Value→Prop) (m0:M) (H:List Blk) (a0:Act) (w0:World) (L:Nat→Bool) (a:Act) (w:World):Prop where
 sz:a.tmps.size=a0.tmps.size
 df:a.defers=a0.defers
 out:∀k,(∀i,i<n→L i=true→d i≠k)→a.tmps.getD k undef=a0.tmps.getD k undef
 m:∃m,HR gl m H w∧Mv m0 H w0 m H w∧∀i,i<n→L i=true→F i m (a.tmps.getD (d i) undef)
 dom:∀i,L i=true→i<n
 cl:∀ (i:Nat) (o:Oper),L i=true→ops[i]? = some o→∀e∈o.after,Region.binds .any e=true→L e.on=true
theorem aYl {n nt:Nat} {d:Nat→Nat} {F:Nat→M→Value→Prop} {m0:M} {H:List Blk} {a0 a:Act} {w0 w:World} {L:Nat→Bool} {i:Nat} {o:Oper}
  (hF:∀i m m' v,Ext m m'→F i m v→F i m' v) (hn:nt≤a0.tmps.size) (hd:∀i,i<n→d i<nt) (hinj:∀i j,i<n→j<n→d i=d j→i=j)
  (h:RgJ gl ops n d F m0 H a0 w0 L a w) (hL:L i=false) (hi:i<n) (ho:ops[i]? = some o) (hdst:o.dst=some (d i)) (hg:o.guard=none) (hnd:∀c,o.op≠.defer c) (he:∀e∈o.after,Region.binds .any e=true→L e.on=true)
  (hrun:∀m,HR gl m H w→Mv m0 H w0 m H w→(∀j,j<n→L j=true→F j m (a.tmps.getD (d j) undef))→∃v w' m',(execOp a.eval o).run P w=.ok (.value v) w'∧HR gl m' H w'∧Mv m H w m' H w'∧F i m' v) :
  wpOpIn (Wd r0) 0 P ops Q i (RgJ gl ops n d F m0 H a0 w0 fun j=>L j||j==i) a w:=by
 obtain ⟨m,q1,q2,q3⟩:=h.m
 obtain ⟨v,w',m',k1,k2,k3,k4⟩:=hrun m q1 q2 q3
 simp only[wpOpIn,ho]
 have hw:Region.wanted o (yielded ops a.tmps)=true:=by simp[Region.wanted,hg]
 rw[hw]
 simp only[bR8]
 unfold Oper.wpIn
 refine ⟨fun _ _=>trivial, ?_⟩
 rw[eH hnd,k1,bQ7]
 have hp:=wV (nt:=nt) (a:=a) (d:=o.dst) (v:=v) (by rw[h.sz];exact hn) (fun k hk=>by rw[hdst] at hk;cases hk;exact hd i hi)
 refine ⟨by rw[put_sz.1];exact h.sz,by rw[put_sz.2];exact h.df,fun k hk => ?_,⟨m',k2,q2.trans k3,fun j hj hLj => ?_⟩,fun j hj => ?_,fun j o' hj ho' e h1 h2 => ?_⟩
 ·rw[hp k,hdst]
  have h1:d i≠k:=hk i hi (by simp)
  rw[show (some (d i)==some k)=false by simpa using h1]
  exact h.out k fun j hj hLj=>hk j hj (by simp[hLj])
 ·rw[hp,hdst]
  by_cases hji:j=i
  ·subst hji
   simp only[bQh,bO3]
   exact k4
  ·have h1:d i≠d j:=fun e=>hji (hinj i j hi hj e).symm
   rw[show (some (d i)==some (d j))=false by simpa using h1]
   have h2:L j=true:=by simpa [hji] using hLj
   exact hF j m m' _ k3.ext (q3 j hj h2)
 ·by_cases hji:j=i
  ·subst hji;exact hi
  ·exact h.dom j (by simpa [hji] using hj)
 ·by_cases hji:j=i
  ·subst hji
   rw[ho] at ho'
   cases ho'
   simp[he e h1 h2]
  ·simp[h.cl j o' (by simpa [hji] using hj) ho' e h1 h2]
theorem bFr {n nt id:Nat} {d:Nat→Nat} {F:Nat→M→Value→Prop} {m0:M} {H:List Blk} {a0:Act} {w0:World} (hm:P.follows .mixedOrders=true)
  (hF:∀i m m' v,Ext m m'→F i m v→F i m' v) (hn:nt≤a0.tmps.size) (hd:∀i,i<n→d i<nt) (hinj:∀i j,i<n→j<n→d i=d j→i=j) (hsz:ops.size=n)
  (hac:∀ (i:Nat) (o:Oper),ops[i]? = some o→(∀e∈o.after,e.on<i)∧o.dst=some (d i)∧o.guard=none∧∀c,o.op≠.defer c) (hH:HR gl m0 H w0)
  (hrun:∀ (L:Nat→Bool) (a:Act) (w:World) (i:Nat) (o:Oper) (m:M),RgJ gl ops n d F m0 H a0 w0 L a w→L i=false→ops[i]? = some o→(∀e∈o.after,Region.binds .any e=true→L e.on=true)→HR gl m H w→Mv m0 H w0 m H w→(∀j,j<n→L j=true→F j m (a.tmps.getD (d j) undef))→∃v w' m',(execOp a.eval o).run P w=.ok (.value v) w'∧HR gl m' H w'∧Mv m H w m' H w'∧F i m' v)
  (hend:∀ (L:Nat→Bool) (a:Act) (w:World),RgJ gl ops n d F m0 H a0 w0 L a w→(∀i,i<n→L i=true)→Q .normal a w):(Code.region id ops true).wpIn (Wd r0) 0 P Q a0 w0:=by
 have hm1:Mv m0 H w0 m0 H { w0 with drawn:=w0.drawn+1 }:=⟨⟨Ext.refl m0,rfl,rfl,rfl,bOt _,fun _ _ _=>rfl,fun _ h=>.inr h,fun _ _ h=>h,fun _ _ _ h=>.inl h⟩,bOt _,fun _ _ h=>h⟩
 have hH1:HR gl m0 H { w0 with drawn:=w0.drawn+1 }:=⟨hH.dom,fun id I b h1 h2=>by
  have:=hH.blk id I b h1 h2
  exact ⟨this.tot,this.lf,this.row,this.mrow⟩,hH.inj,hH.glb,hH.gld,hH.frz,hH.fow,hH.gow⟩
 have hfalse:(fun j=>(Array.replicate ops.size false).getD j false)=fun _=>false:=funext fun j=>by
  by_cases hj:j<ops.size<;>simp[hj]
 refine wpIn_region_any hm (bB0 (RgJ gl ops n d F m0 H a0 w0) (fun i o ho=>(hac i o ho).1) (fun L a w i o hJ hL ho he => ?_) (fun L a w hJ hall=>hend L a w hJ fun i hi=>hall i (by omega)) ops.size _ a0 _ (by simp) (by simp[List.count_replicate]) ?_)
 ·have hi:i<n:=by rw[←hsz];exact (bOm.1 ho).1
  obtain ⟨_,h1,h2,h3⟩:=hac i o ho
  exact aYl hF hn hd hinj hJ hL hi ho h1 h2 h3 he fun m q1 q2 q3=>hrun L a w i o m hJ hL ho he q1 q2 q3
 ·rw[hfalse]
  exact ⟨rfl,rfl,fun _ _=>rfl,⟨m0,hH1,hm1,fun i _ h=>by simp at h⟩,fun i h=>by simp at h,fun i o h=>by simp at h⟩
theorem qH {m:M} {H:List Blk} {w:World} {ρ:Operand→Value} (hH:HR gl m H w) {o:Oper} {t u e:TypeId} {x y:Operand} (ho:o.op=.call { callee:=.builtin .append,args := #[x,y],argTypes := #[t,u] })
  (ht:P.underlying t=some (.slice e)) (hk:bJ P e=true) (hz:(fU P e).length=szT P e) (hu:∃e',P.underlying u=some (.slice e')) (hsz:0<szT P e)
  {X Y:List AV} {l n:Nat} {oa:Option Addr} (hx:VR m (.lst 0 X l (szT P e)) (ρ x)) (hxf:ρ x=.slice oa l l) (hy:VR m (.lst 0 Y n (szT P e)) (ρ y)) (hX:X.length=l*szT P e) (hY:Y.length=n*szT P e)
  (hf1:aL 0 (X++Y)=true) (hf2:bG (X++Y)=true) (b1:l+n≤1099511627776) (b2:(l+n)*P.bytesOf e≤1099511627776) :
  ∃v w' m',(execOp ρ o).run P w=.ok (.value v) w'∧HR gl m' H w'∧Mv m H w m' H w'∧VR m' (.lst 0 (X++Y) (l+n) (szT P e)) v∧∃oa' cap,v=.slice oa' (l+n) cap:=by
 have key:∀v w',(Builtin.append_ #[t,u] o.type #[ρ x,ρ y]).run P w=.ok v w'→(execOp ρ o).run P w=.ok (.value v) w':=by
  intro v w' hv
  simp[execOp,ho,resolve,invoke,builtin,hv]
 obtain ⟨⟨i,hi⟩,_⟩:=dM hk
 have his:i.size=szT P e:=by simp[szT,Program.cellsOf,hi]
 have hib:i.bytes=P.bytesOf e:=by simp[Program.bytesOf,hi]
 obtain ⟨i',z,hi',hzz,hzR,hzr⟩:=qQ (P:=P) (m:=m) (w:=w) (t:=e) (by omega)
 rw[hi] at hi'
 cases hi'
 have hzs:z.cells.size=szT P e:=by rw[←hz];simpa using hzR.len.symm
 obtain ⟨olds,o1,o2,o3,o4⟩:=src_ok (P:=P) hH hx (size:=szT P e) (k:=l) (b:=Nat.beq (szT P e) (szT P e)&&Nat.beq X.length (l*szT P e)) rfl (by simp[aN,hX])
 obtain ⟨news,n1,n2,n3,n4⟩:=src_ok (P:=P) hH hy (size:=szT P e) (k:=n) (b:=Nat.beq (szT P e) (szT P e)&&Nat.beq Y.length (n*szT P e)) rfl (by simp[aN,hY])
 have hall:news.take (n*szT P e)=news:=bOk (by omega)
 have hallo:olds.take (l*szT P e)=olds:=bOk (by omega)
 have A:Apps P w t u o.type e i z (ρ y) n news:=aNc ht (.inl hu) hi hzz n3 (fun w1 hw1=>by
  have:=n4 n (bOt _) w1 hw1
  rw[hall] at this
  rw[his]
  exact this) (fun h=>bO5 (by rw[n2,h,bQ3]))
 by_cases hn:n=0
 ·subst hn
  have hY0:Y=[]:=bO5 (by rw[hY,bQ3])
  have hne:news=[]:=bO5 (by rw[n2,bQ3])
  subst hY0
  rw[bPd,bQb]
  refine ⟨ρ x,w,m,key _ _ ?_,hH,Mv.refl _ _ _,hx,oa,l,hxf⟩
  rw[hxf]
  cases oa with
  | some b=>
   have:=A.room b l l w (by rw[hne];simp[storeCells]) (by omega)
   simpa using this
  | none=>
   have hl0:l=0:=by
    rw[hxf] at hx
    simp only[VR] at hx
    obtain ⟨_,_,oa',cap,e1,_,e2⟩:=hx
    cases e1
    rcases e2 with ⟨a,_,h,_⟩ | ⟨h,_⟩
    ·cases h
    ·exact h
   subst hl0
   exact A.nil rfl
 ·have hge:=bT4 w (l+n) l e
  have hrun:=A.grow oa l l olds (by
   have:=o4 l (bOt _) w.drew rfl
   rw[hallo] at this
   rw[his,←hxf]
   exact this) (by omega) b1 (by rw[hib];exact b2)
  rw[←hxf] at hrun
  have hN:=(rR (m:=m) o1 n1 w e (Builtin.zeroCells z.cells (grownCap w (l+n) l e-(l+n))).toList 0).1
  obtain ⟨m2,q1,q2,q3⟩:=hH.newF hN hf2 (by simp[dW,hf1])
  have hgm:grownCap w (l+n) l e≤9223372036854775807:=bSm w (l+n) l e (by simp only[maxLen];omega)
  have hzc:(Builtin.zeroCells z.cells (grownCap w (l+n) l e-(l+n))).toList.length=(grownCap w (l+n) l e-(l+n))*szT P e:=by rw[bQs,size_zeroCells,hzs]
  have hlim:olds.length+news.length+(Builtin.zeroCells z.cells (grownCap w (l+n) l e-(l+n))).toList.length=grownCap w (l+n) l e*szT P e:=by
   rw[hzc,o2,n2,←bQn,←bQn];congr 1;omega
  refine ⟨_,_,m2,key _ _ hrun,q1,q2,q3 (l+n) (szT P e) _ ?_ ?_,_,_,rfl⟩
  ·simp only[VR]
   refine ⟨rfl,_,M.set_same _ _ _,bOt _,fun _=>⟨0,_,rfl,hge,.inl ⟨rfl, ?_⟩,fun _ _=>hgm⟩⟩
   show 0+grownCap w (l+n) l e*szT P e≤olds.length+news.length+_
   rw[hlim]
   omega
  ·show (l+n)*szT P e=(X++Y).length
   rw[bN8,hX,hY,bQn]
theorem aB1 {m:M} {w:World} {ρ:Operand→Value} {o:Oper} {t e:TypeId} {x h1 h2:Operand} (ho:o.op=.slice t x none (some h1) (some h2)) (hu:P.underlying t=some (.slice e)) (hk:bJ P e=true)
  {X:List AV} {len n:Nat} {k1 k2:IntKind} (hx:VR m (.lst 0 X len (szT P e)) (ρ x)) (e1:ρ h1=.int k1 (n:Int)) (e2:ρ h2=.int k2 (n:Int)) (hn:n≤len) :
  ∃oa,(execOp ρ o).run P w=.ok (.value (.slice oa n n)) w∧VR m (.lst 0 (X.take (n*szT P e)) n (szT P e)) (.slice oa n n):=by
 have hu':(underlying t).run P w=.ok (.slice e) w:=bOw hu w
 simp only[VR] at hx
 obtain ⟨_,hll,a2,cap,hv,hcap,hpos⟩:=hx
 have hm1:n*szT P e≤len*szT P e:=bQd _ hn
 have hr:(Instr.sliceBounds true len cap none (some (ρ h1)) (some (ρ h2))).run P w=.ok (0,n,n) w:=by
  have c1:0≤(n:Int)∧(n:Int)≤(cap:Int):=⟨by omega,by omega⟩
  have c2:0≤(n:Int)∧(n:Int)≤(n:Int):=⟨by omega,by omega⟩
  simp[Instr.sliceBounds,Instr.sliceBound,asIntOf,e1,e2,c1,c2]
 refine ⟨a2, ?_, ?_⟩
 ·simp only[execOp,ho]
  refine cK ?_
  cases a2 with
  | none=>
   have hc0:len=0∧cap=0∧X=[]:=by
    rcases hpos with ⟨a2,cs',f0,_⟩ | ⟨h1,h2,h3⟩
    ·cases f0
    ·exact ⟨h1,h3 rfl,h2⟩
   obtain ⟨rfl,rfl,rfl⟩:=hc0
   obtain rfl:n=0:=by omega
   simp[Instr.sliceAt,Instr.slice,hu',hv,hr,bH hk]
  | some a2=>
   by_cases hn0:n=0
   ·subst hn0
    simp[Instr.sliceAt,Instr.slice,hu',hv,hr,bH hk]
   ·have h0:a2.add 0=a2:=by
     cases a2 with
     | mk b o sp=>cases sp<;>rfl
    simp[Instr.sliceAt,Instr.slice,hu',hv,hr,bH hk,hn0,h0]
 ·simp only[VR]
  refine ⟨rfl,by simp;omega,a2,n,rfl,bOt _, ?_⟩
  rcases hpos with ⟨a,cs,rfl,f1,f2,f3,f4⟩ | ⟨h1,h2,h3⟩
  ·left
   refine ⟨a,cs,rfl,f1,f2,by simp;omega, ?_⟩
   have:=f4.take (n*szT P e)
   rwa [bSa,show min (n*szT P e) X.length=(X.take (n*szT P e)).length by simp] at this
  ·right
   exact ⟨by omega,by rw[h2];simp,fun _=>by omega⟩
theorem aOl {m:M} {H:List Blk} {w:World} {ρ:Operand→Value} {ev:AO→AV} (hH:HR gl m H w) (hρ:∀x,VR m (ev (cO x)) (ρ x)) (hev:∀v,ev (.c v)=v) {o:Oper} {C:List AV} {sz:Nat} {r:LR}
  (h:lop gl ev (cur H) (aQ H) H.length (cOp P o.op)=some r) (hp:r.pre=true) (hr:r.v=.sl H.length C.length 0 1 sz) (hnb:r.nb=some (dW .exact C)) (hC:C.length=sz) (h0:0<sz) (hf1:aL 0 C=true) (hf2:bG C=true) :
  ∃oa w' m',(execOp ρ o).run P w=.ok (.value (.slice oa 1 1)) w'∧HR gl m' H w'∧Mv m H w m' H w'∧VR m' (.lst 0 C 1 sz) (.slice oa 1 1):=by
 rcases aCd (P:=P) hH hρ hev o H.length h hp with ⟨h1,_⟩ | ⟨nb,v,w',I,h1,hrun,hN,hv⟩
 ·rw[hnb] at h1;cases h1
 rw[hnb] at h1
 cases h1
 rw[hr] at hv
 have hv1:=hv (m.set H.length I) (M.set_same _ _ _)
 obtain ⟨m2,q1,q2,q3⟩:=hH.newF hN hf2 (by simp[dW,hf1])
 have hq:=q3 1 sz v hv1 (by show 1*sz=C.length;omega)
 obtain ⟨cu,e,lo,hi,_,_,_,r4,_⟩:=hN.row
 have hlim:=r4 rfl
 have htot:I.tot=C.length:=hN.tot
 have hv2:=hv1
 simp only[VR] at hv2
 obtain ⟨_,J,j1,_,j2⟩:=hv2
 rw[M.set_same] at j1
 cases j1
 obtain ⟨o',cap,rfl,c1,c2,_⟩:=j2 htot.symm
 have hcap:cap=1:=by
  rcases c2 with ⟨c3,c4⟩ | ⟨c3,_⟩
  ·have:cap*sz≤1*sz:=by omega
   have:=Nat.le_of_mul_le_mul_right this h0
   omega
  ·cases c3
 subst hcap
 exact ⟨_,w',m2,hrun,q1,q2,hq⟩
end
end Go.Proofs.YtnhechnaemmdiaaGreatDoor

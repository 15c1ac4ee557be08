/-
  The engine, part U: a program's functions as they are compiled; what a run of the evaluator says of a call.
-/
import Derived.Test.YtnhechnaemmdiaaGreatDoorEnF
import Derived.RecoverIn
set_option linter.unusedSimpArgs false
set_option linter.unusedVariables false
namespace Go.Proofs.YtnhechnaemmdiaaGreatDoor
open Go.RowKit

section
variable {P:Program} {gl:Nat->Option HB} {nt:Nat}

theorem jF(fid:Nat):∀ (code:Code) (i:Nat),Comp P gl nt code (cC P fid nt i code)
 | .skip,_=>.skip
 | .label l,_=>.label l
 | .region id ops draw,_=>by
  cases draw
  ·exact .region id ops
  ·show Comp P gl nt _ (drawnOf P nt ops)
   have:(∃l,drawnOf P nt ops=.drawn l)∨∃why,drawnOf P nt ops=.bad why:=by
    unfold drawnOf
    simp only
    generalize (Nat.beq _ _&&_&&_&&_)=b
    cases b
    ·exact .inr ⟨_,rfl⟩
    ·exact .inl ⟨_,rfl⟩
   rcases this with ⟨l,h⟩ | ⟨why,h⟩
   ·rw[h];exact .drawn id ops l h
   ·rw[h];exact .bad _ why
 | .seq a b,i=>.seq (jF fid a i) (jF fid b i)
 | .cond c a b,i=>.cond c (jF fid a i) (jF fid b i)
 | .block id b,_=>.block id (jF fid b id)
 | .loop b,i=>.loop _ _ (jF fid b i)
 | .exit id,_=>.exit id
 | .scope b,i=>.scope (jF fid b i)
 | .goto _,_=>.bad _ _
 | .ret,_=>.ret
 | .rangeFunc g ps a b,i=>by
  show Comp P gl nt _ (bif ps.toList.all (fun p => Nat.blt p nt) then .rfn (cO g) ps.toList (cC P fid nt i a) (cC P fid nt i b) else .bad "rangeFunc")
  cases hc:ps.toList.all (λp=>Nat.blt p nt)
  ·exact .bad _ _
  ·rw[bXw]
   refine .rfn g ps (jF fid a i) (jF fid b i) λp hp => ?_
   rw[bYy]at hc
   have:=hc p hp
   rwa[aD]at this
 | .refuse w,_=>.bad _ w

theorem bF0{code:Code}{c:AC}(h:Comp P gl nt code c):∀ (L:Nat) (xs:List (Nat×Nat)) (R:Nat),Comp P gl nt code (an c L xs R).1:=by
 induction h with
 | skip=>intro L xs R;exact .skip
 | label l=>intro L xs R;exact .label l
 | region id ops=>intro L xs R;exact .region id ops
 | drawn id ops l h=>intro L xs R;exact .drawn id ops l h
 | seq h1 h2 ih1 ih2=>intro L xs R;exact .seq (ih1 _ _ _) (ih2 _ _ _)
 | cond c h1 h2 ih1 ih2=>intro L xs R;exact .cond c (ih1 _ _ _) (ih2 _ _ _)
 | block id h ih=>intro L xs R;exact .block id (ih _ _ _)
 | loop id lv h ih=>intro L xs R;exact .loop id _ (ih _ _ _)
 | exit id=>intro L xs R;exact .exit id
 | scope h ih=>intro L xs R;exact .scope (ih _ _ _)
 | ret=>intro L xs R;exact .ret
 | bad code why=>intro L xs R;exact .bad code why
 | sum code g h=>intro L xs R;exact .sum code g h
 | rfn f ps h1 h2 hps ih1 ih2=>intro L xs R;exact .rfn f ps (ih1 _ _ _) (ih2 _ _ _) hps

def qO (P : Program) : Bool := P.funcs.toList.all fun f => !(f.name == "runtime.NumGoroutine")

theorem bGg(hN:qO P=true){f:Nat}{g:AFn}(h:bB7 P f=some g):Enters P f∧∃fn body,P.funcs[f]? = some fn∧fn.body=some body∧Comp P gl fn.ntmps body g.body∧g.res=fn.results.toList.map (aXa P)∧(∀r∈fn.results.toList,aNr P r=true)∧fn.ntmps<=4000:=by
 unfold bB7 at h
 split at h
 ·rename_i fn hf
  split at h
  ·rename_i body hb
   cases hc:(fn.results.toList.all (aNr P)&&Nat.ble fn.ntmps 4000)
   ·rw[hc]at h;cases h
   ·rw[hc]at h
    simp only[bXw,bW5]at h
    subst h
    simp only[bW3,bYy,bX5]at hc
    refine⟨⟨fn,hf,by rw[hb];rfl, ?_⟩,fn,body,hf,hb,bF0 (jF f body 0) _ _ _,rfl,hc.1,hc.2⟩
    unfold qO at hN
    rw[bYy]at hN
    have:=hN fn (by simpa using Array.mem_of_getElem? hf)
    simpa using this
  ·cases h
 ·cases h

structure EnvFor (P:Program) (E:Env):Prop where
 mixed:P.follows .mixedOrders=true
 names:qO P=true
 fn:∀f g,E.fn f=some g->bB7 P f=some g
 sm:∀f g,E.sm f=some g->aI P E.gl f g

theorem EnvFor.ok{E:Env}(h:EnvFor P E):EnvOk P E:=⟨h.mixed,λf g hf=>bGg h.names (h.fn f g hf),h.sm⟩

theorem vZ{E:Env}(hE:EnvFor P E){n:Nat}{f:FuncId}{args:HB}{H:HV}{Q:BS}(h:aT E (wpx E n) f args H {} Q){m:M}{vs:Array Value}{w:World}(hv:VRL m args vs.toList)(hH:HR E.gl m H w)(hl:m.lp=λ_=>none) :
  Calls P f vs w (kK P E.gl [] m H w Q):=
 (aCk hE.ok (bL9 hE.ok n) h hv hH (X:=[]) ⟨trivial,λu l hu=>(by rw[hl]at hu;cases hu),cBa,cBa⟩).2

theorem Mx.below{m m':M}{H H':HV}{w w':World}(h:Mx [] m H w m' H' w'){B:Nat}(hB:B<=w.heap.size)(ho:∀k,jH m H k->B<=k):Below B w w':=
 ⟨h.os,h.tape,h.output,h.size,λk hk=>h.keep k (by omega) (λhk'=>by have:=ho k hk';omega) (by simp)⟩

def m00:M:=⟨λ_=>none,λ_=>undef,λ_=>none,λ_ _=>none⟩

def bSy(gl:Nat->Option HB)(w:World):Prop:=∀g cs,gl g=some cs->aP 0 cs=true∧∃cu e fr,w.heap[g]? = some (.cells cu e fr)∧VRL m00 cs cu.toList

def isT(o:Out)(_:HV)(_:Gh):Prop:=match o with
 | .ret (.bool true)=>True
 | _=>False

end
end Go.Proofs.YtnhechnaemmdiaaGreatDoor

namespace Go.Proofs.YtnhechnaemmdiaaGreatDoor
open Go.RowKit

section
variable {P:Program}

end

end Go.Proofs.YtnhechnaemmdiaaGreatDoor

namespace Go.Proofs.YtnhechnaemmdiaaGreatDoor
open Go.RowKit

def aW:List (Nat×Pa)->LI
 | [],_=>none
 | (k,p)::l,j=>bif Nat.beq k j then some p else aW l j
def aV:List (Nat×Bool)->LB
 | [],_=>none
 | (k,p)::l,j=>bif Nat.beq k j then some p else aV l j
def mkT:List (Nat×AV)->T
 | []=>.e
 | (k,v)::l=>T.put 12 (mkT l) k v

mutual
def ren(ρ:Nat->Nat):AV->AV
 | .ptr id tot off=>.ptr (ρ id) tot off
 | .sl id tot off len sz=>.sl (ρ id) tot off len sz
 | .mp id=>.mp (ρ id)
 | .fn f x y=>.fn f (qG ρ x) (qG ρ y)
 | .yld _=>.undef
 | .iface t v=>.iface t (ren ρ v)
 | .agg l=>.agg (qG ρ l)
 | .tup l=>.tup (qG ρ l)
 | v=>v
def qG(ρ:Nat->Nat):HB->HB
 | []=>[]
 | v::l=>ren ρ v::qG ρ l
end

def bKu(ρ:Nat->Nat):Out->Out
 | .ret v=>.ret (ren ρ v)
 | .pan v=>.pan (ren ρ v)

def aDd(ρ:Nat->Nat)(b:Blk):Blk:=⟨b.k,b.lf,qG ρ b.cs⟩

theorem nY(ρ:Nat->Nat):∀l,(qG ρ l).length=l.length
 | []=>rfl
 | _::l=>by simp[qG,nY ρ l]

mutual
theorem aRt(ρ:Nat->Nat):∀a,old 0 a=true->old 0 (ren ρ a)=true
 | .undef,_=>rfl
 | .opq _,_=>rfl
 | .bool _,_=>rfl
 | .int _ _,_=>rfl
 | .str _,_=>rfl
 | .nilp,_=>rfl
 | .ptr _ _ _,h=>by simp[old]at h
 | .gptr _ _,_=>rfl
 | .nils,_=>rfl
 | .sl _ _ _ _ _,h=>by simp[old]at h
 | .nilf,_=>rfl
 | .fn _ x y,h=>by
  simp only[ren,old,bW3]at h ⊢
  exact⟨mD ρ x h.1,mD ρ y h.2⟩
 | .yld _,_=>rfl
 | .nili,_=>rfl
 | .iface _ v,h=>by simp only[ren,old]at h ⊢;exact aRt ρ v h
 | .agg l,h=>by simp only[ren,old]at h ⊢;exact mD ρ l h
 | .tup l,h=>by simp only[ren,old]at h ⊢;exact mD ρ l h
 | .lst _ _ _ _,_=>rfl
 | .lptr _ _ _,_=>rfl
 | .mpn,_=>rfl
 | .mp _,h=>by simp[old]at h
theorem mD(ρ:Nat->Nat):∀l,aP 0 l=true->aP 0 (qG ρ l)=true
 | [],_=>rfl
 | v::l,h=>by
  simp only[qG,aP,bW3]at h ⊢
  exact⟨aRt ρ v h.1,mD ρ l h.2⟩
end

mutual
theorem VR.small{m m0:M}{ρ:Nat->Nat}{n:Nat}(hb:∀j,j<n->m0.blk j=m.blk (ρ j))(ho:m0.opq=m.opq)(hs:Ext m.strip m0.strip):∀ (a:AV) (v:Value),old n a=true->noY a=true->VR m (ren ρ a) v->VR m0 a v
 | .undef,_,_,_,_=>by simp[VR]
 | .opq i,v,_,_,h=>by simpa only[ren,VR,ho]using h
 | .bool _,_,_,_,h=>by simpa only[ren,VR]using h
 | .int _ _,_,_,_,h=>by simpa only[ren,VR]using h
 | .str _,_,_,_,h=>by simpa only[ren,VR]using h
 | .nilp,_,_,_,h=>by simpa only[ren,VR]using h
 | .ptr id tot off,v,o,_,h=>by
  simp only[old,aD]at o
  simp only[ren,VR]at h ⊢
  rw[hb id o];exact h
 | .gptr _ _,_,_,_,h=>by simpa only[ren,VR]using h
 | .nils,_,_,_,h=>by simpa only[ren,VR]using h
 | .sl id tot off len sz,v,o,_,h=>by
  simp only[old,aD]at o
  simp only[ren,VR]at h ⊢
  rw[hb id o];exact h
 | .mpn,_,_,_,h=>by simpa only[ren,VR]using h
 | .mp id,v,o,_,h=>by
  simp only[old,aD]at o
  simp only[ren,VR]at h ⊢
  rw[hb id o];exact h
 | .nilf,_,_,_,h=>by simpa only[ren,VR]using h
 | .fn f x y,v,o,q,h=>by
  simp only[old,noY,bW3]at o q
  simp only[ren,VR]at h ⊢
  obtain⟨x',y',h1,h2,h3⟩:=h
  exact⟨x',y',h1,VRL.small hb ho hs x _ o.1 q.1 h2,VRL.small hb ho hs y _ o.2 q.2 h3⟩
 | .yld u,_,_,q,_=>by simp[noY]at q
 | .nili,_,_,_,h=>by simpa only[ren,VR]using h
 | .iface t v,_,o,q,h=>by
  simp only[old,noY]at o q
  simp only[ren,VR]at h ⊢
  obtain⟨x,h1,h2⟩:=h
  exact⟨x,h1,VR.small hb ho hs v x o q h2⟩
 | .agg l,_,o,q,h=>by
  simp only[old,noY]at o q
  simp only[ren,VR]at h ⊢
  obtain⟨x,h1,h2⟩:=h
  exact⟨x,h1,VRL.small hb ho hs l _ o q h2⟩
 | .tup l,_,o,q,h=>by
  simp only[old,noY]at o q
  simp only[ren,VR]at h ⊢
  obtain⟨x,h1,h2⟩:=h
  exact⟨x,h1,VRL.small hb ho hs l _ o q h2⟩
 | .lst t l len sz,v,_,_,h=>by
  simp only[ren,VR]at h ⊢
  obtain⟨h1,h2,a,cap,h3,h4,h5⟩:=h
  exact⟨h1,h2,a,cap,h3,h4,h5.imp (λ⟨a,cs,ka,k0,k1,k2,k3⟩=>⟨a,cs,ka,k0,hs.frz _ _ _ k1,k2,VRL.mono hs _ _ k3⟩) id⟩
 | .lptr t l off,v,_,_,h=>by
  simp only[ren,VR]at h ⊢
  obtain⟨h1,b,o,cs,h3,h4,h5,h6⟩:=h
  exact⟨h1,b,o,cs,h3,hs.frz _ _ _ h4,h5,VRL.mono hs _ _ h6⟩
theorem VRL.small{m m0:M}{ρ:Nat->Nat}{n:Nat}(hb:∀j,j<n->m0.blk j=m.blk (ρ j))(ho:m0.opq=m.opq)(hs:Ext m.strip m0.strip):∀ (l:HB) (vs:List Value),aP n l=true->bX l=true->VRL m (qG ρ l) vs->VRL m0 l vs
 | [],vs,_,_,h=>by simpa only[qG,VRL]using h
 | a::l,vs,o,q,h=>by
  simp only[aP,bX,bW3]at o q
  simp only[qG]at h
  obtain⟨v,vs',rfl,h1,h2⟩:=bB h
  rw[bH]
  exact⟨VR.small hb ho hs a v o.1 q.1 h1,VRL.small hb ho hs l vs' o.2 q.2 h2⟩
end

mutual
theorem VR.wide{m m0:M}{σ:Nat->Nat}(hb:∀j I,m0.blk j=some I->m.blk (σ j)=some I)(ho:m0.opq=m.opq)(hs:Ext m0.strip m.strip):∀ (a:AV) (v:Value),VR m0 a v->VR m (ren σ a) v
 | .undef,_,_=>by simp[ren,VR]
 | .opq i,v,h=>by simpa only[ren,VR,ho]using h
 | .bool _,_,h=>by simpa only[ren,VR]using h
 | .int _ _,_,h=>by simpa only[ren,VR]using h
 | .str _,_,h=>by simpa only[ren,VR]using h
 | .nilp,_,h=>by simpa only[ren,VR]using h
 | .ptr id tot off,v,h=>by
  simp only[ren,VR]at h ⊢
  obtain⟨h1,I,h2,h3⟩:=h
  exact⟨h1,I,hb _ _ h2,h3⟩
 | .gptr _ _,_,h=>by simpa only[ren,VR]using h
 | .nils,_,h=>by simpa only[ren,VR]using h
 | .sl id tot off len sz,v,h=>by
  simp only[ren,VR]at h ⊢
  obtain⟨h1,I,h2,h3⟩:=h
  exact⟨h1,I,hb _ _ h2,h3⟩
 | .mpn,_,h=>by simpa only[ren,VR]using h
 | .mp id,v,h=>by
  simp only[ren,VR]at h ⊢
  obtain⟨h1,I,h2,h3⟩:=h
  exact⟨h1,I,hb _ _ h2,h3⟩
 | .nilf,_,h=>by simpa only[ren,VR]using h
 | .fn f x y,v,h=>by
  simp only[ren,VR]at h ⊢
  obtain⟨x',y',h1,h2,h3⟩:=h
  exact⟨x',y',h1,VRL.wide hb ho hs x _ h2,VRL.wide hb ho hs y _ h3⟩
 | .yld u,_,_=>by simp[ren,VR]
 | .nili,_,h=>by simpa only[ren,VR]using h
 | .iface t v,_,h=>by
  simp only[ren,VR]at h ⊢
  obtain⟨x,h1,h2⟩:=h
  exact⟨x,h1,VR.wide hb ho hs v x h2⟩
 | .agg l,_,h=>by
  simp only[ren,VR]at h ⊢
  obtain⟨x,h1,h2⟩:=h
  exact⟨x,h1,VRL.wide hb ho hs l _ h2⟩
 | .tup l,_,h=>by
  simp only[ren,VR]at h ⊢
  obtain⟨x,h1,h2⟩:=h
  exact⟨x,h1,VRL.wide hb ho hs l _ h2⟩
 | .lst t l len sz,v,h=>by
  simp only[ren,VR]at h ⊢
  obtain⟨h1,h2,a,cap,h3,h4,h5⟩:=h
  exact⟨h1,h2,a,cap,h3,h4,h5.imp (λ⟨a,cs,ka,k0,k1,k2,k3⟩=>⟨a,cs,ka,k0,hs.frz _ _ _ k1,k2,VRL.mono hs _ _ k3⟩) id⟩
 | .lptr t l off,v,h=>by
  simp only[ren,VR]at h ⊢
  obtain⟨h1,b,o,cs,h3,h4,h5,h6⟩:=h
  exact⟨h1,b,o,cs,h3,hs.frz _ _ _ h4,h5,VRL.mono hs _ _ h6⟩
theorem VRL.wide{m m0:M}{σ:Nat->Nat}(hb:∀j I,m0.blk j=some I->m.blk (σ j)=some I)(ho:m0.opq=m.opq)(hs:Ext m0.strip m.strip):∀ (l:HB) (vs:List Value),VRL m0 l vs->VRL m (qG σ l) vs
 | [],vs,h=>by simpa only[qG,VRL]using h
 | a::l,vs,h=>by
  obtain⟨v,vs',rfl,h1,h2⟩:=bB h
  simp only[qG]
  rw[bH]
  exact⟨VR.wide hb ho hs a v h1,VRL.wide hb ho hs l vs' h2⟩
end

structure Fr (ρ:Nat->Nat) (H0 H:HV):Prop where
 blk:∀ (j:Nat) (b0:Blk),H0[j]? = some b0->ρ j<H.length∧aP H0.length b0.cs=true∧bX b0.cs=true∧(b0.lf=true->aP 0 b0.cs=true)∧∃b,H[ρ j]? = some b∧b.cs=qG ρ b0.cs∧(b0.k=.ro∨b0.k=b.k)
 inj:∀ (j j':Nat) (b0:Blk),H0[j]? = some b0->b0.k≠.ro->j'<H0.length->ρ j=ρ j'->j=j'
 nmp:∀ (j:Nat) (b0:Blk),H0[j]? = some b0->b0.k=.ro->∀c,b0.cs≠[.tup c]

theorem kG{b:Blk}(h:b.k=.ro->∀c,b.cs≠[.tup c]):isMap b=false:=by
 cases hb:isMap b with
 | false=>rfl
 | true=>
  obtain⟨c,hc⟩:=lZ hb
  obtain⟨k1,k2⟩:=jP hc
  exact absurd k2 (h k1 c)
theorem aP8{ρ:Nat->Nat}{b0 b:Blk}(h:b.cs=qG ρ b0.cs)(hk:b0.k=.ro∨b0.k=b.k)(hm:b0.k=.ro->∀c,b0.cs≠[.tup c]):isMap b=false:=by
 refine kG λk1 c k2 => ?_
 have hk0:b0.k=.ro:=hk.elim id λe=>e.trans k1
 rw[k2]at h
 cases hc0:b0.cs with
 | nil=>rw[hc0]at h;simp[qG]at h
 | cons x l=>
  rw[hc0]at h
  simp only[qG,bZp]at h
  cases l with
  | cons y l=>simp[qG]at h
  | nil=>
   cases x<;>simp[ren]at h
   exact hm hk0 _ hc0

def sig(ρ:Nat->Nat)(n N:Nat)(j:Nat):Nat:=if j<n then ρ j else N+(j-n)

structure FrEnd (ρ:Nat->Nat) (H0 H0' H H':HV):Prop where
 len:H0.length<=H0'.length
 ro:∀ (j:Nat) (b0:Blk),H0[j]? = some b0->b0.k=.ro->∃b,H0'[j]? = some b∧b.k=.ro∧b.cs=b0.cs
 nro:∀ (j:Nat) (b0:Blk),H0[j]? = some b0->b0.k≠.ro->∃b,H0'[j]? = some b∧b.k=b0.k
 new:∀ (j:Nat) (b0:Blk),H0.length<=j->H0'[j]? = some b0->b0.k≠.ro
 len':H'.length=H.length+(H0'.length-H0.length)
 same:∀id,id<H.length->(∀ (j:Nat) (b0:Blk),H0[j]? = some b0->b0.k≠.ro->ρ j≠id)->H'[id]? = H[id]?
 got:∀ (j:Nat) (b:Blk),H0'[j]? = some b->b.k≠.ro->H'[sig ρ H0.length H.length j]? = some (aDd (sig ρ H0.length H.length) b)

section
variable {P:Program} {gl:Nat->Option HB} {m:M} {H H0:HV} {w:World} {ρ:Nat->Nat}

def eQ(m:M)(ρ:Nat->Nat)(n:Nat):M:=⟨λj=>if j<n then m.blk (ρ j)else none,m.opq,λ_=>none,m.frz⟩

theorem Fr.hr(hF:Fr ρ H0 H)(hH:HR gl m H w)(hgl:∀g cs,gl g=some cs->bX cs=true):HR gl (eQ m ρ H0.length) H0 w:=by
 have hb:∀j,j<H0.length->(eQ m ρ H0.length).blk j=m.blk (ρ j):=λj hj=>by simp[eQ,hj]
 have hlt:∀ {j I},(eQ m ρ H0.length).blk j=some I->j<H0.length∧m.blk (ρ j)=some I:=λ{j I} h=>by
  simp only[eQ]at h
  split at h
  ·rename_i hj;exact⟨hj,h⟩
  ·cases h
 refine⟨λid I h=>(hlt h).1,λid I b0 h h2 => ?_,λj j' I I' b0 h1 h2 h3 h4 h5 => ?_,λg cs hg => ?_,hH.gld,hH.frz,λt k cs id I b0 hg h1 h2 h3 => ?_,λg cs id I b0 hg h1 h2 h3 => ?_⟩
 ·obtain⟨hj,hm⟩:=hlt h
  obtain⟨e1,e2,e3,e4,b,e5,e6,e7⟩:=hF.blk id b0 h2
  have hB:=hH.blk _ I b hm e5
  obtain⟨cu,e,lo,hi,q1,q2,q3,q4,q5,q6⟩:=hB.row (aP8 e6 e7 (hF.nmp id b0 h2))
  refine⟨by rw[hB.tot,e6,nY],e4,λ_=>⟨cu,e,lo,hi,q1,q2,q3,λhk => ?_,λhk => ?_, ?_⟩,λc hc=>by
   have:=kG (hF.nmp id b0 h2)
   simp[isMap,hc]at this⟩
  ·rcases e7 with e7 | e7
   ·rw[hk]at e7;cases e7
   ·exact q4 (by rw[←e7,hk])
  ·rcases e7 with e7 | e7
   ·exact absurd e7 hk
   ·rw[e7];exact q5 (by rw[←e7];exact hk)
  ·rw[e6]at q6
   exact VRL.small hb rfl (Ext.refl _) _ _ e2 e3 q6
 ·obtain⟨hj,hm⟩:=hlt h1
  obtain⟨hj',hm'⟩:=hlt h2
  obtain⟨e1,e2,e3,e4,b,e5,e6,e7⟩:=hF.blk j b0 h3
  have h4:=aLc h4 (kG (hF.nmp j b0 h3))
  have hk:b.k≠.ro:=by
   rcases e7 with e7 | e7
   ·exact absurd e7 h4
   ·rw[←e7];exact h4
  exact hF.inj j j' b0 h3 h4 hj' (hH.inj _ _ _ _ b hm hm' e5 (.inl hk) h5)
 ·obtain⟨cu,e,fr,h1,h2⟩:=hH.glb g cs hg
  exact⟨cu,e,fr,h1,VRL.flat (m:=m) (m':=eQ m ρ H0.length) rfl (Ext.refl _) _ _ (hH.gld g cs hg) (hgl g cs hg) h2⟩
 ·obtain⟨hj,hm⟩:=hlt h1
  obtain⟨e1,e2,e3,e4,b,e5,e6,e7⟩:=hF.blk id b0 h2
  have h3:=aLc h3 (kG (hF.nmp id b0 h2))
  exact hH.fow t k cs _ I b hg hm e5 (.inl <| by
   rcases e7 with e7 | e7
   ·exact absurd e7 h3
   ·rw[←e7];exact h3)
 ·obtain⟨hj,hm⟩:=hlt h1
  obtain⟨e1,e2,e3,e4,b,e5,e6,e7⟩:=hF.blk id b0 h2
  have h3:=aLc h3 (kG (hF.nmp id b0 h2))
  exact hH.gow g cs _ I b hg hm e5 (.inl <| by
   rcases e7 with e7 | e7
   ·exact absurd e7 h3
   ·rw[←e7];exact h3)

open Classical in
noncomputable def aOt(m m0':M)(ρ:Nat->Nat)(H0 H:HV):M:=
 ⟨λid=>if id<H.length then(if h:∃j:Nat,(∃b0:Blk,H0[j]? = some b0∧b0.k≠.ro)∧ρ j=id then m0'.blk h.choose else m.blk id)else m0'.blk (H0.length+(id-H.length)),m.opq,m.lp,m0'.frz⟩

theorem Fr.end(hF:Fr ρ H0 H)(hH:HR gl m H w)(hgl:∀g cs,gl g=some cs->bX cs=true){H0' H':HV}{w':World}{m0':M}(hE:FrEnd ρ H0 H0' H H')(hH0':HR gl m0' H0' w')(hM:Mx [] (eQ m ρ H0.length) H0 w m0' H0' w') :
  ∃m',(∀j I,m0'.blk j=some I->m'.blk (sig ρ H0.length H.length j)=some I)∧m'.opq=m0'.opq∧m'.frz=m0'.frz∧HR gl m' H' w'∧Mv m H w m' H' w':=by
 have hb0:∀j,j<H0.length->(eQ m ρ H0.length).blk j=m.blk (ρ j):=λj hj=>by simp[eQ,hj]
 have hget:∀j,j<H0.length->∃b0,H0[j]? = some b0:=λj hj=>⟨H0[j],bW8 hj⟩
 have hltH:∀ {j b0},H0[j]? = some b0->j<H0.length:=λh=>(bXq.1 h).1
 -- a number that is written has one small number
 have hch:∀ (j:Nat) (b0:Blk) (h:∃j':Nat,(∃b0:Blk,H0[j']? = some b0∧b0.k≠.ro)∧ρ j'=ρ j),H0[j]? = some b0->b0.k≠.ro->h.choose=j:=λj b0 h h1 h2=>by
  obtain⟨⟨b1,c1,c2⟩,c3⟩:=h.choose_spec
  exact hF.inj _ _ b1 c1 c2 (hltH h1) c3
 -- blocks that the run may not write stay
 have hro:∀ (j:Nat) (b0:Blk) (I:Inf),H0[j]? = some b0->b0.k=.ro->m0'.blk j=some I->m.blk (ρ j)=some I:=λj b0 I h1 h2 h3=>by
  have hj:=hltH h1
  cases hm:m.blk (ρ j)with
  | none=>rw[hM.nw j hj (by rw[hb0 j hj,hm])]at h3;cases h3
  | some J=>
   obtain⟨J',e1,e2,e3⟩:=hM.ext.blk j J (by rw[hb0 j hj,hm])
   rw[h3]at e1
   cases e1
   obtain⟨b,c1,c2,c3⟩:=hE.ro j b0 h1 h2
   have t1:=(hH0'.blk j I b h3 c1).tot
   have t2:=((hF.hr hH hgl).blk j J b0 (by rw[hb0 j hj,hm]) h1).tot
   rw[e3 (by rw[t1,t2,c3])]
 have hold:∀id,id<H.length->(∀ (j:Nat) (b0:Blk),H0[j]? = some b0->b0.k≠.ro->ρ j≠id)->(aOt m m0' ρ H0 H).blk id=m.blk id:=λid hid hn=>by
  simp only[aOt,if_pos hid]
  rw[dif_neg]
  rintro⟨j,⟨b0,h1,h2⟩,h3⟩
  exact hn j b0 h1 h2 h3
 have hwr:∀ (j:Nat) (b0:Blk),H0[j]? = some b0->b0.k≠.ro->(aOt m m0' ρ H0 H).blk (ρ j)=m0'.blk j:=λj b0 h1 h2=>by
  have hr:=(hF.blk j b0 h1).1
  simp only[aOt,if_pos hr]
  have hex:∃j',(∃b0,H0[j']? = some b0∧b0.k≠.ro)∧ρ j'=ρ j:=⟨j,⟨b0,h1,h2⟩,rfl⟩
  rw[dif_pos hex,hch j b0 hex h1 h2]
 have hnew:∀id,H.length<=id->(aOt m m0' ρ H0 H).blk id=m0'.blk (H0.length+(id-H.length)):=λid hid=>by
  simp only[aOt,if_neg (Nat.not_lt.2 hid)]
 have hsig:∀j I,m0'.blk j=some I->(aOt m m0' ρ H0 H).blk (sig ρ H0.length H.length j)=some I:=λj I h=>by
  unfold sig
  split
  ·rename_i hj
   obtain⟨b0,h1⟩:=hget j hj
   by_cases hk:b0.k=.ro
   ·have hmr:=hro j b0 I h1 hk h
    by_cases hx:∀ (j':Nat) (b1:Blk),H0[j']? = some b1->b1.k≠.ro->ρ j'≠ρ j
    ·rw[hold (ρ j) (hF.blk j b0 h1).1 hx];exact hmr
    ·exfalso
     apply hx
     intro j' b1 c1 c2 c3
     have:=hF.inj j' j b1 c1 c2 hj c3
     subst this
     rw[h1]at c1
     cases c1
     exact c2 hk
   ·rw[hwr j b0 h1 hk];exact h
  ·rename_i hj
   rw[hnew _ (by omega),show H0.length+(H.length+(j-H0.length)-H.length)=j by omega]
   exact h
 have hopq:m0'.opq=m.opq:=hM.ext.opq
 -- each number of the caller's comes of a small one, or is as it was
 have hcases:∀id I,(aOt m m0' ρ H0 H).blk id=some I->(∃j b,m0'.blk j=some I∧H0'[j]? = some b∧b.k≠.ro∧id=sig ρ H0.length H.length j∧H'[id]? = some (aDd (sig ρ H0.length H.length) b)) ∨
   (id<H.length∧(∀ (j:Nat) (b0:Blk),H0[j]? = some b0->b0.k≠.ro->ρ j≠id)∧m.blk id=some I∧H'[id]? = H[id]?):=λid I h=>by
  by_cases hid:id<H.length
  ·by_cases hx:∀ (j:Nat) (b0:Blk),H0[j]? = some b0->b0.k≠.ro->ρ j≠id
   ·exact .inr ⟨hid,hx,by rw[←hold id hid hx];exact h,hE.same id hid hx⟩
   ·have:∃ (j:Nat) (b0:Blk),H0[j]? = some b0∧b0.k≠.ro∧ρ j=id:=by
     apply cBb
     intro hne
     apply hx
     intro j b0 h1 h2 h3
     exact hne ⟨j,b0,h1,h2,h3⟩
    obtain⟨j,b0,h1,h2,rfl⟩:=this
    rw[hwr j b0 h1 h2]at h
    obtain⟨b,c1,c2⟩:=hE.nro j b0 h1 h2
    have hs:ρ j=sig ρ H0.length H.length j:=by unfold sig;rw[if_pos (hltH h1)]
    have hk:b.k≠.ro:=by rw[c2];exact h2
    exact .inl ⟨j,b,h,c1,hk,hs,by rw[hs];exact hE.got j b c1 hk⟩
  ·rw[hnew id (by omega)]at h
   have hlt:=hH0'.dom _ _ h
   have hs:id=sig ρ H0.length H.length (H0.length+(id-H.length)):=by unfold sig;rw[if_neg (by omega)];omega
   have hk:=hE.new _ _ (Nat.le_add_right _ _) (bW8 hlt)
   exact .inl ⟨_,_,h,bW8 hlt,hk,hs,by have:=hE.got _ _ (bW8 hlt) hk;rw[←hs]at this;exact this⟩
 have hsiz:∀id I,id<H.length->m.blk id=some I->I.b<w.heap.size:=λid I hid h=>by
  obtain⟨_,q1,_⟩:=(hH.blk id I H[id] h (bW8 hid)).obj
  exact(bXa.1 q1).1
 have hown0:∀k,jH (eQ m ρ H0.length) H0 k->∃ (j:Nat) (b0:Blk) (I:Inf) (b:Blk),H0[j]? = some b0∧b0.k≠.ro∧m.blk (ρ j)=some I∧H[ρ j]? = some b∧b.k≠.ro∧I.b=k:=λk hk=>by
  obtain⟨j,I,b0,h1,h2,h3,rfl⟩:=hk
  have hj:=hltH h2
  rw[hb0 j hj]at h1
  obtain⟨e1,e2,e3,e4,b,e5,e6,e7⟩:=hF.blk j b0 h2
  have h3:=aLc h3 (kG (hF.nmp j b0 h2))
  refine⟨j,b0,I,b,h2,h3,h1,e5, ?_,rfl⟩
  rcases e7 with e7 | e7
  ·exact absurd e7 h3
  ·rw[←e7];exact h3
 have hkeep:∀id I,id<H.length->m.blk id=some I->(∀ (j:Nat) (b0:Blk),H0[j]? = some b0->b0.k≠.ro->ρ j≠id)->¬ jH (eQ m ρ H0.length) H0 I.b:=λid I hid h hx ho=>by
  obtain⟨j,b0,J,b,h1,h2,h3,h4,h5,h6⟩:=hown0 _ ho
  exact hx j b0 h1 h2 (hH.inj _ _ _ _ b h3 h h4 (.inl h5) h6)
 have hstr:Ext m0'.strip (aOt m m0' ρ H0 H).strip:=⟨λ_ _ h=>(by cases h),hopq.symm,λ_ _ h=>(by cases h),λ_ _ _ h=>h⟩
 have hext:Ext m (aOt m m0' ρ H0 H):=by
  refine⟨λid I h => ?_,rfl,λu l h=>h,λt k cs h=>hM.ext.frz t k cs h⟩
  have hid:=hH.dom id I h
  by_cases hx:∀ (j:Nat) (b0:Blk),H0[j]? = some b0->b0.k≠.ro->ρ j≠id
  ·exact⟨I,by rw[hold id hid hx];exact h,bXe _,λ_=>rfl⟩
  ·have:∃ (j:Nat) (b0:Blk),H0[j]? = some b0∧b0.k≠.ro∧ρ j=id:=by
    apply cBb
    intro hne
    apply hx
    intro j b0 h1 h2 h3
    exact hne ⟨j,b0,h1,h2,h3⟩
   obtain⟨j,b0,h1,h2,rfl⟩:=this
   rw[hwr j b0 h1 h2]
   exact hM.ext.blk j I (by rw[hb0 j (hltH h1)];exact h)
 refine⟨aOt m m0' ρ H0 H,hsig,hopq.symm,rfl,⟨λid I h => ?_,λid I b h h2 => ?_,λid id' I I' b h1 h2 h3 h4 h5 => ?_,λg cs hg => ?_,hH.gld,hH0'.frz,λt k cs id I b hg h1 h2 h3 => ?_,λg cs id I b hg h1 h2 h3 => ?_⟩,
  ⟨⟨hext,hM.os,hM.tape,hM.output,hM.size,λk hk hno => ?_,λk hk => ?_,λu l h=>h,λt k cs hc => ?_⟩,by rw[hE.len'];omega,λid hid hn => ?_⟩⟩
 ·rcases hcases id I h with ⟨j,b,_,_,_,_,h4⟩ | ⟨h1,_⟩
  ·exact(bXq.1 h4).1
  ·rw[hE.len'];omega
 ·rcases hcases id I h with ⟨j,b1,c1,c2,c3,c4,c5⟩ | ⟨c1,c2,c3,c4⟩
  ·rw[c5]at h2
   cases h2
   have hB:=hH0'.blk j I b1 c1 c2
   obtain⟨cu,e,lo,hi,q1,q2,q3,q4,q5,q6⟩:=hB.row (nK c3)
   exact⟨by rw[hB.tot];simp[aDd,nY],λhl=>mD _ _ (hB.lf hl),λ_=>⟨cu,e,lo,hi,q1,q2,q3,q4,q5,VRL.wide hsig hopq hstr _ _ q6⟩,λc hc=>absurd (jP hc).1 c3⟩
  ·rw[c4]at h2
   exact(hH.blk id I b c3 h2).mono hext (hM.keep _ (hsiz id I c1 c3) (hkeep id I c1 c3 c2) (by simp))
 ·rcases hcases id I h1 with ⟨j,b1,c1,c2,c3,c4,c5⟩ | ⟨c1,c2,c3,c4⟩<;>rcases hcases id' I' h2 with ⟨j',b1',c1',c2',c3',c4',c5'⟩ | ⟨c1',c2',c3',c4'⟩
  ·have:=hH0'.inj j j' I I' b1 c1 c1' c2 (.inl c3) h5
   subst this
   rw[c4,c4']
  ·exfalso
   rcases hM.own I.b ⟨j,I,b1,c1,c2,.inl c3,rfl⟩with ho | ho
   ·have:=hsiz id' I' c1' c3';omega
   ·rw[h5]at ho;exact hkeep id' I' c1' c3' c2' ho
  ·exfalso
   rcases hM.own I'.b ⟨j',I',b1',c1',c2',.inl c3',rfl⟩with ho | ho
   ·have:=hsiz id I c1 c3;omega
   ·rw[←h5]at ho;exact hkeep id I c1 c3 c2 ho
  ·rw[c4]at h3
   exact hH.inj id id' I I' b c3 c3' h3 h4 h5
 ·obtain⟨cu,e,fr,h1,h2⟩:=hH0'.glb g cs hg
  exact⟨cu,e,fr,h1,VRL.flat (m:=m0') (m':=aOt m m0' ρ H0 H) hopq.symm hstr _ _ (hH.gld g cs hg) (hgl g cs hg) h2⟩
 ·rcases hcases id I h1 with ⟨j,b1,c1,c2,c3,c4,c5⟩ | ⟨c1,c2,c3,c4⟩
  ·exact hH0'.fow t k cs j I b1 hg c1 c2 (.inl c3)
  ·rw[c4]at h2
   rintro rfl
   rcases hM.fz t _ cs hg with h | h | h
   ·exact hH.fow t _ cs id I b h c3 h2 h3 rfl
   ·have:=hsiz id I c1 c3;omega
   ·exact hkeep id I c1 c3 c2 h
 ·rcases hcases id I h1 with ⟨j,b1,c1,c2,c3,c4,c5⟩ | ⟨c1,c2,c3,c4⟩
  ·exact hH0'.gow g cs j I b1 hg c1 c2 (.inl c3)
  ·rw[c4]at h2
   exact hH.gow g cs id I b hg c3 h2 h3
 ·refine hM.keep k hk (λho => ?_) (by simp)
  obtain⟨j,b0,I,b,h1,h2,h3,h4,h5,h6⟩:=hown0 k ho
  exact hno ⟨ρ j,I,b,h3,h4,.inl h5,h6⟩
 ·obtain⟨id,I,b,h1,h2,h3,rfl⟩:=hk
  rcases hcases id I h1 with ⟨j,b1,c1,c2,c3,c4,c5⟩ | ⟨c1,c2,c3,c4⟩
  ·rcases hM.own I.b ⟨j,I,b1,c1,c2,.inl c3,rfl⟩with ho | ho
   ·exact .inl ho
   ·obtain⟨j',b0,J,b',d1,d2,d3,d4,d5,d6⟩:=hown0 _ ho
    exact .inr ⟨ρ j',J,b',d3,d4,.inl d5,d6⟩
  ·rw[c4]at h2
   exact .inr ⟨id,I,b,c3,h2,h3,rfl⟩
 ·rcases hM.fz t k cs hc with h | h | h
  ·exact .inl h
  ·exact .inr (.inl h)
  ·obtain⟨j',b0,J,b',d1,d2,d3,d4,d5,d6⟩:=hown0 _ h
   exact .inr (.inr ⟨ρ j',J,b',d3,d4,.inl d5,d6⟩)
 ·by_cases hx:∀ (j:Nat) (b0:Blk),H0[j]? = some b0->b0.k≠.ro->ρ j≠id
  ·rw[hold id hid hx];exact hn
  ·have:∃ (j:Nat) (b0:Blk),H0[j]? = some b0∧b0.k≠.ro∧ρ j=id:=by
    apply cBb
    intro hne
    apply hx
    intro j b0 h1 h2 h3
    exact hne ⟨j,b0,h1,h2,h3⟩
   obtain⟨j,b0,h1,h2,rfl⟩:=this
   rw[hwr j b0 h1 h2]
   exact hM.nw j (hltH h1) (by rw[hb0 j (hltH h1)];exact hn)

theorem fZ{f:FuncId}{c:HB->HV->(Out->HV->Prop)->Prop}(he:Enters P f)(hgl:∀g cs,gl g=some cs->bX cs=true)
  (h:∀args H Q,c args H Q->∃ (E:Env) (n:Nat) (ρ:Nat->Nat) (args0:HB) (H0:HV) (Q0:BS),EnvFor P E∧E.gl=gl∧args=qG ρ args0∧aP H0.length args0=true∧bX args0=true∧Fr ρ H0 H ∧
   aT E (wpx E n) f args0 H0 {} Q0∧∀o H0' g',Q0 o H0' g'->∃H',FrEnd ρ H0 H0' H H'∧Q (bKu (sig ρ H0.length H.length) o) H'):aI P gl f c:=by
 refine⟨he,λargs H Q hc m w vs hv hH => ?_⟩
 obtain⟨E,n,ρ,args0,H0,Q0,hE,rfl,rfl,h2,h3,hF,h5,h6⟩:=h args H Q hc
 have hb:∀j,j<H0.length->(eQ m ρ H0.length).blk j=m.blk (ρ j):=λj hj=>by simp[eQ,hj]
 refine(vZ hE h5 (VRL.small hb rfl (Ext.refl _) _ _ h2 h3 hv) (hF.hr hH hgl) rfl).mono λe w' hp => ?_
 obtain⟨o,H0',g',m0',q1,q2,q3,_,q5⟩:=hp
 obtain⟨H',r1,r2⟩:=h6 o H0' g' q1
 obtain⟨m',s1,s2,sf,s3,s4⟩:=hF.end hH hgl r1 q3 q5
 have hs:Ext m0'.strip m'.strip:=⟨λ_ _ h=>(by cases h),s2,λ_ _ h=>(by cases h),λt k cs h=>by rw[show m'.strip.frz=m'.frz from rfl,sf];exact h⟩
 refine⟨_,H',m',r2, ?_,s3,s4⟩
 cases o with
 | ret v=>
  cases e<;>simp only[aIk]at q2
  exact VR.wide s1 s2.symm hs _ _ q2
 | pan v=>
  cases e<;>simp only[aIk]at q2
  obtain⟨cv,e1,e2⟩:=q2
  exact⟨cv,e1,VR.wide s1 s2.symm hs _ _ e2⟩
end
end Go.Proofs.YtnhechnaemmdiaaGreatDoor

namespace Go.Proofs.YtnhechnaemmdiaaGreatDoor
open Go.RowKit

theorem ckI{b:Bool}{A:Prop}(h:b=true)(k:A):bif b then A else False:=by rw[h];exact k
theorem ckO{b:Bool}{A:Prop}(k:A)(h:b=true:=by simp;omega):bif b then A else False:=ckI h k
theorem dJ{b:Bool}{A B:Prop}(h:b=true->A)(k:b=false->B):bif b then A else B:=by
 cases b
 ·exact k rfl
 ·exact h rfl

theorem wX{x:Int}{K:Int->Prop}(h1 : -9223372036854775808<=x)(h2:x<=9223372036854775807)(h:K x):∃n:Int,AV.int .i64 (IntKind.wrap .i64 x)=AV.int .i64 n∧K n:=
 ⟨x,by
  have:IntKind.wrap .i64 x=x:=by rw[cBe];omega
  rw[this],h⟩

theorem aF{x:Int}{K:Int->Prop}(h:K x)(h1 : -9223372036854775808<=x:=by omega)(h2:x<=9223372036854775807:=by omega):∃n:Int,AV.int .i64 (IntKind.wrap .i64 x)=AV.int .i64 n∧K n:=wX h1 h2 h
def aA(xs:QT):HB:=xs.map (AV.int .i64)

theorem aH{p:Prop}[Decidable p]{A B:Prop}(h:p->A)(k:¬ p->B):bif decide p then A else B:=by
 by_cases hp:p
 ·rw[bXr hp];exact h hp
 ·rw[bXt hp];exact k hp
theorem bJ{x y:Int}{A B:Prop}(h:x=y->A)(k:x≠y->B):bif x==y then A else B:=by
 by_cases hp:x=y
 ·rw[bYr.2 hp];exact h hp
 ·rw[cAs.2 hp];exact k hp
theorem bK{x y:Int}{A B:Prop}(h:x≠y->A)(k:x=y->B):bif x !=y then A else B:=by
 by_cases hp:x=y
 ·rw[bne,bYr.2 hp];exact k hp
 ·rw[bne,cAs.2 hp];exact h hp
theorem jA{b:Bool}{A B:Prop}(h:bif b then B else A):bif !b then A else B:=by
 cases b<;>exact h
theorem aYe{a b:Bool}{A B:Prop}(h:bif a then(bif b then A else B)else B):bif a&&b then A else B:=by
 cases a<;>exact h
theorem bEk{a b:Bool}{A B:Prop}(h:bif a then A else(bif b then A else B)):bif a||b then A else B:=by
 cases a<;>exact h
theorem aAa{xs:QT}{i j:Nat}(hi:i<xs.length)(hj:j=i){K:Int->Prop}(hk:K (xs.getD i 0)):∃n:Int,(aA xs).getD j AV.undef=AV.int .i64 n∧K n:=by
 subst hj
 refine⟨_, ?_,hk⟩
 simp[aA,hi]
theorem bC5{x:Int}{K:Int->Prop}(h1:0<=x)(h2:x<=255)(h:K x):∃n:Int,AV.int .u8 (IntKind.wrap .u8 x)=AV.int .u8 n∧K n:=
 ⟨x,by
  have:IntKind.wrap .u8 x=x:=by rw[show IntKind.wrap .u8 x=x%256 from rfl];omega
  rw[this],h⟩
theorem aM(xs:QT):(aA xs).length=xs.length:=by simp[aA]
theorem aXd{a b:Nat}(h:a<b):a.blt b=true:=by rw[aD];exact h
theorem aNk{a b:Nat}(h:a<=b):a.ble b=true:=by rw[bX5];exact h
theorem aOe{a b:Nat}(h:a=b):a.beq b=true:=by rw[bS];exact h
end Go.Proofs.YtnhechnaemmdiaaGreatDoor

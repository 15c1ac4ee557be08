/-
  Chapter 25: views that are only read; slices.Contains of ints.
-/
import Derived.Test.YtnhechnaemmdiaaGreatDoorKnB
set_option linter.unusedSimpArgs false
set_option linter.unusedVariables false
set_option linter.unusedSectionVars false
namespace Go.Proofs.YtnhechnaemmdiaaGreatDoor
open Go.RowKit
set_option maxRecDepth 1000000

theorem aOj{P:Program}{gl:Nat->Option HB}{f:FuncId}{c:HB->HV->(Out->HV->Prop)->Prop}(he:Enters P f)(hgl:∀g cs,gl g=some cs->bX cs=true)(depth:Nat)(k:AV->AV)(hk:∀a,wk a (k a))
  (h:∀args H Q,c args H Q->∃ (ρ:Nat->Nat) (args0:HB) (H0:HV) (E:Env) (n:Nat),EnvFor P E∧E.gl=gl∧args=qG ρ args0∧aP H0.length args0=true∧bX args0=true∧Fr ρ H0 H∧(∀b∈H0,b.k=.ro) ∧
   aT E (wpx E n) f args0 H0 {} λo H' _=>∃v,o=.ret v∧Q (.ret (k (bU 0 H' depth v))) H):aI P gl f c:=by
 refine⟨he,λargs H Q hc m w vs hv hH => ?_⟩
 obtain⟨ρ,args0,H0,E,n,hE,rfl,rfl,h2,h3,hF0,hro,h5⟩:=h args H Q hc
 have hb:∀j,j<H0.length->(eQ m ρ H0.length).blk j=m.blk (ρ j):=λj hj=>by simp[eQ,hj]
 refine(vZ hE h5 (VRL.small hb rfl (Ext.refl _) _ _ h2 h3 hv) (hF0.hr hH hgl) rfl).mono λe w' hp => ?_
 obtain⟨o,H0',g',m0',⟨v,rfl,q1⟩,q2,q3,_,q5⟩:=hp
 cases e<;>simp only[aIk]at q2
 rename_i cv
 have hF:=aIq 0 (w:=w') q3 hgl
 obtain⟨m',hm'⟩:∃m':M,m'=⟨m.blk,m.opq,m.lp,(sQ 0 m0' H0' w').frz⟩:=⟨_,rfl⟩
 have hop:m0'.opq=m.opq:=q5.ext.opq
 have hfr:∀t k cs,m.frz t k=some cs->(sQ 0 m0' H0' w').frz t k=some cs:=λt k cs h=>(tY 0 m0' H0' w').frz t k cs (q5.ext.frz t k cs h)
 have hext:Ext m m':=by subst hm';exact⟨λ_ I h=>⟨I,h,bXe _,λ_=>rfl⟩,rfl,λ_ _ h=>h,hfr⟩
 have hno:∀k,¬ jH (eQ m ρ H0.length) H0 k:=by
  rintro k ⟨j,I,b,h1,h2,h3,_⟩
  have hk:=hro b (bY3 h2)
  rcases h3 with h3 | h3
  ·exact h3 hk
  ·have:=kG (b:=b) (λ_=>hF0.nmp j b h2 hk)
   rw[this]at h3
   cases h3
 have hkeep:∀k,k<w.heap.size->w'.heap[k]? = w.heap[k]? := λk hk=>q5.keep k hk (hno k) (by simp)
 have hnewf:∀t k cs,(sQ 0 m0' H0' w').frz t k=some cs->m.frz t k=some cs∨w.heap.size<=k:=by
  intro t k cs hf
  simp only[sQ]at hf
  split at hf
  ·rename_i c hc
   cases hf
   rcases q5.fz t k _ hc with h | h | h
   ·exact .inl h
   ·exact .inr h
   ·exact absurd h (hno k)
  ·split at hf
   ·rename_i ho
    rcases q5.own k ho.2 with h | h
    ·exact .inr h
    ·exact absurd h (hno k)
   ·cases hf
 have hrow:∀id I,m.blk id=some I->I.b<w.heap.size:=λid I h=>by
  have hd:=hH.dom id I h
  obtain⟨_,q1,_⟩:=(hH.blk id I H[id] h (bW8 hd)).obj
  exact(bXa.1 q1).1
 refine⟨_,H,m',q1, ?_,⟨λid I h => ?_,λid I b h h2 => ?_,λi j I J b h1 h2 => ?_,λg cs hg => ?_,hH.gld,λt k cs hf => ?_,λt k cs id I b hf h1 h2 h3 => ?_,λg cs id I b h1 h2 => ?_⟩,
  ⟨⟨hext,q5.os,q5.tape,q5.output,q5.size,λk hk _=>hkeep k hk,λk hk => ?_,λu l h => ?_,λt k cs hf => ?_⟩,bXe _,λid _ h => ?_⟩⟩
 ·have:=oC 0 (w:=w') q3 depth v cv q2
  refine hk _ _ _ (VR.mono (m:=(sQ 0 m0' H0' w').strip) ⟨λ_ _ h=>(by cases h), ?_,λ_ _ h=>(by cases h),λt k cs h=>by subst hm';exact h⟩ _ _ this)
  subst hm';exact hop.symm
 ·subst hm';exact hH.dom id I h
 ·subst hm'
  exact(hH.blk id I b h h2).mono hext (hkeep _ (hrow id I h))
 ·subst hm';exact hH.inj i j I J b h1 h2
 ·obtain⟨cu,e,fr,k1,k2⟩:=hH.glb g cs hg
  exact⟨cu,e,fr,(hkeep g (bXa.1 k1).1).trans k1,VRL.mono hext _ _ k2⟩
 ·subst hm'
  exact hF.frz t k cs hf
 ·subst hm'
  rintro rfl
  rcases hnewf t _ cs hf with h | h
  ·exact hH.fow t _ cs id I b h h1 h2 h3 rfl
  ·have:=hrow id I h1;omega
 ·subst hm';exact hH.gow g cs id I b h1 h2
 ·subst hm';exact .inr hk
 ·subst hm';exact h
 ·subst hm'
  rcases hnewf t k cs hf with h | h
  ·exact .inl h
  ·exact .inr (.inl h)
 ·subst hm';exact h

def zJ(k sa mk:LA)(hl:HB)(hn:Nat)(x:AV)(nx rs rt rk:Int):HB:=[.str k,.str sa,.str mk,.lst 0 hl hn 1,x,.int .i64 nx,.int .i64 rs,.int .i64 rt,.int .u64 rk]
def aF2(H:HV)(x:AV):Prop:=(old 0 x=true∧noY x=true)∨∃j n m,x=.sl j n 0 m 3∧j<H.length∧aP 0 (H.getD j ⟨.ro,false,[]⟩).cs=true∧bX (H.getD j ⟨.ro,false,[]⟩).cs=true∧∀c,(H.getD j ⟨.ro,false,[]⟩).cs≠[.tup c]
def cbC(g:HB->LA->LA->LA->HB->Nat->(AV->Prop)->Prop):Con
 | .ptr i 9 0::rest,H,K=>match H.getD i ⟨.ro,false,[]⟩with
  | ⟨_,_,[.str k,.str sa,.str mk,.lst 0 hl hn 1,x,.int .i64 _,.int .i64 _,.int .i64 _,.int .u64 _]⟩=>bif Nat.blt i H.length&&(aP 0 rest&&bX rest)then Lf (aF2 H x)∧g rest k sa mk hl hn λv=>K (.ret v) H else False
  | _=>False
 | _,_,_=>False
theorem bPb{b:Bool}{p:Prop}(h:bif b then p else False):b=true∧p:=by
 cases b
 ·exact h.elim
 ·exact⟨rfl,h⟩
theorem aKu{P:Program}{gl:Nat->Option HB}{f:FuncId}{g:HB->LA->LA->LA->HB->Nat->(AV->Prop)->Prop}(he:Enters P f)(hgl:∀g cs,gl g=some cs->bX cs=true)(depth:Nat)(kk:AV->AV)(hk:∀a,wk a (kk a))
  (h:∀rest k sa mk hl hn x nx rs rt rk ds R,aP 0 rest=true->bX rest=true->old 2 x=true->aP 0 ds=true->(∀tl,aF2 (⟨.ro,false,zJ k sa mk hl hn x nx rs rt rk⟩::⟨.ro,false,ds⟩::tl) x)->g rest k sa mk hl hn R->∃ (E:Env) (n:Nat),EnvFor P E∧E.gl=gl ∧
   aT E (wpx E n) f (.ptr 0 9 0::rest) [⟨.ro,false,zJ k sa mk hl hn x nx rs rt rk⟩,⟨.ro,false,ds⟩] {} λo H' _=>∃v,o=.ret v∧R (kk (bU 0 H' depth v))):aI P gl f (cbC g):=by
 refine aOj he hgl depth kk hk λargs H Q hc => ?_
 unfold cbC at hc
 split at hc
 ·rename_i i rest
  split at hc
  ·rename_i kd lf k sa mk hl hn x nx rs rt rk hb
   obtain⟨hz,⟨hX⟩,hg⟩:=bPb hc
   simp only[bW3]at hz
   obtain⟨h0,h1,h2⟩:=hz
   rw[aD]at h0
   have hi:H[i]? = some ⟨kd,lf,zJ k sa mk hl hn x nx rs rt rk⟩:=by
    rw[bW7,bW8 h0]at hb
    rw[bW8 h0]
    exact congrArg some hb
   rcases hX with ⟨x1,x2⟩ | ⟨j,n,m,rfl,j0,j1,j2,j3⟩
   ·have hfl:aP 0 (zJ k sa mk hl hn x nx rs rt rk)=true:=by simp[zJ,aP,old,x1]
    have hny:bX (zJ k sa mk hl hn x nx rs rt rk)=true:=by simp[zJ,bX,noY,x2]
    have x1':old 2 x=true:=by
     have:=cB (a:=0) (b:=2) (by omega) [x] (by simp[aP,x1])
     simpa[aP]using this
    obtain⟨E,n,k1,k2,k3⟩:=h rest k sa mk hl hn x nx rs rt rk (zJ k sa mk hl hn x nx rs rt rk) (λv=>Q (.ret v) H) h1 h2 x1' hfl (λ_=>.inl ⟨x1,x2⟩) hg
    refine⟨λ_=>i,.ptr 0 9 0::rest,_,E,n,k1,k2, ?_, ?_, ?_,⟨?_, ?_, ?_⟩, ?_,k3⟩
    ·simp only[qG,ren,aU _ rest h1 h2]
    ·simp only[aP,old,bW3]
     exact⟨by simp,cB (bYb _) _ h1⟩
    ·simp only[bX,noY,bW3]
     exact⟨trivial,h2⟩
    ·intro j b0 hj
     have hb0:b0=⟨.ro,false,zJ k sa mk hl hn x nx rs rt rk⟩:=by
      match j,hj with
      | 0,hj=>cases hj;rfl
      | 1,hj=>cases hj;rfl
     subst hb0
     exact⟨h0,cB (bYb _) _ hfl,hny,λh=>by simp at h,_,hi,(aU _ _ hfl hny).symm,.inl rfl⟩
    ·intro j j' b0 hj hkk
     have hb0:b0.k=.ro:=by
      match j,hj with
      | 0,hj=>cases hj;rfl
      | 1,hj=>cases hj;rfl
     exact absurd hb0 hkk
    ·intro j b0 hj _ c
     match j,hj with
     | 0,hj=>cases hj;simp[zJ]
     | 1,hj=>cases hj;simp[zJ]
    ·intro b hb
     simp only[bXd,bXn,bY0]at hb
     rcases hb with rfl | rfl<;>rfl
   ·have hj:H[j]? = some (H.getD j ⟨.ro,false,[]⟩):=by
     rw[bW7,bW8 j0];rfl
    generalize hB:H.getD j ⟨.ro,false,[]⟩=B at *
    obtain⟨E,n',k1,k2,k3⟩:=h rest k sa mk hl hn (.sl 1 n 0 m 3) nx rs rt rk B.cs (λv=>Q (.ret v) H) h1 h2 (by simp[old]) j1 (λ_=>.inr ⟨1,n,m,rfl,by simp,j1,j2,j3⟩) hg
    refine⟨λa=>if a=0 then i else j,.ptr 0 9 0::rest,_,E,n',k1,k2, ?_, ?_, ?_,⟨?_, ?_, ?_⟩, ?_,k3⟩
    ·simp only[qG,ren,aU _ rest h1 h2]
     rfl
    ·simp only[aP,old,bW3]
     exact⟨by simp,cB (bYb _) _ h1⟩
    ·simp only[bX,noY,bW3]
     exact⟨trivial,h2⟩
    ·intro a b0 ha
     match a,ha with
     | 0,ha=>
      cases ha
      exact⟨h0,rfl,rfl,λh=>by simp at h,_,hi,rfl,.inl rfl⟩
     | 1,ha=>
      cases ha
      have hj0:j<H.length:=j0
      exact⟨hj0,cB (bYb _) _ j1,j2,λh=>by simp at h,_,hj,(aU _ B.cs j1 j2).symm,.inl rfl⟩
    ·intro a a' b0 ha hkk
     have hb0:b0.k=.ro:=by
      match a,ha with
      | 0,ha=>cases ha;rfl
      | 1,ha=>cases ha;rfl
     exact absurd hb0 hkk
    ·intro a b0 ha _ c
     match a,ha with
     | 0,ha=>cases ha;simp[zJ]
     | 1,ha=>cases ha;exact j3 c
    ·intro b hb
     simp only[bXd,bXn,bY0]at hb
     rcases hb with rfl | rfl<;>rfl
  ·exact hc.elim
 ·exact hc.elim

def bJr(t:Nat)(xs:QT)(v:Int):LInv where
 α:=Nat
 pre i:=Lf (i<=xs.length∧v∉xs.take i)
 st i:=⟨mkT [(0,.lst t (aA xs) xs.length 1),(1,.int .i64 v),(7,.int .i64 xs.length),(8,.int .i64 i)],[]⟩
 mu i:=xs.length-i
noncomputable def aQ0(hv:LI)(hb:LB)(t:Nat)(xs:QT)(v:Int):Env:=e04 sm0 (λi=>bif Nat.beq i 207000 then some (λ_=>[[bJr t xs v]])else none) hv hb
noncomputable def aCx(hv:LI)(hb:LB)(t:Nat)(xs:QT)(v:Int)(Q:BS):Prop:=
 aT (aQ0 hv hb t xs v) (wpx (aQ0 hv hb t xs v) 1000) 161 [.lst t (aA xs) xs.length 1,.int .i64 v] [] {} Q
abbrev bRw(x_1:Nat)(xs:QT)(v:Int):Prop:=Lf (x_1<=xs.length∧¬Membership.mem (xs.take x_1) v)
theorem bP7(t:Nat)(xs:QT)(v:Int)(Q:BS):aCx (aW [(847879,.int .i64),(847882,.int .i64),(847887,.int .i64),(847890,.int .i64)]) (aV []) t xs v Q=(exI .i64 (xs.length:Int) (λn_0=>(∃x_1:Nat,bRw x_1 xs v∧aK (AV.lst t (aA xs) xs.length 1)∧aK (AV.int .i64 v)∧AV.int .i64 n_0=AV.int .i64 (xs.length:Int)∧AV.int .i64 0=AV.int .i64 (x_1:Int)∧True)∧∀x_1:Nat,bRw x_1 xs v->bif decide ((x_1:Int)<(xs.length:Int))then exI .i64 (x_1:Int) (λn_2=>ckQ (decide (0<=n_2)&&Nat.blt n_2.toNat xs.length&&true) (ckQ (Nat.blt (n_2.toNat*1) (aA xs).length) (exV .i64 ((aA xs).getD (n_2.toNat*1) AV.undef) (λn_3=>bif v==n_3 then bif decide (n_2≥0)then Q (.ret (.bool true)) [] {}else Q (.ret (.bool false)) [] {}else exW .i64 ((x_1:Int)+1) (λn_4=>(True∧(0:Nat)=(0:Nat))∧∃y_5:Nat,bRw y_5 xs v∧xs.length-y_5<xs.length-x_1∧aK (AV.lst t (aA xs) xs.length 1)∧aK (AV.int .i64 v)∧aK (AV.int .i64 (xs.length:Int))∧AV.int .i64 n_4=AV.int .i64 (y_5:Int)∧True)))))else Q (.ret (.bool false)) [] {})):=by kernel_rfl

theorem bIr(t:Nat)(xs:QT)(v:Int)(Q:BS)(hx:xs.length<=1000000)(hq:Q (.ret (.bool (decide (v∈xs)))) [] {}):∃hv hb,aCx hv hb t xs v Q:=by
 obtain⟨hv,hb',e⟩:∃hv hb,aCx hv hb t xs v Q=_:=⟨_,_,bP7 t xs v Q⟩
 refine⟨hv,hb',e.mpr ?_⟩
 delta bRw
 clear e
 (repeat' (first | (with_reducible refine trivial) | ((guard_target=False);omega) | (((with_reducible refine wX ?_ ?_ ?_));(focus (omega));(focus (omega))) | ((fail_if_success (with_reducible refine wX ?_ ?_ ?_));(with_reducible refine⟨_,rfl, ?_⟩)) | (((with_reducible refine bC5 ?_ ?_ ?_));(focus (omega));(focus (omega))) | (((with_reducible refine ckI ?_ ?_));(focus (first | rfl | (simp[aD]<;>omega)))) | (with_reducible refine aH (λ_ => ?_) (λ_ => ?_)<;>(try(exfalso;omega))) | (with_reducible refine bJ (λ_ => ?_) (λ_ => ?_)<;>(try(exfalso;omega))) | (with_reducible refine bK (λ_ => ?_) (λ_ => ?_)<;>(try(exfalso;omega))) | (with_reducible refine jA ?_) | (with_reducible refine aYe ?_) | (with_reducible refine bEk ?_)))
 refine⟨⟨0,⟨by omega,by simp⟩,by simp⟩, ?_⟩
 rintro i ⟨h1,h2⟩
 refine aH (λhlt => ?_) (λhge => ?_)
 ·have hm:xs.getD i 0∈xs:=by
   rw[bW7,bW8 (by omega)];exact bXk _
  have ht:xs.take (i+1)=xs.take i++[xs.getD i 0]:=by
   rw[bYm];simp[(show i<xs.length by omega)]
  refine⟨_,rfl,ckO (ckI (by simp[aM];omega) (aAa (i:=i) (by omega) (by omega) (bJ (λhe => ?_) (λhne => ?_))))⟩
  ·refine aH (λ_ => ?_) (λhh=>absurd hh (by omega))
   subst he
   rw[bXr hm]at hq
   exact hq
  ·refine aF ⟨⟨trivial,rfl⟩,i+1,⟨by omega, ?_⟩,by omega,by simp⟩
   rw[ht]
   intro hh
   rcases bYj.1 hh with hh | hh
   ·exact h2 hh
   ·exact hne (bXp.1 hh)
 ·rw[bW4 (by omega)]at h2
  rw[bXt h2]at hq
  exact hq
def aEc(v:Int)(xs:QT):Bool:=decide (v∈xs)
def bQx:Con
 | [.lst _ l n 1,.int .i64 v],H,K=>∃xs:QT,Lf (l=aA xs∧n=xs.length∧xs.length<=1000000)∧K (.ret (.bool (aEc v xs))) H
 | _,_,_=>False
theorem bIg:aI Tryz.prog gl0 161 bQx:=by
 refine aQ (enters_of (by kernel_rfl)) aO λargs H Q hc => ?_
 unfold bQx at hc
 split at hc
 ·rename_i t l n v
  obtain⟨xs,⟨rfl,rfl,hl⟩,hq⟩:=hc
  obtain⟨hv,hb',h⟩:=bIr t xs v (hx:=hl) (Q:=λo H' _=>H'=[]∧(∃v,o=.ret v∧old 0 v=true∧noY v=true)∧Q o H) ⟨rfl,⟨_,rfl,rfl,rfl⟩,hq⟩
  exact⟨rfl,rfl,_,1000,aS bY _ _ _,rfl,h⟩
 ·exact hc.elim
def bPa:Con:=λargs H Q=>qI [1] H args λa=>bQx a H Q
theorem bQb:aI Tryz.prog gl0 161 bPa:=eG bIg aO [1] λargs H Q hc=>by
 unfold bQx at hc
 split at hc
 ·obtain⟨xs,h,hq⟩:=hc
  exact⟨xs,h,rfl,⟨_,rfl,rfl⟩,hq⟩
 ·exact hc.elim
end Go.Proofs.YtnhechnaemmdiaaGreatDoor

/-
  Chapter 25: views that are only read; slices.Contains of ints.
-/
import Derived.Test.YtnhechnaemmdiaaGreatDoorKnB
set_option linter.unusedSimpArgs false
set_option linter.unusedVariables false
set_option linter.unusedSectionVars false
namespace Go.Proofs.YtnhechnaemmdiaaGreatDoor
open Go.RowKit
set_option maxRecDepth 1000000

theorem vW {P:Program} {gl:Nat→Option (List AV)} {f:FuncId} {c:List AV→List Blk→(Out→List Blk→Prop)→Prop} (he:Enters P f) (hgl:∀g cs,gl g=some cs→bG cs=true) (depth:Nat) (k:AV→AV) (hk:∀a,wk a (k a))
  (h:∀args H Q,c args H Q→∃ (ρ:Nat→Nat) (args0:List AV) (H0:List Blk) (E:Env) (n:Nat),EnvFor P E∧E.gl=gl∧args=lG ρ args0∧aL H0.length args0=true∧bG args0=true∧Fr ρ H0 H∧(∀b∈H0,b.k=.ro) ∧
   aY E (wpx E n) f args0 H0 {} fun o H' _=>∃v,o=.ret v∧Q (.ret (k (bW 0 H' depth v))) H):aF P gl f c:=by
 refine ⟨he,fun args H Q hc m w vs hv hH => ?_⟩
 obtain ⟨ρ,args0,H0,E,n,hE,rfl,rfl,h2,h3,hF0,hro,h5⟩:=h args H Q hc
 have hb:∀j,j<H0.length→(dN m ρ H0.length).blk j=m.blk (ρ j):=fun j hj=>by simp[dN,hj]
 refine (yQ hE h5 (VRL.small hb rfl (Ext.refl _) _ _ h2 h3 hv) (hF0.hr hH hgl) rfl).mono fun e w' hp => ?_
 obtain ⟨o,H0',g',m0',⟨v,rfl,q1⟩,q2,q3,_,q5⟩:=hp
 cases e<;>simp only[aEx] at q2
 rename_i cv
 have hF:=aDp 0 (w:=w') q3 hgl
 obtain ⟨m',hm'⟩:∃m':M,m'=⟨m.blk,m.opq,m.lp,(pV 0 m0' H0' w').frz⟩:=⟨_,rfl⟩
 have hop:m0'.opq=m.opq:=q5.ext.opq
 have hfr:∀t k cs,m.frz t k=some cs→(pV 0 m0' H0' w').frz t k=some cs:=fun t k cs h=>(pY 0 m0' H0' w').frz t k cs (q5.ext.frz t k cs h)
 have hext:Ext m m':=by subst hm';exact ⟨fun _ I h=>⟨I,h,bOt _,fun _=>rfl⟩,rfl,fun _ _ h=>h,hfr⟩
 have hno:∀k,¬ iE (dN m ρ H0.length) H0 k:=by
  rintro k ⟨j,I,b,h1,h2,h3,_⟩
  have hk:=hro b (bRi h2)
  rcases h3 with h3 | h3
  ·exact h3 hk
  ·have:=iU (b:=b) (fun _=>hF0.nmp j b h2 hk)
   rw[this] at h3
   cases h3
 have hkeep:∀k,k<w.heap.size→w'.heap[k]? = w.heap[k]? := fun k hk=>q5.keep k hk (hno k) (by simp)
 have hnewf:∀t k cs,(pV 0 m0' H0' w').frz t k=some cs→m.frz t k=some cs∨w.heap.size≤k:=by
  intro t k cs hf
  simp only[pV] at hf
  split at hf
  ·rename_i c hc
   cases hf
   rcases q5.fz t k _ hc with h | h | h
   ·exact .inl h
   ·exact .inr h
   ·exact absurd h (hno k)
  ·split at hf
   ·rename_i ho
    rcases q5.own k ho.2 with h | h
    ·exact .inr h
    ·exact absurd h (hno k)
   ·cases hf
 have hrow:∀id I,m.blk id=some I→I.b<w.heap.size:=fun id I h=>by
  have hd:=hH.dom id I h
  obtain ⟨_,q1,_⟩:=(hH.blk id I H[id] h (bOq hd)).obj
  exact (bOm.1 q1).1
 refine ⟨_,H,m',q1, ?_,⟨fun id I h => ?_,fun id I b h h2 => ?_,fun i j I J b h1 h2 => ?_,fun g cs hg => ?_,hH.gld,fun t k cs hf => ?_,fun t k cs id I b hf h1 h2 h3 => ?_,fun g cs id I b h1 h2 => ?_⟩,
  ⟨⟨hext,q5.os,q5.tape,q5.output,q5.size,fun k hk _=>hkeep k hk,fun k hk => ?_,fun u l h => ?_,fun t k cs hf => ?_⟩,bOt _,fun id _ h => ?_⟩⟩
 ·have:=mE 0 (w:=w') q3 depth v cv q2
  refine hk _ _ _ (VR.mono (m:=(pV 0 m0' H0' w').strip) ⟨fun _ _ h=>(by cases h), ?_,fun _ _ h=>(by cases h),fun t k cs h=>by subst hm';exact h⟩ _ _ this)
  subst hm';exact hop.symm
 ·subst hm';exact hH.dom id I h
 ·subst hm'
  exact (hH.blk id I b h h2).mono hext (hkeep _ (hrow id I h))
 ·subst hm';exact hH.inj i j I J b h1 h2
 ·obtain ⟨cu,e,fr,k1,k2⟩:=hH.glb g cs hg
  exact ⟨cu,e,fr,(hkeep g (bOm.1 k1).1).trans k1,VRL.mono hext _ _ k2⟩
 ·subst hm'
  exact hF.frz t k cs hf
 ·subst hm'
  rintro rfl
  rcases hnewf t _ cs hf with h | h
  ·exact hH.fow t _ cs id I b h h1 h2 h3 rfl
  ·have:=hrow id I h1;omega
 ·subst hm';exact hH.gow g cs id I b h1 h2
 ·subst hm';exact .inr hk
 ·subst hm';exact h
 ·subst hm'
  rcases hnewf t k cs hf with h | h
  ·exact .inl h
  ·exact .inr (.inl h)
 ·subst hm';exact h

def uX (k sa mk:List UInt8) (hl:List AV) (hn:Nat) (x:AV) (nx rs rt rk:Int):List AV:=[.str k,.str sa,.str mk,.lst 0 hl hn 1,x,.int .i64 nx,.int .i64 rs,.int .i64 rt,.int .u64 rk]
def aAs (H:List Blk) (x:AV):Prop:=(old 0 x=true∧noY x=true)∨∃j n m,x=.sl j n 0 m 3∧j<H.length∧aL 0 (H.getD j ⟨.ro,false,[]⟩).cs=true∧bG (H.getD j ⟨.ro,false,[]⟩).cs=true∧∀c,(H.getD j ⟨.ro,false,[]⟩).cs≠[.tup c]
def cbC (g:List AV→List UInt8→List UInt8→List UInt8→List AV→Nat→(AV→Prop)→Prop):Con
 | .ptr i 9 0::rest,H,K=>match H.getD i ⟨.ro,false,[]⟩ with
  | ⟨_,_,[.str k,.str sa,.str mk,.lst 0 hl hn 1,x,.int .i64 _,.int .i64 _,.int .i64 _,.int .u64 _]⟩=>bif Nat.blt i H.length&&(aL 0 rest&&bG rest) then Lf (aAs H x)∧g rest k sa mk hl hn fun v=>K (.ret v) H else False
  | _=>False
 | _,_,_=>False
theorem aWb {b:Bool} {p:Prop} (h:bif b then p else False):b=true∧p:=by
 cases b
 ·exact h.elim
 ·exact ⟨rfl,h⟩
theorem aGs {P:Program} {gl:Nat→Option (List AV)} {f:FuncId} {g:List AV→List UInt8→List UInt8→List UInt8→List AV→Nat→(AV→Prop)→Prop} (he:Enters P f) (hgl:∀g cs,gl g=some cs→bG cs=true) (depth:Nat) (kk:AV→AV) (hk:∀a,wk a (kk a))
  (h:∀rest k sa mk hl hn x nx rs rt rk ds R,aL 0 rest=true→bG rest=true→old 2 x=true→aL 0 ds=true→(∀tl,aAs (⟨.ro,false,uX k sa mk hl hn x nx rs rt rk⟩::⟨.ro,false,ds⟩::tl) x)→g rest k sa mk hl hn R→∃ (E:Env) (n:Nat),EnvFor P E∧E.gl=gl ∧
   aY E (wpx E n) f (.ptr 0 9 0::rest) [⟨.ro,false,uX k sa mk hl hn x nx rs rt rk⟩,⟨.ro,false,ds⟩] {} fun o H' _=>∃v,o=.ret v∧R (kk (bW 0 H' depth v))):aF P gl f (cbC g):=by
 refine vW he hgl depth kk hk fun args H Q hc => ?_
 unfold cbC at hc
 split at hc
 ·rename_i i rest
  split at hc
  ·rename_i kd lf k sa mk hl hn x nx rs rt rk hb
   obtain ⟨hz,⟨hX⟩,hg⟩:=aWb hc
   simp only[bN9] at hz
   obtain ⟨h0,h1,h2⟩:=hz
   rw[aC] at h0
   have hi:H[i]? = some ⟨kd,lf,uX k sa mk hl hn x nx rs rt rk⟩:=by
    rw[bOs,bOq h0] at hb
    rw[bOq h0]
    exact congrArg some hb
   rcases hX with ⟨x1,x2⟩ | ⟨j,n,m,rfl,j0,j1,j2,j3⟩
   ·have hfl:aL 0 (uX k sa mk hl hn x nx rs rt rk)=true:=by simp[uX,aL,old,x1]
    have hny:bG (uX k sa mk hl hn x nx rs rt rk)=true:=by simp[uX,bG,noY,x2]
    have x1':old 2 x=true:=by
     have:=bP (a:=0) (b:=2) (by omega) [x] (by simp[aL,x1])
     simpa [aL] using this
    obtain ⟨E,n,k1,k2,k3⟩:=h rest k sa mk hl hn x nx rs rt rk (uX k sa mk hl hn x nx rs rt rk) (fun v=>Q (.ret v) H) h1 h2 x1' hfl (fun _=>.inl ⟨x1,x2⟩) hg
    refine ⟨fun _=>i,.ptr 0 9 0::rest,_,E,n,k1,k2, ?_, ?_, ?_,⟨?_, ?_, ?_⟩, ?_,k3⟩
    ·simp only[lG,ren,bL _ rest h1 h2]
    ·simp only[aL,old,bN9]
     exact ⟨by simp,bP (bPp _) _ h1⟩
    ·simp only[bG,noY,bN9]
     exact ⟨trivial,h2⟩
    ·intro j b0 hj
     have hb0:b0=⟨.ro,false,uX k sa mk hl hn x nx rs rt rk⟩:=by
      match j,hj with
      | 0,hj=>cases hj;rfl
      | 1,hj=>cases hj;rfl
     subst hb0
     exact ⟨h0,bP (bPp _) _ hfl,hny,fun h=>by simp at h,_,hi,(bL _ _ hfl hny).symm,.inl rfl⟩
    ·intro j j' b0 hj hkk
     have hb0:b0.k=.ro:=by
      match j,hj with
      | 0,hj=>cases hj;rfl
      | 1,hj=>cases hj;rfl
     exact absurd hb0 hkk
    ·intro j b0 hj _ c
     match j,hj with
     | 0,hj=>cases hj;simp[uX]
     | 1,hj=>cases hj;simp[uX]
    ·intro b hb
     simp only[bOr,bOx,bP3] at hb
     rcases hb with rfl | rfl<;>rfl
   ·have hj:H[j]? = some (H.getD j ⟨.ro,false,[]⟩):=by
     rw[bOs,bOq j0];rfl
    generalize hB:H.getD j ⟨.ro,false,[]⟩=B at *
    obtain ⟨E,n',k1,k2,k3⟩:=h rest k sa mk hl hn (.sl 1 n 0 m 3) nx rs rt rk B.cs (fun v=>Q (.ret v) H) h1 h2 (by simp[old]) j1 (fun _=>.inr ⟨1,n,m,rfl,by simp,j1,j2,j3⟩) hg
    refine ⟨fun a=>if a=0 then i else j,.ptr 0 9 0::rest,_,E,n',k1,k2, ?_, ?_, ?_,⟨?_, ?_, ?_⟩, ?_,k3⟩
    ·simp only[lG,ren,bL _ rest h1 h2]
     rfl
    ·simp only[aL,old,bN9]
     exact ⟨by simp,bP (bPp _) _ h1⟩
    ·simp only[bG,noY,bN9]
     exact ⟨trivial,h2⟩
    ·intro a b0 ha
     match a,ha with
     | 0,ha=>
      cases ha
      exact ⟨h0,rfl,rfl,fun h=>by simp at h,_,hi,rfl,.inl rfl⟩
     | 1,ha=>
      cases ha
      have hj0:j<H.length:=j0
      exact ⟨hj0,bP (bPp _) _ j1,j2,fun h=>by simp at h,_,hj,(bL _ B.cs j1 j2).symm,.inl rfl⟩
    ·intro a a' b0 ha hkk
     have hb0:b0.k=.ro:=by
      match a,ha with
      | 0,ha=>cases ha;rfl
      | 1,ha=>cases ha;rfl
     exact absurd hb0 hkk
    ·intro a b0 ha _ c
     match a,ha with
     | 0,ha=>cases ha;simp[uX]
     | 1,ha=>cases ha;exact j3 c
    ·intro b hb
     simp only[bOr,bOx,bP3] at hb
     rcases hb with rfl | rfl<;>rfl
  ·exact hc.elim
 ·exact hc.elim

def bBm (t:Nat) (xs:List Int) (v:Int):LInv where
 α:=Nat
 pre i:=Lf (i≤xs.length∧v∉xs.take i)
 st i:=⟨mkT [(0,.lst t (aB xs) xs.length 1),(1,.int .i64 v),(7,.int .i64 xs.length),(8,.int .i64 i)],[]⟩
 mu i:=xs.length-i
noncomputable def aNp (hv:Nat→Option Pa) (hb:Nat→Option Bool) (t:Nat) (xs:List Int) (v:Int):Env:=e04 sm0 (fun i=>bif Nat.beq i 207000 then some (fun _=>[[bBm t xs v]]) else none) hv hb
noncomputable def xP (hv:Nat→Option Pa) (hb:Nat→Option Bool) (t:Nat) (xs:List Int) (v:Int) (Q:Out→List Blk→Gh→Prop):Prop:=
 aY (aNp hv hb t xs v) (wpx (aNp hv hb t xs v) 1000) 161 [.lst t (aB xs) xs.length 1,.int .i64 v] [] {} Q
abbrev bJl (x_1:Nat) (xs:List Int) (v:Int):Prop:=Lf (x_1≤xs.length∧¬Membership.mem (xs.take x_1) v)
theorem bDr (t:Nat) (xs:List Int) (v:Int) (Q:Out→List Blk→Gh→Prop):xP (bD [(847879,.int .i64),(847882,.int .i64),(847887,.int .i64),(847890,.int .i64)]) (bE []) t xs v Q=(exI .i64 (xs.length:Int) (fun n_0=>(∃x_1:Nat,bJl x_1 xs v∧aJ (AV.lst t (aB xs) xs.length 1)∧aJ (AV.int .i64 v)∧AV.int .i64 n_0=AV.int .i64 (xs.length:Int)∧AV.int .i64 0=AV.int .i64 (x_1:Int)∧True)∧∀x_1:Nat,bJl x_1 xs v→bif decide ((x_1:Int)<(xs.length:Int)) then exI .i64 (x_1:Int) (fun n_2=>ckQ (decide (0≤n_2)&&Nat.blt n_2.toNat xs.length&&true) (ckQ (Nat.blt (n_2.toNat*1) (aB xs).length) (exV .i64 ((aB xs).getD (n_2.toNat*1) AV.undef) (fun n_3=>bif v==n_3 then bif decide (n_2≥0) then Q (.ret (.bool true)) [] {} else Q (.ret (.bool false)) [] {} else exW .i64 ((x_1:Int)+1) (fun n_4=>(True∧(0:Nat)=(0:Nat))∧∃y_5:Nat,bJl y_5 xs v∧xs.length-y_5<xs.length-x_1∧aJ (AV.lst t (aB xs) xs.length 1)∧aJ (AV.int .i64 v)∧aJ (AV.int .i64 (xs.length:Int))∧AV.int .i64 n_4=AV.int .i64 (y_5:Int)∧True))))) else Q (.ret (.bool false)) [] {})):=by kernel_rfl

theorem aZl (t:Nat) (xs:List Int) (v:Int) (Q:Out→List Blk→Gh→Prop) (hx:xs.length≤1000000) (hq:Q (.ret (.bool (decide (v∈xs)))) [] {}):∃hv hb,xP hv hb t xs v Q:=by
 obtain ⟨hv,hb',e⟩:∃hv hb,xP hv hb t xs v Q=_:=⟨_,_,bDr t xs v Q⟩
 refine ⟨hv,hb',e.mpr ?_⟩
 delta bJl
 clear e
 (repeat' (first | (with_reducible refine trivial) | ((guard_target=False);omega) | (((with_reducible refine aI ?_ ?_ ?_));(focus (omega));(focus (omega))) | ((fail_if_success (with_reducible refine aI ?_ ?_ ?_));(with_reducible refine ⟨_,rfl, ?_⟩)) | (((with_reducible refine aLr ?_ ?_ ?_));(focus (omega));(focus (omega))) | (((with_reducible refine ckI ?_ ?_));(focus (first | (simp only[bN9,bOh,bOg,bOc,aC,bOi,aN,aA,bN8,bOb,bOe,bOa,bOo,bOp,bOf,bOd,bOj,ne_eq];done) | (simp only[bN9,bOh,bOg,bOc,aC,bOi,aN,aA,bN8,bOb,bOe,bOa,bOo,bOp,bOf,bOd,bOj,ne_eq];omega) | rfl | (simp;done) | (simp;omega)))) | (with_reducible refine aD (fun _ => ?_) (fun _ => ?_)<;>(try (exfalso;omega))) | (with_reducible refine aS (fun _ => ?_) (fun _ => ?_)<;>(try (exfalso;omega))) | (with_reducible refine bA (fun _ => ?_) (fun _ => ?_)<;>(try (exfalso;omega))) | (with_reducible refine yI ?_) | (with_reducible refine aQ1 ?_) | (with_reducible refine bBd ?_)))
 refine ⟨⟨0,⟨by omega,by simp⟩,by simp⟩, ?_⟩
 rintro i ⟨h1,h2⟩
 refine aD (fun hlt => ?_) (fun hge => ?_)
 ·have hm:xs.getD i 0∈xs:=by
   rw[bOs,bOq (by omega)];exact bPx _
  have ht:xs.take (i+1)=xs.take i++[xs.getD i 0]:=by
   rw[bP9];simp[(show i<xs.length by omega)]
  refine ⟨_,rfl,ckI (by simp;omega) (ckI (by simp[aA];omega) (bEb (i:=i) (by omega) (by omega) (aS (fun he => ?_) (fun hne => ?_))))⟩
  ·refine aD (fun _ => ?_) (fun hh=>absurd hh (by omega))
   subst he
   rw[bO4 hm] at hq
   exact hq
  ·refine aI (by omega) (by omega) ⟨⟨trivial,rfl⟩,i+1,⟨by omega, ?_⟩,by omega,by simp⟩
   rw[ht]
   intro hh
   rcases bPo.1 hh with hh | hh
   ·exact h2 hh
   ·exact hne (bOy.1 hh)
 ·rw[bOk (by omega)] at h2
  rw[bO0 h2] at hq
  exact hq
def aCl (v:Int) (xs:List Int):Bool:=decide (v∈xs)
def bI3:Con
 | [.lst _ l n 1,.int .i64 v],H,K=>∃xs:List Int,Lf (l=aB xs∧n=xs.length∧xs.length≤1000000)∧K (.ret (.bool (aCl v xs))) H
 | _,_,_=>False
theorem aX6:aF Tryz.prog gl0 161 bI3:=by
 refine aP (enters_of (by kernel_rfl)) aM fun args H Q hc => ?_
 unfold bI3 at hc
 split at hc
 ·rename_i t l n v
  obtain ⟨xs,⟨rfl,rfl,hl⟩,hq⟩:=hc
  obtain ⟨hv,hb',h⟩:=aZl t xs v (hx:=hl) (Q:=fun o H' _=>H'=[]∧(∃v,o=.ret v∧old 0 v=true∧noY v=true)∧Q o H) ⟨rfl,⟨_,rfl,rfl,rfl⟩,hq⟩
  exact ⟨rfl,rfl,_,1000,aT bT _ _ _,rfl,h⟩
 ·exact hc.elim
def bG0:Con:=fun args H Q=>sK [1] H args fun a=>bI3 a H Q
theorem bFe:aF Tryz.prog gl0 161 bG0:=eT aX6 aM [1] fun args H Q hc=>by
 unfold bI3 at hc
 split at hc
 ·obtain ⟨xs,h,hq⟩:=hc
  exact ⟨xs,h,rfl,⟨_,rfl,rfl⟩,hq⟩
 ·exact hc.elim
end Go.Proofs.YtnhechnaemmdiaaGreatDoor

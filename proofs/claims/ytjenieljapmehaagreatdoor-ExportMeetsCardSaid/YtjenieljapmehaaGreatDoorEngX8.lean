/-
  The engine, part X8: contracts of functions that may panic; of functions with a deferred call that read captured blocks.
-/
import Derived.Test.YtjenieljapmehaaGreatDoorEnH
set_option linter.unusedSimpArgs false
set_option linter.unusedVariables false
namespace Go.Proofs.YtjenieljapmehaaGreatDoor
open Go.RowKit

def flatO:Out→Prop
 | .ret v=>old 0 v=true∧noY v=true
 | .pan v=>old 0 v=true∧noY v=true
theorem flatO_ren {ρ:Nat→Nat} {o:Out} (h:flatO o):renO ρ o=o:=by
 cases o<;>simp only[renO,ren_flat _ _ h.1 h.2]
theorem valid_flatP {P:Program} {gl:Nat→Option (List AV)} {f:FuncId} {c:List AV→List Blk→(Out→List Blk→Prop)→Prop} (he:Enters P f) (hgl:∀g cs,gl g=some cs→noYL cs=true)
  (h:∀args H Q,c args H Q→oldL 0 args=true∧noYL args=true∧∃ (E:Env) (n:Nat),EnvFor P E∧E.gl=gl∧callx E (wpx E n) f args [] {} fun o H' _=>H'=[]∧flatO o∧Q o H):ValidF P gl f c:=by
 refine valid_of he hgl fun args H Q hc => ?_
 obtain ⟨h1,h2,E,n,h3,h4,h5⟩:=h args H Q hc
 refine ⟨E,n,id,args,[],_,h3,h4,(renL_flat id args h1 h2).symm,h1,h2,Fr.nil H,h5, ?_⟩
 rintro o H0' g' ⟨rfl,q1,q3⟩
 refine ⟨H,FrEnd.nil H, ?_⟩
 rw[flatO_ren q1]
 exact q3
mutual
theorem VR.relp {m m0:M} (hb:m0.blk=m.blk) (ho:m0.opq=m.opq) (hs:Ext m.strip m0.strip):∀ (a:AV) (v:Value),noY a=true→VR m a v→VR m0 a v
 | .undef,_,_,_=>by simp[VR]
 | .opq i,v,_,h=>by simpa only [VR,ho] using h
 | .bool _,_,_,h=>by simpa only [VR] using h
 | .int _ _,_,_,h=>by simpa only [VR] using h
 | .str _,_,_,h=>by simpa only [VR] using h
 | .nilp,_,_,h=>by simpa only [VR] using h
 | .ptr id tot off,v,_,h=>by simp only[VR,hb] at h ⊢;exact h
 | .gptr _ _,_,_,h=>by simpa only [VR] using h
 | .nils,_,_,h=>by simpa only [VR] using h
 | .sl id tot off len sz,v,_,h=>by simp only[VR,hb] at h ⊢;exact h
 | .mpn,_,_,h=>by simpa only [VR] using h
 | .mp id,v,_,h=>by simp only[VR,hb] at h ⊢;exact h
 | .nilf,_,_,h=>by simpa only [VR] using h
 | .fn f x y,v,q,h=>by
  simp only[noY,Bool.and_eq_true] at q
  simp only[VR] at h ⊢
  obtain ⟨x',y',h1,h2,h3⟩:=h
  exact ⟨x',y',h1,VRL.relp hb ho hs x _ q.1 h2,VRL.relp hb ho hs y _ q.2 h3⟩
 | .yld u,_,q,_=>by simp[noY] at q
 | .nili,_,_,h=>by simpa only [VR] using h
 | .iface t v,_,q,h=>by
  simp only[noY] at q
  simp only[VR] at h ⊢
  obtain ⟨x,h1,h2⟩:=h
  exact ⟨x,h1,VR.relp hb ho hs v x q h2⟩
 | .agg l,_,q,h=>by
  simp only[noY] at q
  simp only[VR] at h ⊢
  obtain ⟨x,h1,h2⟩:=h
  exact ⟨x,h1,VRL.relp hb ho hs l _ q h2⟩
 | .tup l,_,q,h=>by
  simp only[noY] at q
  simp only[VR] at h ⊢
  obtain ⟨x,h1,h2⟩:=h
  exact ⟨x,h1,VRL.relp hb ho hs l _ q h2⟩
 | .lst t l len sz,v,_,h=>by
  simp only[VR] at h ⊢
  obtain ⟨h1,h2,a,cap,h3,h4,h5⟩:=h
  exact ⟨h1,h2,a,cap,h3,h4,h5.imp (fun ⟨a,cs,ka,k0,k1,k2,k3⟩=>⟨a,cs,ka,k0,hs.frz _ _ _ k1,k2,VRL.mono hs _ _ k3⟩) id⟩
 | .lptr t l off,v,_,h=>by
  simp only[VR] at h ⊢
  obtain ⟨h1,b,o,cs,h3,h4,h5,h6⟩:=h
  exact ⟨h1,b,o,cs,h3,hs.frz _ _ _ h4,h5,VRL.mono hs _ _ h6⟩
theorem VRL.relp {m m0:M} (hb:m0.blk=m.blk) (ho:m0.opq=m.opq) (hs:Ext m.strip m0.strip):∀ (l:List AV) (vs:List Value),noYL l=true→VRL m l vs→VRL m0 l vs
 | [],vs,_,h=>by simpa only [VRL] using h
 | a::l,vs,q,h=>by
  simp only[noYL,Bool.and_eq_true] at q
  obtain ⟨v,vs',rfl,h1,h2⟩:=VRL_consL h
  rw[VRL_cons]
  exact ⟨VR.relp hb ho hs a v q.1 h1,VRL.relp hb ho hs l vs' q.2 h2⟩
end
theorem MpR.relp {m m0:M} (hb:m0.blk=m.blk) (ho:m0.opq=m.opq) (hs:Ext m.strip m0.strip):∀ {c:List AV} {es:List MapEntry},noYL c=true→MpR m c es→MpR m0 c es
 | [],es,_,k=>by simpa only [MpR] using k
 | [_],es,_,k=>by simp only[MpR] at k
 | a::v::l,es,q,k=>by
  simp only[noYL,Bool.and_eq_true] at q
  simp only[MpR] at k ⊢
  obtain ⟨x,es',h1,h2,h3,h4⟩:=k
  exact ⟨x,es',h1,VR.relp hb ho hs a _ q.1 h2,VR.relp hb ho hs v _ q.2.1 h3,MpR.relp hb ho hs q.2.2 h4⟩
def noYH:List Blk→Bool
 | []=>true
 | b::H=>noYL b.cs&&noYH H
theorem noYH_get:∀ {H:List Blk} {i:Nat} {b:Blk},noYH H=true→H[i]? = some b→noYL b.cs=true
 | b0::H,0,b,h,e=>by
  simp only[noYH,Bool.and_eq_true] at h
  simp only[List.getElem?_cons_zero,Option.some.injEq] at e
  rw[←e];exact h.1
 | b0::H,i+1,b,h,e=>by
  simp only[noYH,Bool.and_eq_true] at h
  simp only[List.getElem?_cons_succ] at e
  exact noYH_get h.2 e
def noYO:Out→Bool
 | .ret v=>noY v
 | .pan v=>noY v
theorem HR.relp {gl:Nat→Option (List AV)} {m m0:M} {H:List Blk} {w:World} (hb:m0.blk=m.blk) (ho:m0.opq=m.opq) (hf:m0.frz=m.frz) (hgl:∀g cs,gl g=some cs→noYL cs=true) (hY:noYH H=true) (hH:HR gl m H w):HR gl m0 H w:=by
 have hs:Ext m.strip m0.strip:=⟨fun _ _ h=>(by cases h),ho,fun _ _ h=>(by cases h),fun t b cs h=>by rw[show m0.strip.frz=m0.frz from rfl,hf];exact h⟩
 refine ⟨fun id I h=>hH.dom id I (hb▸h),fun id I b h h2 => ?_,fun id id' I I' b h1 h2 h3 h4 h5=>hH.inj id id' I I' b (hb▸h1) (hb▸h2) h3 h4 h5,fun g cs hg => ?_,hH.gld,fun t k cs h=>hH.frz t k cs (hf▸h),fun t k cs id I b hg h1 h2 h3=>hH.fow t k cs id I b (hf▸hg) (hb▸h1) h2 h3,fun g cs id I b hg h1 h2 h3=>hH.gow g cs id I b hg (hb▸h1) h2 h3⟩
 ·have hB:=hH.blk id I b (hb▸h) h2
  have hy:=noYH_get hY h2
  refine ⟨hB.tot,hB.lf,fun hi => ?_,fun c hc => ?_⟩
  ·obtain ⟨cu,e,lo,hi',h1,h2,h3,h4,h5,h6⟩:=hB.row hi
   exact ⟨cu,e,lo,hi',h1,h2,h3,h4,h5,VRL.relp hb ho hs _ _ hy h6⟩
  ·obtain ⟨es,cl,h1,h2⟩:=hB.mrow c hc
   refine ⟨es,cl,h1,MpR.relp hb ho hs ?_ h2⟩
   have:=(mapC_k hc).2
   rw[this] at hy
   simpa [noYL,noY] using hy
 ·obtain ⟨cu,e,fr,h1,h2⟩:=hH.glb g cs hg
  exact ⟨cu,e,fr,h1,VRL.relp hb ho hs _ _ (hgl g cs hg) h2⟩
def cInl (E:Env) (n:Nat) (D:DFn) (args:List AV) (H:List Blk) (Q:Out→List Blk→Prop):Prop:=
 (noYL args&&noYH H)=true∧callD E (wpx E n) D args H {} fun o H' _=>(noYO o&&noYH H')=true∧Q o H'
theorem inl_ok {P:Program} {f c0:FuncId} {D:DFn} (hD:dfnOf P f c0=some D) (he:Enters P f) {E:Env} {n:Nat} (hE:EnvFor P E) (hgl:∀g cs,E.gl g=some cs→noYL cs=true):ValidF P E.gl f (cInl E n D):=by
 refine ⟨he,fun args H Q hc m w vs hv hH => ?_⟩
 obtain ⟨h1,h2⟩:=hc
 rw[Bool.and_eq_true] at h1
 have hs:Ext m.strip (M.mk m.blk m.opq (fun _=>none) m.frz).strip:=⟨fun _ _ h=>(by cases h),rfl,fun _ _ h=>(by cases h),fun t b cs h=>h⟩
 refine (callD_run hE hD h2 (m:=⟨m.blk,m.opq,fun _=>none,m.frz⟩) (VRL.relp (m:=m) (m0:=⟨m.blk,m.opq,fun _=>none,m.frz⟩) rfl rfl hs _ _ h1.1 hv) (HR.relp (m:=m) (m0:=⟨m.blk,m.opq,fun _=>none,m.frz⟩) rfl rfl rfl hgl h1.2 hH) rfl).mono fun e w' hp => ?_
 obtain ⟨o,H',g',m',⟨q0,q1⟩,q2,q3,_,hM⟩:=hp
 rw[Bool.and_eq_true] at q0
 have hs':Ext m'.strip (M.mk m'.blk m'.opq m.lp m'.frz).strip:=⟨fun _ _ h=>(by cases h),rfl,fun _ _ h=>(by cases h),fun t b cs h=>h⟩
 refine ⟨o,H',⟨m'.blk,m'.opq,m.lp,m'.frz⟩,q1, ?_,HR.relp (m:=m') (m0:=⟨m'.blk,m'.opq,m.lp,m'.frz⟩) rfl rfl rfl hgl q0.2 q3,⟨⟨⟨hM.ext.blk,hM.ext.opq,fun _ _ h=>h,hM.ext.frz⟩,hM.os,hM.tape,hM.output,hM.size,fun k hk ho=>hM.keep k hk ho (by simp),hM.own,fun _ _ h=>h,hM.fz⟩,hM.len,hM.nw⟩⟩
 cases o with
 | ret v=>
  cases e<;>simp only[OutR] at q2
  exact VR.relp (m:=m') (m0:=⟨m'.blk,m'.opq,m.lp,m'.frz⟩) rfl rfl hs' _ _ q0.1 q2
 | pan v=>
  cases e<;>simp only[OutR] at q2
  obtain ⟨cv,e1,e2⟩:=q2
  exact ⟨cv,e1,VR.relp (m:=m') (m0:=⟨m'.blk,m'.opq,m.lp,m'.frz⟩) rfl rfl hs' _ _ q0.1 e2⟩
end Go.Proofs.YtjenieljapmehaaGreatDoor

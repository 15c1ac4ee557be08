/-
  Chapter 18: strings.Join as a contract.
-/
import Derived.Test.YtjenieljapmehaaGreatDoorGmC
set_option linter.unusedSimpArgs false
set_option linter.unusedVariables false
set_option linter.unusedSectionVars false
namespace Go.Proofs.YtjenieljapmehaaGreatDoor
open Go.RowKit
set_option maxRecDepth 1000000

theorem valid_belowH {P:Program} {gl:Nat→Option (List AV)} {f:FuncId} {c:List AV→List Blk→(Out→List Blk→Prop)→Prop} (he:Enters P f)
  (h:∀args H Q,c args H Q→∀ (m:M) (w:World) (vs:Array Value),VRL m args vs.toList→HR gl m H w→∃a v,Q (.ret a) H∧VR m a v∧Calls P f vs w fun e w'=>e=.returned v∧Below w.heap.size w w'):ValidF P gl f c:=by
 refine ⟨he,fun args H Q hc m w vs hv hH => ?_⟩
 obtain ⟨a,v,hq,ha,hr⟩:=h args H Q hc m w vs hv hH
 refine hr.mono ?_
 rintro e w' ⟨rfl,bel⟩
 exact ⟨.ret a,H,m,hq,ha,hH.same (Ext.refl m) rfl rfl fun j hj=>bel.block j hj,
  ⟨Ext.refl m,bel.os,bel.tape,bel.output,bel.size,fun k hk _=>bel.block k hk,fun _ h=>.inr h,fun _ _ h=>h,fun _ _ _ h=>.inl h⟩,Nat.le_refl _,fun _ _ h=>h⟩
def joinM (l:List (List UInt8)) (sep:List UInt8):List UInt8:=Lib.join l sep
def cJoin:Con
 | [.lst _ ss n 1,.str sep],H,K=>∃l:List (List UInt8),Lf (ss=cellsSM l∧n=l.length∧l.length≤1000∧(joinM l sep).length≤1000000)∧∀x,Lf (x=joinM l sep)→K (.ret (.str x)) H
 | _,_,_=>False
theorem strs_vals {m:M}:∀ (l:List (List UInt8)) (vs:List Value),VRL m (cellsSM l) vs→vs=l.map fun s=>Value.string ⟨s.toArray⟩
 | [],vs,h=>by simpa [cellsSM] using h
 | s::l,vs,h=>by
  obtain ⟨v,vs',e,h1,h2⟩:=VRL_consL h
  rw[e,strs_vals l vs' h2]
  simp only[VR] at h1
  rw[h1]
  rfl
theorem join18_ok:ValidF Tryz.prog gl0 85 cJoin:=by
 refine valid_belowH (enters_of (by kernel_rfl)) fun args H Q hc m w vs hv hH => ?_
 unfold cJoin at hc
 split at hc
 ·rename_i tg ss n sep
  obtain ⟨l,⟨rfl,rfl,h1,h2⟩,hq⟩:=hc
  obtain ⟨v,u,rfl,g1,g2⟩:=VRL_two hv
  simp only[VR] at g1 g2
  subst g2
  obtain ⟨_,k2,oa,cap,rfl,k3,k4⟩:=g1
  have ex:(l.map fun s=>(⟨s.toArray⟩:ByteArray)).map (·.data.toList)=l:=by
   rw[List.map_map]
   exact (List.map_congr_left fun _ _=>rfl).trans (List.map_id l)
  rcases k4 with ⟨a,cs,rfl,k5,k6,k7,k8⟩ | ⟨k5,k6,_⟩
  ·obtain ⟨cu,e,fr,f1,f2⟩:=hH.frz _ _ _ k6
   have hvals:=strs_vals l _ k8
   obtain ⟨ab,ao,asp⟩:=a
   simp only at k5 k6 k7 k8 f1 hvals
   subst k5
   have hj:=Tryz.strings_Join ab ao cap (l.map fun s=>(⟨s.toArray⟩:ByteArray)) ⟨sep.toArray⟩ w (fun j x hx => ?_) (Array.getElem?_eq_some_iff.1 f1).1 (by simp;omega) (by simpa using k3) (by rw[ex];unfold joinM at h2;simpa using (by omega:(Lib.join l sep).length≤140737488355328))
   ·rw[ex,List.length_map] at hj
    exact ⟨_,_,hq _ ⟨rfl⟩,by simp[VR,joinM],hj⟩
   ·have e1:(l.map fun s=>Value.string ⟨s.toArray⟩)[j]? = some (.string x):=by
     rw[List.getElem?_map] at hx ⊢
     cases hy:l[j]? with
     | none=>rw[hy] at hx;simp at hx
     | some y=>rw[hy] at hx;simp only[Option.map_some,Option.some.injEq] at hx ⊢;rw[hx]
    rw[←hvals] at e1
    have hjl:j<(cellsSM l).length:=by
     rcases Nat.lt_or_ge j (cellsSM l).length with g | g
     ·exact g
     ·rw[List.getElem?_eq_none (by rw[List.length_take];omega)] at e1;simp at e1
    rw[List.getElem?_take_of_lt hjl,List.getElem?_drop] at e1
    have hcl:ao+j<cs.length:=by omega
    rw[←f2,List.getElem?_take_of_lt hcl] at e1
    simp only[World.cell?,f1,Option.isSome_none,Bool.false_eq_true,if_false]
    rw[←Array.getElem?_toList]
    exact e1
  ·have hl:l.length=0:=k5
   obtain rfl:=List.length_eq_zero_iff.1 hl
   exact ⟨_,.string ⟨#[]⟩,hq _ ⟨rfl⟩,by simp[VR,joinM,Lib.join],(Tryz.strings_Join_none oa cap ⟨sep.toArray⟩ w).mono fun e w' h=>⟨h.1,h.2▸Below.refl _ _⟩⟩
 ·exact hc.elim
def cJoinV:Con:=fun args H Q=>lendL [1] H args fun a=>cJoin a H Q
theorem joinV_ok:ValidF Tryz.prog gl0 85 cJoinV:=valid_view join18_ok gl0_noY [1] fun args H Q hc=>by
 unfold cJoin at hc
 split at hc
 ·obtain ⟨l,h,hq⟩:=hc
  exact ⟨l,h,fun x hx=>⟨rfl,⟨_,rfl,rfl⟩,hq x hx⟩⟩
 ·exact hc.elim
end Go.Proofs.YtjenieljapmehaaGreatDoor

/-
  Chapter 25: strings.Join; contracts that compute; the chapter's examples hold.
-/
import Derived.Test.YtnhechnaemmdiaaGreatDoorK25SN
import Derived.Test.YtnhechnaemmdiaaGreatDoorEnJ
set_option linter.unusedSimpArgs false
set_option linter.unusedVariables false
set_option linter.unusedSectionVars false
namespace Go.Proofs.YtnhechnaemmdiaaGreatDoor
open Go.RowKit
set_option maxRecDepth 1000000

def cellsSM:List (List UInt8)→List AV
 | []=>[]
 | s::l=>.str s::cellsSM l
theorem VRL_two {m:M} {a b:AV} {vs:Array Value} (hv:VRL m [a,b] vs.toList):∃v w,vs = #[v,w]∧VR m a v∧VR m b w:=by
 obtain ⟨v1,l1,e1,h1,r1⟩:=VRL_consL hv
 obtain ⟨v2,l2,e2,h2,r2⟩:=VRL_consL r1
 rw[VRL_nil] at r2
 subst r2
 subst e2
 exact ⟨v1,v2,by apply Array.ext';simpa using e1,h1,h2⟩

theorem valid_belowH {P:Program} {gl:Nat→Option (List AV)} {f:FuncId} {c:List AV→List Blk→(Out→List Blk→Prop)→Prop} (he:Enters P f)
  (h:∀args H Q,c args H Q→∀ (m:M) (w:World) (vs:Array Value),VRL m args vs.toList→HR gl m H w→∃a v,Q (.ret a) H∧VR m a v∧Calls P f vs w fun e w'=>e=.returned v∧Below w.heap.size w w'):ValidF P gl f c:=by
 refine ⟨he,fun args H Q hc m w vs hv hH => ?_⟩
 obtain ⟨a,v,hq,ha,hr⟩:=h args H Q hc m w vs hv hH
 refine hr.mono ?_
 rintro e w' ⟨rfl,bel⟩
 exact ⟨.ret a,H,m,hq,ha,hH.same (Ext.refl m) rfl rfl fun j hj=>bel.block j hj,
  ⟨Ext.refl m,bel.os,bel.tape,bel.output,bel.size,fun k hk _=>bel.block k hk,fun _ h=>.inr h,fun _ _ h=>h,fun _ _ _ h=>.inl h⟩,Nat.le_refl _,fun _ _ h=>h⟩
def joinM (l:List (List UInt8)) (sep:List UInt8):List UInt8:=Lib.join l sep
def cJoin:Con
 | [.lst _ ss n 1,.str sep],H,K=>∃l:List (List UInt8),Lf (ss=cellsSM l∧n=l.length∧l.length≤1000∧(joinM l sep).length≤1000000)∧∀x,Lf (x=joinM l sep)→K (.ret (.str x)) H
 | _,_,_=>False
theorem strs_vals {m:M}:∀ (l:List (List UInt8)) (vs:List Value),VRL m (cellsSM l) vs→vs=l.map fun s=>Value.string ⟨s.toArray⟩
 | [],vs,h=>by simpa [cellsSM] using h
 | s::l,vs,h=>by
  obtain ⟨v,vs',e,h1,h2⟩:=VRL_consL h
  rw[e,strs_vals l vs' h2]
  simp only[VR] at h1
  rw[h1]
  rfl
theorem join25_ok:ValidF Tryz.prog gl0 129 cJoin:=by
 refine valid_belowH (enters_of (by kernel_rfl)) fun args H Q hc m w vs hv hH => ?_
 unfold cJoin at hc
 split at hc
 ·rename_i tg ss n sep
  obtain ⟨l,⟨rfl,rfl,h1,h2⟩,hq⟩:=hc
  obtain ⟨v,u,rfl,g1,g2⟩:=VRL_two hv
  simp only[VR] at g1 g2
  subst g2
  obtain ⟨_,k2,oa,cap,rfl,k3,k4⟩:=g1
  have ex:(l.map fun s=>(⟨s.toArray⟩:ByteArray)).map (·.data.toList)=l:=by
   rw[List.map_map]
   exact (List.map_congr_left fun _ _=>rfl).trans (List.map_id l)
  rcases k4 with ⟨a,cs,rfl,k5,k6,k7,k8⟩ | ⟨k5,k6,_⟩
  ·obtain ⟨cu,e,fr,f1,f2⟩:=hH.frz _ _ _ k6
   have hvals:=strs_vals l _ k8
   obtain ⟨ab,ao,asp⟩:=a
   simp only at k5 k6 k7 k8 f1 hvals
   subst k5
   have hj:=Tryz.strings_Join ab ao cap (l.map fun s=>(⟨s.toArray⟩:ByteArray)) ⟨sep.toArray⟩ w (fun j x hx => ?_) (Array.getElem?_eq_some_iff.1 f1).1 (by simp;omega) (by simpa using k3) (by rw[ex];unfold joinM at h2;simpa using (by omega:(Lib.join l sep).length≤140737488355328))
   ·rw[ex,List.length_map] at hj
    exact ⟨_,_,hq _ ⟨rfl⟩,by simp[VR,joinM],hj⟩
   ·have e1:(l.map fun s=>Value.string ⟨s.toArray⟩)[j]? = some (.string x):=by
     rw[List.getElem?_map] at hx ⊢
     cases hy:l[j]? with
     | none=>rw[hy] at hx;simp at hx
     | some y=>rw[hy] at hx;simp only[Option.map_some,Option.some.injEq] at hx ⊢;rw[hx]
    rw[←hvals] at e1
    have hjl:j<(cellsSM l).length:=by
     rcases Nat.lt_or_ge j (cellsSM l).length with g | g
     ·exact g
     ·rw[List.getElem?_eq_none (by rw[List.length_take];omega)] at e1;simp at e1
    rw[List.getElem?_take_of_lt hjl,List.getElem?_drop] at e1
    have hcl:ao+j<cs.length:=by omega
    rw[←f2,List.getElem?_take_of_lt hcl] at e1
    simp only[World.cell?,f1,Option.isSome_none,Bool.false_eq_true,if_false]
    rw[←Array.getElem?_toList]
    exact e1
  ·have hl:l.length=0:=k5
   obtain rfl:=List.length_eq_zero_iff.1 hl
   exact ⟨_,.string ⟨#[]⟩,hq _ ⟨rfl⟩,by simp[VR,joinM,Lib.join],(Tryz.strings_Join_none oa cap ⟨sep.toArray⟩ w).mono fun e w' h=>⟨h.1,h.2▸Below.refl _ _⟩⟩
 ·exact hc.elim

def strsO:List AV→Option (List (List UInt8))
 | []=>some []
 | .str s::l=>(match strsO l with
  | some r=>some (s::r)
  | none=>none)
 | _=>none
theorem strsO_eq:∀ (l:List AV) (r:List (List UInt8)),strsO l=some r→l=cellsSM r
 | [],r,h=>by cases h;rfl
 | v::l,r,h=>by
  cases v<;>simp[strsO] at h
  rename_i s
  split at h
  ·rename_i r' hr
   cases h
   rw[cellsSM,strsO_eq l r' hr]
  ·cases h
def joinR (l:List (List UInt8)) (sep:List UInt8) (H:List Blk):Option (Out×List Blk):=bif Nat.ble l.length 1000&&Nat.ble (joinM l sep).length 1000000 then some (.ret (.str (joinM l sep)),H) else none
def cJoinV:Con:=fun args H Q=>lendL [1] H args fun a=>cJoin a H Q
theorem joinV_ok:ValidF Tryz.prog gl0 129 cJoinV:=valid_view join25_ok gl0_noY [1] fun args H Q hc=>by
 unfold cJoin at hc
 split at hc
 ·obtain ⟨l,h,hq⟩:=hc
  exact ⟨l,h,fun x hx=>⟨rfl,⟨_,rfl,rfl⟩,hq x hx⟩⟩
 ·exact hc.elim
def cJoinQ:ConQ
 | [.lst _ ss n 1,.str sep],H=>(match strsO ss with
  | some l=>bif Nat.beq n l.length then joinR l sep H else none
  | none=>none)
 | [.sl id tot off len 1,.str sep],H=>(match H[id]? with
  | some b=>bif Nat.beq b.cs.length tot&&Nat.ble (off+len*1) tot&&b.k !=.ro then (match strsO ((b.cs.drop off).take (len*1)) with
   | some l=>bif Nat.beq len l.length then joinR l sep H else none
   | none=>none) else none
  | none=>none)
 | _,_=>none
theorem joinR_some {l:List (List UInt8)} {sep:List UInt8} {H H':List Blk} {o:Out} {n:Nat} (h:(bif Nat.beq n l.length then joinR l sep H else none)=some (o,H')):n=l.length∧l.length≤1000∧(joinM l sep).length≤1000000∧o=.ret (.str (joinM l sep))∧H=H':=by
 cases h1:Nat.beq n l.length<;>rw[h1] at h
 ·cases h
 ·unfold joinR at h
  rw[cond_true] at h
  cases h2:Nat.ble l.length 1000&&Nat.ble (joinM l sep).length 1000000<;>rw[h2] at h
  ·cases h
  ·simp only[Bool.and_eq_true,Nat.ble_eq] at h2
   cases h
   exact ⟨Nat.eq_of_beq_eq_true h1,h2.1,h2.2,rfl,rfl⟩
theorem frz_strs (H:List Blk) (d:Nat):∀l,(cellsSM l).map (fun x=>frzV 1 H (d+1) x)=cellsSM l
 | []=>rfl
 | s::l=>by rw[cellsSM,List.map_cons,frz_strs H d l];rfl
theorem joinQ_ok:ValidF Tryz.prog gl0 129 (toP cJoinQ):=valid_to joinV_ok fun args H o H' K ho hk=>by
 unfold cJoinQ at ho
 split at ho
 ·rename_i tg ss n sep
  split at ho
  ·rename_i l hl
   obtain ⟨rfl,h1,h2,rfl,rfl⟩:=joinR_some ho
   show ∃l':List (List UInt8),_
   refine ⟨l,⟨strsO_eq _ _ hl,rfl,h1,h2⟩, ?_⟩
   rintro x ⟨rfl⟩
   exact hk
  ·cases ho
 ·rename_i id tot off len sep
  split at ho
  ·rename_i b hb
   cases hc:(Nat.beq b.cs.length tot&&Nat.ble (off+len*1) tot&&b.k !=.ro)<;>rw[hc] at ho
   ·cases ho
   ·rw[cond_true] at ho
    split at ho
    ·rename_i l hl
     obtain ⟨rfl,h1,h2,rfl,rfl⟩:=joinR_some ho
     show (match H[id]? with
      | some b=>bif Nat.beq b.cs.length tot&&Nat.ble (off+l.length*1) tot&&b.k !=.ro then cJoin [.lst 1 (((b.cs.drop off).take (l.length*1)).map fun x=>frzV 1 H 8 x) l.length 1,.str sep] H K else False
      | none=>False)
     rw[hb]
     dsimp only
     rw[hc,cond_true,strsO_eq _ _ hl,frz_strs]
     refine ⟨l,⟨rfl,rfl,h1,h2⟩, ?_⟩
     rintro x ⟨rfl⟩
     exact hk
    ·cases ho
  ·cases ho
 ·cases ho
def cSealQ:ConQ
 | [.str a,.str b,.str c,.str d],H=>(match sealM a b c d with
  | (t,e)=>some (.ret (.tup [.str t,.int .i64 e]),H))
 | _,_=>none
def cOpenQ:ConQ
 | [.str a,.str b,.str c,.str d],H=>(match openM a b c d with
  | (t,e)=>some (.ret (.tup [.str t,.int .i64 e]),H))
 | _,_=>none
def cRepeatQ:ConQ
 | [.str s,.int .i64 c],H=>bif decide (0≤c)&&Nat.ble c.toNat 9223372036854775807&&Nat.ble (s.length*c.toNat) 140737488355328 then some (.ret (.str (repM s c.toNat)),H) else none
 | _,_=>none
theorem repeatQ_ok:ValidF Tryz.prog gl0 48 (toP cRepeatQ):=valid_to repeat_ok fun args H o H' K ho hk=>by
 unfold cRepeatQ at ho
 split at ho
 ·rename_i s c
  show (bif decide (0≤c)&&Nat.ble c.toNat 9223372036854775807&&Nat.ble (s.length*c.toNat) 140737488355328 then K (.ret (.str (repM s c.toNat))) H else False)
  cases hb:decide (0≤c)&&Nat.ble c.toNat 9223372036854775807&&Nat.ble (s.length*c.toNat) 140737488355328<;>rw[hb] at ho
  ·cases ho
  ·cases ho;exact hk
 ·cases ho
theorem sealQ_ok:ValidF Tryz.prog gl0 66 (toP cSealQ):=valid_to seal_ok fun args H o H' K ho hk=>by
 unfold cSealQ at ho
 split at ho
 ·intro t e he
  rw[he.h] at ho
  cases ho;exact hk
 ·cases ho
theorem openQ_ok:ValidF Tryz.prog gl0 82 (toP cOpenQ):=valid_to open_ok fun args H o H' K ho hk=>by
 unfold cOpenQ at ho
 split at ho
 ·intro t e he
  rw[he.h] at ho
  cases ho;exact hk
 ·cases ho
end Go.Proofs.YtnhechnaemmdiaaGreatDoor

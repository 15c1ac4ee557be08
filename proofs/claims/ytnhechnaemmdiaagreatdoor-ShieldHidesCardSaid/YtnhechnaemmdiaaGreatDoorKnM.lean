/-
  Chapter 25: extensions that are hidden (plain).
-/
import Derived.Test.YtnhechnaemmdiaaGreatDoorK25NA
import Derived.Test.YtnhechnaemmdiaaGreatDoorKnG
import Derived.Test.YtnhechnaemmdiaaGreatDoorKnL
import Derived.Test.YtnhechnaemmdiaaGreatDoorKnA
import Derived.Test.YtnhechnaemmdiaaGreatDoorKnE
set_option linter.unusedSimpArgs false
set_option linter.unusedVariables false
set_option linter.unusedSectionVars false
namespace Go.Proofs.YtnhechnaemmdiaaGreatDoor
open Go.RowKit
set_option maxRecDepth 1000000

def dN (sa:List UInt8) (ss ix:Int):List UInt8:=List.zipWith (fun a b=>a ^^^ b) (Md.beM ss 4++Md.beM ix 8) sa
theorem kI {sa:List UInt8} (h:sa.length=12) (ss ix:Int):(dN sa ss ix).length=12:=by
 rw[dN,List.length_zipWith,List.length_append,Md.be_len,Md.be_len,h]
 rfl
def bF (hid:List Int):List Md.Xt→List UInt8
 | []=>[]
 | x::l=>(if tK x.1 hid=true then x.2 else [])++bF hid l
def bX (hid:List Int):List Md.Xt→List UInt8→List Md.Xt
 | [],_=>[]
 | x::l,d=>if tK x.1 hid=true then (x.1,d.take x.2.length)::bX hid l (d.drop x.2.length) else x::bX hid l d
def eB (hid:List Int) (mk sa:List UInt8) (ss ix:Int) (ex:List Md.Xt):List Md.Xt:=bX hid ex (iT mk (dN sa ss ix) 0 (bF hid ex)).1
def lZ (ex:List Md.Xt):List (Int×Nat):=ex.map fun x=>(x.1,x.2.length)
theorem yM (hid:List Int):∀a b:List Md.Xt,bF hid (a++b)=bF hid a++bF hid b
 | [],b=>rfl
 | x::a,b=>by rw[List.cons_append,bF,bF,yM hid a b,List.append_assoc]
theorem qO (hid:List Int):∀ (ex:List Md.Xt) (d:List UInt8),(bX hid ex d).length=ex.length
 | [],_=>rfl
 | x::l,d=>by rw[bX];split<;>simp[qO hid l]
theorem qX (hid:List Int):∀ (a b:List Md.Xt) (d:List UInt8),bX hid (a++b) d=bX hid a d++bX hid b (d.drop (bF hid a).length)
 | [],b,d=>by simp[bX,bF]
 | x::a,b,d=>by
  rw[List.cons_append,bX,bX,bF]
  split
  ·rw[qX hid a b,List.cons_append,List.length_append,List.drop_drop]
  ·rw[qX hid a b,List.nil_append,List.cons_append]
theorem xY (hid:List Int):∀ (ex:List Md.Xt) (d:List UInt8),(bF hid ex).length≤d.length→lZ (bX hid ex d)=lZ ex
 | [],_,_=>rfl
 | x::l,d,h=>by
  rw[bF] at h
  rw[bX]
  split at h
  ·rename_i hx
   rw[List.length_append] at h
   rw[if_pos hx,lZ,lZ,List.map_cons,List.map_cons]
   have ih:=xY hid l (d.drop x.2.length) (by rw[List.length_drop];omega)
   rw[lZ,lZ] at ih
   rw[ih]
   simp only[List.length_take]
   rw[Nat.min_eq_left (by omega)]
  ·rename_i hx
   rw[List.nil_append] at h
   rw[if_neg hx,lZ,lZ,List.map_cons,List.map_cons]
   have ih:=xY hid l d h
   rw[lZ,lZ] at ih
   rw[ih]
theorem aEw (hid:List Int):∀ (ex:List Md.Xt) (d:List UInt8),(bF hid ex).length≤d.length→bF hid (bX hid ex d)=d.take (bF hid ex).length
 | [],_,_=>by simp[bX,bF]
 | x::l,d,h=>by
  rw[bF] at h
  rw[bX]
  split at h
  ·rename_i hx
   rw[List.length_append] at h
   have ih:=aEw hid l (d.drop x.2.length) (by rw[List.length_drop];omega)
   rw[if_pos hx,bF,if_pos hx,ih,bF,if_pos hx,List.length_append]
   rw[List.take_add]
  ·rename_i hx
   rw[List.nil_append] at h
   rw[if_neg hx,bF,if_neg hx,List.nil_append,aEw hid l d h,bF,if_neg hx,List.nil_append]
theorem zV (hid:List Int):∀ (ex:List Md.Xt) (d e:List UInt8),(bF hid ex).length≤d.length→bX hid (bX hid ex d) e=bX hid ex e
 | [],_,_,_=>rfl
 | x::l,d,e,h=>by
  rw[bF] at h
  rw[bX]
  split at h
  ·rename_i hx
   rw[List.length_append] at h
   rw[if_pos hx,bX,if_pos hx,bX,if_pos hx]
   have hl:(d.take x.2.length).length=x.2.length:=by rw[List.length_take];omega
   dsimp only
   rw[hl,zV hid l _ _ (by rw[List.length_drop];omega)]
  ·rename_i hx
   rw[List.nil_append] at h
   rw[if_neg hx,bX,if_neg hx,bX,if_neg hx,zV hid l _ _ h]
theorem aAb (hid:List Int):∀ (ex:List Md.Xt),bX hid ex (bF hid ex)=ex
 | []=>rfl
 | x::l=>by
  rw[bX,bF]
  split
  ·rw[List.take_left' rfl,List.drop_left' rfl,aAb hid l]
  ·rw[List.nil_append,aAb hid l]
theorem aGy:∀ (ex:List Md.Xt) (d:List UInt8),bX [] ex d=ex
 | [],_=>rfl
 | x::l,d=>by rw[bX,if_neg (by simp[tK]),aGy l d]
theorem aOq (hid:List Int) (sh:Bool):∀ex:List Md.Xt,(bF hid ex).length≤(Md.extBM sh ex).length
 | []=>Nat.le_refl _
 | x::l=>by
  have ih:=aOq hid sh l
  rw[bF,Md.extBM]
  simp only[List.length_append]
  split
  ·omega
  ·simp only[List.length_nil];omega
theorem uP:∀ (s:List UInt8) (l:List Nat),s.length≤l.length→dI (dI s l) l=s
 | [],_,_=>by simp[dI]
 | _::_,[],h=>by simp at h
 | a::s,b::l,h=>by
  have ih:=uP s l (by simpa using h)
  simp only[dI,List.zipWith_cons_cons] at ih ⊢
  rw[ih,x8M,x8M,UInt8.xor_assoc,UInt8.xor_self,UInt8.xor_zero]
theorem aAn (s:List UInt8) (l:List Nat) (h:s.length≤l.length):(dI s l).length=s.length:=by
 rw[dI,List.length_zipWith];omega
theorem xI (w:W16):∀ (f:Nat) (c:Int) (s:List UInt8),s.length≤64*f→jY w c f (jY w c f s)=s
 | 0,c,s,h=>by
  have:s=[]:=List.length_eq_zero_iff.1 (by omega)
  rw[this];rfl
 | f+1,c,s,h=>by
  have hb:=rR w c
  by_cases hs:s.length≤64
  ·have e1:jY w c (f+1) s=dI s (aDa w c):=by rw[jY,if_pos hs]
   have l1:=aAn s (aDa w c) (by omega)
   rw[e1,jY,if_pos (by omega),uP _ _ (by omega)]
  ·have lt:(s.take 64).length=64:=by rw[List.length_take];omega
   have l1:=aAn (s.take 64) (aDa w c) (by omega)
   have l2:(jY w (c+1) f (s.drop 64)).length=s.length-64:=by rw[kX w f (c+1) _ (by rw[List.length_drop];omega),List.length_drop]
   have e1:jY w c (f+1) s=dI (s.take 64) (aDa w c)++jY w (c+1) f (s.drop 64):=by rw[jY,if_neg hs]
   have e2:(dI (s.take 64) (aDa w c)++jY w (c+1) f (s.drop 64)).take 64=dI (s.take 64) (aDa w c):=List.take_left' (by omega)
   have e3:(dI (s.take 64) (aDa w c)++jY w (c+1) f (s.drop 64)).drop 64=jY w (c+1) f (s.drop 64):=List.drop_left' (by omega)
   rw[e1,jY,if_neg (by rw[List.length_append];omega),e2,e3,uP _ _ (by omega),xI w f _ _ (by rw[List.length_drop];omega),List.take_append_drop]
theorem aKo {key no:List UInt8} (h1:key.length=32) (h2:no.length=12):rightM key no 0=true:=by simp[rightM,h1,h2]
theorem aXk {key no hd pl:List UInt8} (h1:key.length=32) (h2:no.length=12) (h3:hd.length≤4096) (h4:pl.length≤4096) :
  lM key no hd pl=(jY (dS key no) 1 70 pl++kS key no hd (jY (dS key no) 1 70 pl),0):=by
 rw[lM,if_neg (by rw[aKo h1 h2];simp),if_neg (by omega)]
theorem sM {key no hd pl:List UInt8} (h1:key.length=32) (h2:no.length=12) (h3:hd.length≤4096) (h4:pl.length≤4096):(lM key no hd pl).1.length=pl.length+16:=by
 rw[aXk h1 h2 h3 h4]
 dsimp only
 rw[List.length_append,nG,kX _ _ _ _ (by omega)]
theorem aI7 {key no hd plain:List UInt8} (h1:key.length=32) (h2:no.length=12) (h3:hd.length≤4096) (h4:plain.length≤4096):oH key no hd (lM key no hd plain).1=(plain,0):=by
 have hl:=sM h1 h2 h3 h4
 have hs:=aXk h1 h2 h3 h4
 have ha:=kX (dS key no) 70 1 plain (by omega)
 have hc:=nG key no hd (jY (dS key no) 1 70 plain)
 rw[oH,if_neg (by rw[aKo h1 h2];simp),if_neg (by omega),if_neg (by omega),hl,Nat.add_sub_cancel,hs]
 dsimp only
 rw[List.drop_left' ha,List.take_left' ha,if_pos rfl,xI _ _ _ _ (by omega)]
theorem aF2 {key no s:List UInt8} (h1:key.length=32) (h2:no.length=12) (h3:s.length≤4096):iT key no 0 s=(jY (dS key no) 0 70 s,0):=by
 rw[iT,if_neg (by rw[aKo h1 h2];simp),if_neg (by omega),if_neg (by omega)]
theorem aIu {hid:List Int} {mk sa:List UInt8} {ss ix:Int} {ex:List Md.Xt} (h1:mk.length=32) (h2:sa.length=12) (h3:(bF hid ex).length≤4096):eB hid mk sa ss ix (eB hid mk sa ss ix ex)=ex:=by
 have hn:=kI h2 ss ix
 have ha:=aF2 (s:=bF hid ex) h1 hn h3
 have hl:=kX (dS mk (dN sa ss ix)) 70 0 (bF hid ex) (by omega)
 unfold eB
 rw[ha]
 dsimp only
 rw[aEw hid ex _ (by omega),zV hid ex _ _ (by omega),List.take_of_length_le (by omega),aF2 h1 hn (by omega)]
 dsimp only
 rw[xI _ _ _ _ (by omega),aAb]
theorem yU {hid:List Int} {mk sa:List UInt8} {ss ix:Int} {ex:List Md.Xt} (h1:mk.length=32) (h2:sa.length=12) (h3:(bF hid ex).length≤4096):lZ (eB hid mk sa ss ix ex)=lZ ex:=by
 have hn:=kI h2 ss ix
 have ha:=aF2 (s:=bF hid ex) h1 hn h3
 have hl:=kX (dS mk (dN sa ss ix)) 70 0 (bF hid ex) (by omega)
 unfold eB
 rw[ha]
 exact xY hid ex _ (by dsimp only;omega)
def dX:List (List UInt8)→List AV
 | []=>[]
 | s::l=>.str s::dX l
theorem aX2 {m:M} {a b:AV} {vs:Array Value} (hv:VRL m [a,b] vs.toList):∃v w,vs = #[v,w]∧VR m a v∧VR m b w:=by
 obtain ⟨v1,l1,e1,h1,r1⟩:=bD hv
 obtain ⟨v2,l2,e2,h2,r2⟩:=bD r1
 rw[gI] at r2
 subst r2
 subst e2
 exact ⟨v1,v2,by apply Array.ext';simpa using e1,h1,h2⟩

theorem aCz {P:Program} {gl:Nat→Option (List AV)} {f:FuncId} {c:List AV→List Blk→(Out→List Blk→Prop)→Prop} (he:Enters P f)
  (h:∀args H Q,c args H Q→∀ (m:M) (w:World) (vs:Array Value),VRL m args vs.toList→HR gl m H w→∃a v,Q (.ret a) H∧VR m a v∧Calls P f vs w fun e w'=>e=.returned v∧Below w.heap.size w w'):aG P gl f c:=by
 refine ⟨he,fun args H Q hc m w vs hv hH => ?_⟩
 obtain ⟨a,v,hq,ha,hr⟩:=h args H Q hc m w vs hv hH
 refine hr.mono ?_
 rintro e w' ⟨rfl,bel⟩
 exact ⟨.ret a,H,m,hq,ha,hH.same (Ext.refl m) rfl rfl fun j hj=>bel.block j hj,
  ⟨Ext.refl m,bel.os,bel.tape,bel.output,bel.size,fun k hk _=>bel.block k hk,fun _ h=>.inr h,fun _ _ h=>h,fun _ _ _ h=>.inl h⟩,Nat.le_refl _,fun _ _ h=>h⟩
def iI (l:List (List UInt8)) (sep:List UInt8):List UInt8:=Lib.join l sep
def aLu:Con
 | [.lst _ ss n 1,.str sep],H,K=>∃l:List (List UInt8),Lf (ss=dX l∧n=l.length∧l.length≤1000∧(iI l sep).length≤1000000)∧∀x,Lf (x=iI l sep)→K (.ret (.str x)) H
 | _,_,_=>False
theorem aBf {m:M}:∀ (l:List (List UInt8)) (vs:List Value),VRL m (dX l) vs→vs=l.map fun s=>Value.string ⟨s.toArray⟩
 | [],vs,h=>by simpa [dX] using h
 | s::l,vs,h=>by
  obtain ⟨v,vs',e,h1,h2⟩:=bD h
  rw[e,aBf l vs' h2]
  simp only[VR] at h1
  rw[h1]
  rfl
theorem aPq:aG Tryz.prog gl0 129 aLu:=by
 refine aCz (enters_of (by kernel_rfl)) fun args H Q hc m w vs hv hH => ?_
 unfold aLu at hc
 split at hc
 ·rename_i tg ss n sep
  obtain ⟨l,⟨rfl,rfl,h1,h2⟩,hq⟩:=hc
  obtain ⟨v,u,rfl,g1,g2⟩:=aX2 hv
  simp only[VR] at g1 g2
  subst g2
  obtain ⟨_,k2,oa,cap,rfl,k3,k4⟩:=g1
  have ex:(l.map fun s=>(⟨s.toArray⟩:ByteArray)).map (·.data.toList)=l:=by
   rw[List.map_map]
   exact (List.map_congr_left fun _ _=>rfl).trans (List.map_id l)
  rcases k4 with ⟨a,cs,rfl,k5,k6,k7,k8⟩ | ⟨k5,k6,_⟩
  ·obtain ⟨cu,e,fr,f1,f2⟩:=hH.frz _ _ _ k6
   have hvals:=aBf l _ k8
   obtain ⟨ab,ao,asp⟩:=a
   simp only at k5 k6 k7 k8 f1 hvals
   subst k5
   have hj:=Tryz.strings_Join ab ao cap (l.map fun s=>(⟨s.toArray⟩:ByteArray)) ⟨sep.toArray⟩ w (fun j x hx => ?_) (Array.getElem?_eq_some_iff.1 f1).1 (by simp;omega) (by simpa using k3) (by rw[ex];unfold iI at h2;simpa using (by omega:(Lib.join l sep).length≤140737488355328))
   ·rw[ex,List.length_map] at hj
    exact ⟨_,_,hq _ ⟨rfl⟩,by simp[VR,iI],hj⟩
   ·have e1:(l.map fun s=>Value.string ⟨s.toArray⟩)[j]? = some (.string x):=by
     rw[List.getElem?_map] at hx ⊢
     cases hy:l[j]? with
     | none=>rw[hy] at hx;simp at hx
     | some y=>rw[hy] at hx;simp only[Option.map_some,Option.some.injEq] at hx ⊢;rw[hx]
    rw[←hvals] at e1
    have hjl:j<(dX l).length:=by
     rcases Nat.lt_or_ge j (dX l).length with g | g
     ·exact g
     ·rw[List.getElem?_eq_none (by rw[List.length_take];omega)] at e1;simp at e1
    rw[List.getElem?_take_of_lt hjl,List.getElem?_drop] at e1
    have hcl:ao+j<cs.length:=by omega
    rw[←f2,List.getElem?_take_of_lt hcl] at e1
    simp only[World.cell?,f1,Option.isSome_none,Bool.false_eq_true,if_false]
    rw[←Array.getElem?_toList]
    exact e1
  ·have hl:l.length=0:=k5
   obtain rfl:=List.length_eq_zero_iff.1 hl
   exact ⟨_,.string ⟨#[]⟩,hq _ ⟨rfl⟩,by simp[VR,iI,Lib.join],(Tryz.strings_Join_none oa cap ⟨sep.toArray⟩ w).mono fun e w' h=>⟨h.1,h.2▸Below.refl _ _⟩⟩
 ·exact hc.elim

def aOc:List AV→Option (List (List UInt8))
 | []=>some []
 | .str s::l=>(match aOc l with
  | some r=>some (s::r)
  | none=>none)
 | _=>none
theorem zK:∀ (l:List AV) (r:List (List UInt8)),aOc l=some r→l=dX r
 | [],r,h=>by cases h;rfl
 | v::l,r,h=>by
  cases v<;>simp[aOc] at h
  rename_i s
  split at h
  ·rename_i r' hr
   cases h
   rw[dX,zK l r' hr]
  ·cases h
def aR1 (l:List (List UInt8)) (sep:List UInt8) (H:List Blk):Option (Out×List Blk):=bif Nat.ble l.length 1000&&Nat.ble (iI l sep).length 1000000 then some (.ret (.str (iI l sep)),H) else none
def aGu:Con:=fun args H Q=>mZ [1] H args fun a=>aLu a H Q
theorem qR:aG Tryz.prog gl0 129 aGu:=dM aPq aQ [1] fun args H Q hc=>by
 unfold aLu at hc
 split at hc
 ·obtain ⟨l,h,hq⟩:=hc
  exact ⟨l,h,fun x hx=>⟨rfl,⟨_,rfl,rfl⟩,hq x hx⟩⟩
 ·exact hc.elim
theorem qH {x:Int} {K:Int→Prop} (h:K (x%256)):∃n:Int,AV.int .u8 (IntKind.wrap .u8 x)=AV.int .u8 n∧K n:=by
 have e:IntKind.wrap .u8 x=x%256:=by
  simp only[IntKind.wrap,IntKind.bits,IntKind.signed,Bool.false_and]
  have e2:(2:Int)^8=256:=rfl
  rw[e2]
  rfl
 exact ⟨_,congrArg _ e,h⟩
theorem gJ (n:Int) (i:Nat):toB (.int .u8 (Int.fdiv n (256^i)%256))=Md.octM n i:=by
 have h0:(0:Int)≤256^i:=Int.pow_nonneg (by decide)
 rw[Int.fdiv_eq_ediv_of_nonneg _ h0]
 rfl
theorem bIq (n:Int) (Q:Out→List Blk→Gh→Prop) (hq:Q (.ret (.str (Md.beM n 4))) [] {}):∃hv hb,zO hv hb n Q:=by
 obtain ⟨hv,hb',e⟩:∃hv hb,zO hv hb n Q=_:=⟨_,_,bGo n Q⟩
 refine ⟨hv,hb',e.mpr ?_⟩
 clear e
 refine ⟨_,rfl,qH ⟨_,rfl,qH ⟨_,rfl,qH ⟨_,rfl,qH ⟨_,rfl, ?_⟩⟩⟩⟩⟩
 have e:[toB (.int .u8 (Int.fdiv n 16777216%256)),toB (.int .u8 (Int.fdiv n 65536%256)),toB (.int .u8 (Int.fdiv n 256%256)),toB (.int .u8 (Int.fdiv n 1%256))]=Md.beM n 4:=by
  rw[←show ((256:Int)^3=16777216) by decide,←show ((256:Int)^2=65536) by decide]
  rw[gJ n 3,gJ n 2,show toB (.int .u8 (Int.fdiv n 256%256))=Md.octM n 1 from gJ n 1,show toB (.int .u8 (Int.fdiv n 1%256))=Md.octM n 0 from gJ n 0]
  rfl
 rw[e]
 exact hq
theorem bEj (n:Int) (Q:Out→List Blk→Gh→Prop) (hq:Q (.ret (.str (Md.beM n 8))) [] {}):∃hv hb,zT hv hb n Q:=by
 obtain ⟨hv,hb',e⟩:∃hv hb,zT hv hb n Q=_:=⟨_,_,bH0 n Q⟩
 refine ⟨hv,hb',e.mpr ?_⟩
 clear e
 refine ⟨_,rfl,qH ⟨_,rfl,qH ⟨_,rfl,qH ⟨_,rfl,qH ⟨_,rfl,qH ⟨_,rfl,qH ⟨_,rfl,qH ⟨_,rfl,qH ⟨_,rfl, ?_⟩⟩⟩⟩⟩⟩⟩⟩⟩
 refine cast (congrArg (fun l=>Q (.ret (.str l)) [] {}) ?_) hq
 rw[show Md.beM n 8=[Md.octM n 7,Md.octM n 6,Md.octM n 5,Md.octM n 4,Md.octM n 3,Md.octM n 2,Md.octM n 1,Md.octM n 0] from rfl]
 rw[←gJ n 7,←gJ n 6,←gJ n 5,←gJ n 4,←gJ n 3,←gJ n 2,←gJ n 1,←gJ n 0]
 rfl
def aYk:Con
 | [.int .i64 n,.int .i64 k],H,K=>Lf (k=4∨k=8)∧∀s:List UInt8,Lf (s=Md.beM n k.toNat)→K (.ret (.str s)) H
 | _,_,_=>False
theorem bBr:aG Tryz.prog gl0 93 aYk:=by
 refine aT (enters_of (by kernel_rfl)) aQ fun args H Q hc => ?_
 unfold aYk at hc
 split at hc
 ·rename_i n k
  obtain ⟨⟨hk⟩,hq⟩:=hc
  rcases hk with rfl | rfl
  ·obtain ⟨hv,hb',h⟩:=bIq n (fun o H' _=>H'=[]∧(∃v,o=.ret v∧old 0 v=true∧noY v=true)∧Q o H) ⟨rfl,⟨_,rfl,rfl,rfl⟩,hq _ ⟨rfl⟩⟩
   exact ⟨rfl,rfl,_,1000,aY cB (fun _=>none) hv hb',rfl,h⟩
  ·obtain ⟨hv,hb',h⟩:=bEj n (fun o H' _=>H'=[]∧(∃v,o=.ret v∧old 0 v=true∧noY v=true)∧Q o H) ⟨rfl,⟨_,rfl,rfl,rfl⟩,hq _ ⟨rfl⟩⟩
   exact ⟨rfl,rfl,_,1000,aY cB (fun _=>none) hv hb',rfl,h⟩
 ·exact hc.elim
def aAd (x sa:List UInt8) (i:Nat):List UInt8:=(List.zipWith (fun a b=>a ^^^ b) x sa).take i++x.drop i
def bOv:SM:=eY [(93,aYk),(129,aGu)]
theorem aYf:∀f g,bOv f=some g→aG Tryz.prog gl0 f g:=bK _ (by simp only[List.mem_cons,List.not_mem_nil,or_false,forall_eq_or_imp,forall_eq];exact ⟨bBr,qR⟩)
def bEt (sa:List UInt8) (z:S):List (List LInv):=match z.hp with
 | [c,d,⟨_,_,bs⟩]=>[[{ α:=List UInt8×Nat,pre:=fun p=>Lf (bs=ofBytes p.1∧p.1.length=12∧p.2≤12),st:=fun p=>⟨mkT [(0,.ptr 0 9 0),(7,.sl 2 p.1.length 0 p.1.length 1),(17,.int .i64 (p.1.length:Nat)),(18,.int .i64 (p.2:Nat))],[c,d,⟨.grow,true,ofBytes (aAd p.1 sa p.2)⟩]⟩,mu:=fun p=>12-p.2 }]]
 | _=>[]
noncomputable def aVs (hv:Nat→Option Pa) (hb:Nat→Option Bool) (sa:List UInt8):Env := { e04 bOv (fun i=>bif Nat.beq i 67000 then some (bEt sa) else none) hv hb with hz:=fun k=>Nat.beq k 274445 }
noncomputable def aFv (hv:Nat→Option Pa) (hb:Nat→Option Bool) (k sa mk:List UInt8) (hl:List AV) (hn:Nat) (x:AV) (nx rs rt rk:Int) (ds:List AV) (ss ix:Int) (Q:Out→List Blk→Gh→Prop):Prop:=
 bC (aVs hv hb sa) (wpx (aVs hv hb sa) 1000) 67 [.ptr 0 9 0,.int .i64 ss,.int .i64 ix] [⟨.ro,false,vJ k sa mk hl hn x nx rs rt rk⟩,⟨.ro,false,ds⟩] {} Q
abbrev bJi (x_3:List UInt8) (x_5:List UInt8×Nat):Prop:=Lf (ofBytes x_3=ofBytes x_5.1∧x_5.1.length=12∧x_5.2≤12)
abbrev bB7 (x_5:List UInt8×Nat) (sa:List UInt8):List AV:=ofBytes (aAd x_5.1 sa x_5.2)
abbrev bDm (x_5:List UInt8×Nat) (sa:List UInt8):Bool:=Nat.beq (ofBytes (aAd x_5.1 sa x_5.2)).length x_5.1.length
theorem bLb (k:List UInt8) (sa:List UInt8) (mk:List UInt8) (hl:List AV) (hn:Nat) (x:AV) (nx:Int) (rs:Int) (rt:Int) (rk:Int) (ds:List AV) (ss:Int) (ix:Int) (Q:Out→List Blk→Gh→Prop):aFv (bH
 [(274449,.int .i64),(274452,.int .i64),(274456,.int .u8),(274464,.int .u8),(274465,.int .u8),(274467,.int .i64),(274469,.str)]) (bI [(344062,true),(1274432000,true),(278526,true)]) k sa mk hl hn x nx rs rt rk ds ss ix
 Q=(Lf ((4:Int)=(4:Int)∨(4:Int)=(8:Int))∧∀s_0:List UInt8,Lf (s_0=Md.beM ss (Int.toNat 4))→Lf ((8:Int)=(4:Int)∨(8:Int)=(8:Int))∧∀s_1:List UInt8,Lf (s_1=Md.beM ix (Int.toNat 8))→∃l_2:List
 (List UInt8),Lf ([AV.str s_0,.str s_1]=dX l_2∧2=l_2.length∧l_2.length≤1000∧(iI l_2 []).length≤1000000)∧∀x_3:List UInt8,Lf (x_3=iI l_2 [])→(aR 2 [.str k,.str sa,.str mk,.lst 0 hl hn 1,x,.int .i64
 nx,.int .i64 rs,.int .i64 rt,.int .u64 rk]&&(aR 2 ds&&true))=true∧ckQ (Nat.beq (ofBytes x_3).length x_3.length) (exI .i64 (x_3.length:Int) (fun n_4=>(∃x_5:List UInt8×Nat,bJi x_3 x_5∧aN [AV.str k,.str sa,.str
 mk,.lst 0 hl hn 1,x,.int .i64 nx,.int .i64 rs,.int .i64 rt,.int .u64 rk]∧ds=ds∧ckQ (aR 0 (ofBytes x_3)==true) (ofBytes x_3=bB7 x_5 sa∧aN (AV.ptr 0 9 0)∧AV.sl 2 x_3.length 0 x_3.length 1=AV.sl 2 x_5.1.length 0
 x_5.1.length 1∧AV.int .i64 n_4=AV.int .i64 (x_5.1.length:Int)∧AV.int .i64 0=AV.int .i64 (x_5.2:Int)∧True))∧∀x_5:List UInt8×Nat,bJi x_3 x_5→bif decide ((x_5.2:Int)<(x_5.1.length:Int)) then exI .i64 (x_5.2 :
 Int) (fun n_6=>ckQ (decide (0≤n_6)&&Nat.blt n_6.toNat x_5.1.length&&bDm x_5 sa&&true) (ckQ (bDm x_5 sa&&Nat.blt (0+n_6.toNat*1) x_5.1.length) (exV .u8 ((((bB7 x_5 sa).drop (0+n_6.toNat*1)).take 1).getD 0 AV.undef)
 (fun n_7=>ckQ (decide (0≤n_6)&&Nat.blt n_6.toNat sa.length) (exI .u8 (UInt8.toNat (sa.getD n_6.toNat (UInt8.ofNat 0)):Int) (fun n_8=>exW .u8 (((n_7%256).toNat ^^^ (n_8%256).toNat:Nat):Int) (fun n_9=>ckQ (decide (0 ≤
 n_6)&&Nat.blt n_6.toNat x_5.1.length&&bDm x_5 sa&&true) (ckQ (bDm x_5 sa&&Nat.ble (0+n_6.toNat*1+1) x_5.1.length&&true&&true&&true) (exW .i64 ((x_5.2:Int)+1) (fun n_10=>(aR 3 [.str k,.str sa,.str mk,.lst 0
 hl hn 1,x,.int .i64 nx,.int .i64 rs,.int .i64 rt,.int .u64 rk]&&(aR 3 ds&&true))=true∧(True∧(0:Nat)=(0:Nat))∧∃y_11:List UInt8×Nat,bJi x_3 y_11∧12-y_11.2<12-x_5.2∧aN [AV.str k,.str sa,.str mk,
 .lst 0 hl hn 1,x,.int .i64 nx,.int .i64 rs,.int .i64 rt,.int .u64 rk]∧ds=ds∧aM (bB7 x_5 sa) (0+n_6.toNat*1) [.int .u8 n_9]=bB7 y_11 sa∧aN (AV.ptr 0 9 0)∧AV.sl 2 x_5.1.length 0 x_5.1.length 1=AV.sl 2
 y_11.1.length 0 y_11.1.length 1∧AV.int .i64 (x_5.1.length:Int)=AV.int .i64 (y_11.1.length:Int)∧AV.int .i64 n_10=AV.int .i64 (y_11.2:Int)∧True)))))))))) else ckQ (bDm x_5 sa&&Nat.ble (0+x_5.1.length) x_5.1.length &&
 true&&gH (((bB7 x_5 sa).drop 0).take x_5.1.length)) (exS (.str (List.map toB (((bB7 x_5 sa).drop 0).take x_5.1.length))) (fun s_6=>(aR 2 [.str k,.str sa,.str mk,.lst 0 hl hn 1,x,.int .i64 nx,.int .i64 rs,.int .i64 rt,
 .int .u64 rk]&&(aR 2 ds&&true))=true∧Q (.ret (.str s_6)) [Blk.mk BK.ro false (vJ k sa mk hl hn x nx rs rt rk),Blk.mk BK.ro false ds] {}))))):=by kernel_rfl

def bLm:SM:=eY [(35,Md.cDecode),(129,aGu)]
theorem aZp:∀f g,bLm f=some g→aG Tryz.prog gl0 f g:=bK _ (by simp only[List.mem_cons,List.not_mem_nil,or_false,forall_eq_or_imp,forall_eq];exact ⟨Md.decode_ok,qR⟩)
noncomputable def aEm (hv:Nat→Option Pa) (hb:Nat→Option Bool) (s:List UInt8) (Q:Out→List Blk→Gh→Prop):Prop:=
 bC (e04 bLm (fun _=>none) hv hb) (wpx (e04 bLm (fun _=>none) hv hb) 1000) 80 [.str s] [] {} Q
abbrev aP2:AV:=.int .i64 0
abbrev bJ7:AV:=.agg [.bool false,aP2,aP2,aP2,aP2,.nils,.nils,aP2,.str []]
abbrev bK0:Out:=.ret (.tup [bJ7,aP2,.int .i64 7])
abbrev bHw (s:List UInt8):Int:=(UInt8.toNat (s.getD 0 (UInt8.ofNat 0)):Int)
def uB (s:List UInt8) (n_20:Int) (n_19:Int) (Q:Out→List Blk→Gh→Prop):Prop:=
AV.int .i64 (s.length:Int)=AV.int .i64 n_20∧exW .i64 (n_19+16) (fun n_21=>bif decide (n_20<n_21) then Q bK0 [] {} else ckQ (Nat.blt 0 s.length) (exI .u8 (bHw s) (fun n_22=>exW .u8 (((n_22%256).toNat &&& 223:Nat):Int) (fun n_23=>exS (.str [toB (.int .u8 n_23)]) (fun s_24=>ckQ (decide (0≤n_19)&&Nat.ble 1 n_19.toNat&&Nat.ble n_19.toNat s.length) (exS (.str ((s.drop 1).take (n_19.toNat-1))) (fun s_25=>∃l_26:List (List UInt8),Lf ([AV.str s_24,.str s_25]=dX l_26∧2=l_26.length∧l_26.length≤1000∧(iI l_26 []).length≤1000000)∧∀x_27:List UInt8,Lf (x_27=iI l_26 [])→ckQ (Nat.ble x_27.length 9223372036854775807) (∀mk_28:Bool,∀ty_29 sq_30 ti_31 ss_32:Int,∀cs_33:List Int,∀ex_34:List Md.Xt,∀p_35:Int,∀y_36:List UInt8,∀e_37:Int,Lf (Md.decM x_27=Prod.mk mk_28 (Prod.mk ty_29 (Prod.mk sq_30 (Prod.mk ti_31 (Prod.mk ss_32 (Prod.mk cs_33 (Prod.mk ex_34 (Prod.mk p_35 (Prod.mk y_36 e_37)))))))))→bif e_37 !=0 then Q (.ret (.tup [bJ7,aP2,.int .i64 5])) [] {} else Q (.ret (.tup [.agg [.bool mk_28,.int .i64 ty_29,.int .i64 sq_30,.int .i64 ti_31,.int .i64 ss_32,.lst 0 (aC cs_33) cs_33.length 1,.lst 0 (Md.cellsXM ex_34) ex_34.length 2,.int .i64 p_35,.str y_36],.int .i64 n_19,aP2])) [] {}))))))))
theorem bNq (s:List UInt8) (Q:Out→List Blk→Gh→Prop):aEm (bH [(327686,.int .i64),(327690,.int .u8),(327691,.int .u8),(327692,.int .i64),(327693,.int .i64),(327694,.int .i64),(327696,.int .u8),(327697,.int
 .u8),(327700,.int .i64),(327702,.int .i64),(327708,.int .i64),(327709,.int .u8),(327710,.int .i64),(327711,.int .i64),(327714,.int .i64),(327715,.int .u8),(327716,.int .i64),(327717,.int .i64),(327718,.int .i64),
 (327719,.int .i64),(327721,.int .i64),(327723,.int .i64),(327728,.int .u8),(327729,.int .u8),(327731,.str),(327734,.str)]) (bI []) s Q=(exI .i64 (s.length:Int) (fun n_0=>bif decide (n_0<12) then Q bK0 [] {}
 else ckQ (Nat.blt 0 s.length) (exI .u8 (bHw s) (fun n_1=>exW .u8 (((n_1%256).toNat &&& 15:Nat):Int) (fun n_2=>exW .i64 n_2 (fun n_3=>exW .i64 (4*n_3) (fun n_4=>exW .i64 (12+n_4) (fun
 n_5=>ckQ (Nat.blt 0 s.length) (exI .u8 (bHw s) (fun n_6=>exW .u8 (((n_6%256).toNat &&& 16:Nat):Int) (fun n_7=>bif n_7 !=0 then exW .i64 (n_5+4) (fun n_8=>exI .i64 (s.length:Int) (fun n_9=>
 bif decide (n_9≥n_8) then exW .i64 (n_8-2) (fun n_10=>ckQ (decide (0≤n_10)&&Nat.blt n_10.toNat s.length) (exI .u8 (UInt8.toNat (s.getD n_10.toNat (UInt8.ofNat 0)):Int) (fun n_11=>exW .i64 n_11 (fun n_12
 => exW .i64 (n_12*256) (fun n_13=>exW .i64 (n_8-1) (fun n_14=>ckQ (decide (0≤n_14)&&Nat.blt n_14.toNat s.length) (exI .u8 (UInt8.toNat (s.getD n_14.toNat (UInt8.ofNat 0)):Int) (fun n_15=>exW .i64
 n_15 (fun n_16=>exW .i64 (((n_13%18446744073709551616).toNat ||| (n_16%18446744073709551616).toNat:Nat):Int) (fun n_17=>exW .i64 (4*n_17) (fun n_18=>exW .i64 (n_8+n_18) (fun n_19=>∃n_20:Int,
 uB s n_20 n_19 Q)))))))))))) else ∃n_10:Int,uB s n_10 n_8 Q)) else ∃n_8:Int,uB s n_8 n_5 Q))))))))))):=by kernel_rfl

theorem aQn (a b:List UInt8):iI [a,b] []=a++b:=by simp[iI,Lib.join]
theorem bAo (l:List UInt8):(ofBytes l).map toB=l:=by
 simp only[ofBytes,List.map_map]
 conv=>rhs;rw[←List.map_id l]
 congr 1
 funext x
 simp[toB]
theorem aS0 {a b:List UInt8} (h:ofBytes a=ofBytes b):a=b:=by rw[←bAo a,h,bAo]
theorem bL4 {s:List UInt8} {i j:Nat} (hi:i<s.length) (hj:j=i) {K:Int→Prop} (hk:K ((s.getD i 0).toNat:Int)):∃n:Int,(((ofBytes s).drop j).take 1).getD 0 AV.undef=AV.int .u8 n∧K n:=by
 subst hj
 refine ⟨_, ?_,hk⟩
 rw[List.getD_eq_getElem?_getD,List.getElem?_take,if_pos (by omega),List.getElem?_drop,Nat.add_zero]
 simp[ofBytes,hi]
theorem aZe (x sa:List UInt8) (i:Nat) (hx:x.length=12) (hs:sa.length=12):(aAd x sa i).length=12:=by
 rw[aAd,List.length_append,List.length_take,List.length_zipWith,List.length_drop];omega
theorem bBw (x sa:List UInt8) (i:Nat) (hx:x.length=12) (hs:sa.length=12) (hi:i<12):(aAd x sa i).getD i 0=x.getD i 0:=by
 rw[aAd,List.getD_eq_getElem?_getD,List.getElem?_append_right (by rw[List.length_take,List.length_zipWith];omega),List.length_take,List.length_zipWith,List.getElem?_drop,List.getD_eq_getElem?_getD]
 congr 2
 omega
theorem aUp (x sa:List UInt8) (i:Nat) (hx:x.length=12) (hs:sa.length=12) (hi:i<12):(aAd x sa i).set i (x.getD i 0 ^^^ sa.getD i 0)=aAd x sa (i+1):=by
 have h1:i<x.length:=by omega
 have h2:i<sa.length:=by omega
 have h3:i<(List.zipWith (fun a b=>a ^^^ b) x sa).length:=by rw[List.length_zipWith];omega
 have e1:x.getD i 0=x[i]:=by rw[List.getD_eq_getElem?_getD,List.getElem?_eq_getElem h1];rfl
 have e2:sa.getD i 0=sa[i]:=by rw[List.getD_eq_getElem?_getD,List.getElem?_eq_getElem h2];rfl
 rw[aAd,aAd,List.set_append_right _ _ (by rw[List.length_take];omega),List.length_take,Nat.min_eq_left (by omega),Nat.sub_self,List.drop_eq_getElem_cons h1,List.set_cons_zero,List.take_succ_eq_append_getElem h3,List.append_assoc,List.getElem_zipWith,e1,e2]
 rfl
theorem aPm (k sa mk:List UInt8) (hl:List AV) (hn:Nat) (x:AV) (nx rs rt rk:Int) (ds:List AV) (ss ix:Int) (hs:sa.length=12) (hx:old 2 x=true) (hd:aR 0 ds=true) (Q:Out→List Blk→Gh→Prop) (hq:Q (.ret (.str (dN sa ss ix))) [⟨.ro,false,vJ k sa mk hl hn x nx rs rt rk⟩,⟨.ro,false,ds⟩] {}) :
  ∃hv hb,aFv hv hb k sa mk hl hn x nx rs rt rk ds ss ix Q:=by
 obtain ⟨hv,hb',e⟩:∃hv hb,aFv hv hb k sa mk hl hn x nx rs rt rk ds ss ix Q=_:=⟨_,_,bLb k sa mk hl hn x nx rs rt rk ds ss ix Q⟩
 refine ⟨hv,hb',e.mpr ?_⟩
 delta bJi bB7 bDm
 clear e
 have hox:aR 2 [x]=true:=by rw[aR,hx];rfl
 have ho:∀n,2≤n→(aR n [.str k,.str sa,.str mk,.lst 0 hl hn 1,x,.int .i64 nx,.int .i64 rs,.int .i64 rt,.int .u64 rk]&&(aR n ds&&true))=true:=fun n h=>by
  have h1:=bT h _ hox
  have h2:=bT (Nat.zero_le n) _ hd
  simp only[aR,Bool.and_true] at h1
  simp[aR,old,h1,h2]
 refine ⟨⟨.inl rfl⟩, ?_⟩
 rintro s0 ⟨rfl⟩
 refine ⟨⟨.inr rfl⟩, ?_⟩
 rintro s1 ⟨rfl⟩
 have h4:(Md.beM ss 4).length=4:=Md.be_len _ _
 have h8:(Md.beM ix 8).length=8:=Md.be_len _ _
 refine ⟨[Md.beM ss 4,Md.beM ix 8],⟨rfl,rfl,by simp,by rw[aQn,List.length_append];omega⟩, ?_⟩
 rw[aQn]
 rintro y ⟨hy⟩
 have hyl:y.length=12:=by rw[hy,List.length_append,h4,h8]
 have hnon:dN sa ss ix=List.zipWith (fun a b=>a ^^^ b) y sa:=by rw[hy];rfl
 refine ⟨ho 2 (by omega),ckI (by simp[ofBytes]) ⟨_,rfl,⟨(y,0),⟨rfl,hyl,Nat.zero_le _⟩,rfl,rfl,ckI (by rw[(aK y)];rfl) ⟨by simp[aAd],rfl,rfl,rfl,rfl,trivial⟩⟩, ?_⟩⟩
 rintro ⟨z,i⟩ ⟨hz,hz2,hi⟩
 obtain rfl:=aS0 hz
 dsimp only at hz2 hi ⊢
 have hL:=aZe y sa i hyl hs
 refine aF (fun h=>⟨_,rfl, ?_⟩) (fun h => ?_)
 ·have hi2:i<12:=by omega
  refine ckI (by simp[ofBytes,hL];omega) (ckI (by simp[ofBytes,hL];omega) (bL4 (i:=i) (by omega) (by simp) (ckI (by simp;omega) ⟨_,rfl, ?_⟩)))
  have e8:=bOn ((aAd y sa i).getD i 0) ((sa.getD i 0).toNat)
  have h256:=((aAd y sa i).getD i 0).toNat_lt
  refine ⟨_,congrArg (AV.int .u8) e8,ckI (by simp[ofBytes,hL];omega) (ckI (by simp[ofBytes,hL];omega) (aI (by omega) (by omega) ⟨ho 3 (by omega),⟨trivial,rfl⟩,(y,i+1),⟨rfl,hyl,by dsimp only;omega⟩,by dsimp only;omega,rfl,rfl, ?_,rfl,rfl,rfl,rfl,trivial⟩))⟩
  rw[stB (j:=i) (by omega) (by simp)]
  congr 1
  rw[←aUp y sa i hyl hs hi2,bBw y sa i hyl hs hi2]
  congr 1
  rw[x8M,UInt8.ofNat_toNat]
 ·obtain rfl:i=12:=by omega
  have e:aAd y sa 12=dN sa ss ix:=by
   rw[hnon,aAd,List.take_of_length_le (by rw[List.length_zipWith];omega),List.drop_eq_nil_of_le (by omega),List.append_nil]
  have ht:((ofBytes (aAd y sa 12)).drop 0).take y.length=ofBytes (aAd y sa 12):=by rw[List.drop_zero];exact List.take_of_length_le (by simp[ofBytes,hL];omega)
  rw[ht,bAo]
  refine ckI (by rw[kG];simp[ofBytes,hL];omega) ⟨_,rfl,ho 2 (by omega), ?_⟩
  rw[e]
  exact hq
def aAk (rest:List AV) (k sa mk:List UInt8) (hl:List AV) (hn:Nat) (K:AV→Prop):Prop:=match rest with
 | [.int .i64 ss,.int .i64 ix]=>Lf (sa.length=12)∧∀s:List UInt8,Lf (s=dN sa ss ix)→K (.str s)
 | _=>False
theorem xL:aG Tryz.prog gl0 67 (cbC aAk):=by
 refine aGs (enters_of (by kernel_rfl)) aQ 9 (fun v=>v) iF fun rest k sa mk hl hn x nx rs rt rk ds R _ _ hx hd _ hg => ?_
 unfold aAk at hg
 split at hg
 ·rename_i ss ix _ _
  obtain ⟨⟨h1⟩,hq⟩:=hg
  obtain ⟨hv,hb',h⟩:=aPm k sa mk hl hn x nx rs rt rk ds ss ix h1 hx hd (fun o H' _=>∃v,o=.ret v∧R (dG 0 H' 9 v)) ⟨_,rfl,hq _ ⟨rfl⟩⟩
  exact ⟨_,1000,⟨mH,mQ,cZ,aYf⟩,rfl,h⟩
 ·exact hg.elim
noncomputable def tQ (hv:Nat→Option Pa) (hb:Nat→Option Bool) (t:Nat) (Q:Out→List Blk→Gh→Prop):Prop:=
 bC (e04 sm0 (fun _=>none) hv hb) (wpx (e04 sm0 (fun _=>none) hv hb) 1000) 115 [.lst t [] 0 2] [] {} Q
theorem aY9 (t:Nat) (Q:Out→List Blk→Gh→Prop):tQ (bH []) (bI []) t Q=(
((Q (Out.ret (AV.sl (0:Nat) (0:Nat) (0:Nat) (0:Nat) (2:Nat))) ((Blk.mk BK.exact true [])::[]) (Gh.mk (0:Nat) (0:Nat) [])) ∧
 (Q (Out.ret AV.nils) [] (Gh.mk (0:Nat) (0:Nat) [])))):=by kernel_rfl

noncomputable def rX (hv:Nat→Option Pa) (hb:Nat→Option Bool) (t:Nat) (x:Md.Xt) (ex:List Md.Xt) (Q:Out→List Blk→Gh→Prop):Prop:=
 bC (e04 sm0 (fun _=>none) hv hb) (wpx (e04 sm0 (fun _=>none) hv hb) 1000) 115 [.lst t (Md.cellsXM (x::ex)) (ex.length+1) 2] [] {} Q
theorem aY4 (t:Nat) (x:Md.Xt) (ex:List Md.Xt) (Q:Out→List Blk→Gh→Prop):rX (bH []) (bI []) t x ex Q=(
((bif ((((Nat.beq (List.length (Md.cellsXM (x::ex))) (((List.length ex)+(1:Nat))*(2:Nat)))&&(fJ (Md.cellsXM (x::ex))))&&true)&&(Nat.ble (((List.length ex)+(1:Nat))*(24:Nat)) (1099511627776:Nat))) then (bif ((Nat.ble ((0:Nat)+((List.length ex)+(1:Nat))) (1099511627776:Nat))&&(Nat.ble (((0:Nat)+((List.length ex)+(1:Nat)))*(24:Nat)) (1099511627776:Nat))) then (Q (Out.ret (AV.sl (1:Nat) ((0:Nat)+(List.length (Md.cellsXM (x::ex)))) (0:Nat) ((0:Nat)+((List.length ex)+(1:Nat))) (2:Nat))) ((Blk.mk BK.exact true [])::((Blk.mk BK.grow (aR (0:Nat) ([]++(Md.cellsXM (x::ex)))) ([]++(Md.cellsXM (x::ex))))::[])) (Gh.mk (0:Nat) (0:Nat) []))
else False)
else False) ∧
 True)):=by kernel_rfl

theorem aM9 {P:Program} {gl:Nat→Option (List AV)} {f:FuncId} {c c1 c2:List AV→List Blk→(Out→List Blk→Prop)→Prop} (h1:aG P gl f c1) (h2:aG P gl f c2) (h:∀args H Q,c args H Q→c1 args H Q∨c2 args H Q):aG P gl f c:=
 ⟨h1.1,fun args H Q hc=>(h args H Q hc).elim (h1.2 args H Q) (h2.2 args H Q)⟩
theorem aIh {P:Program} {gl:Nat→Option (List AV)} {f:FuncId} {c:List AV→List Blk→(Out→List Blk→Prop)→Prop} (he:Enters P f) (hgl:∀g cs,gl g=some cs→bS cs=true)
  (h:∀args H Q,c args H Q→aR 0 args=true∧bS args=true∧∃ (E:Env) (n:Nat),EnvFor P E∧E.gl=gl ∧
   bC E (wpx E n) f args [] {} fun o H' _=>(∀b∈H',b.k≠.ro∧aR 0 b.cs=true∧bS b.cs=true)∧Q (bHs (sig id 0 H.length) o) (H++H')):aG P gl f c:=by
 refine jS he hgl fun args H Q hc => ?_
 obtain ⟨h1,h2,E,n,hE,hg,h5⟩:=h args H Q hc
 refine ⟨E,n,id,args,[],_,hE,hg,(bL id args h1 h2).symm,h1,h2,Fr.nil H,h5, ?_⟩
 rintro o H0' g' ⟨q1,q2⟩
 refine ⟨H++H0',⟨Nat.zero_le _, ?_, ?_, ?_,by simp, ?_, ?_⟩,q2⟩
 ·intro j b0 hj;simp at hj
 ·intro j b0 hj;simp at hj
 ·intro j b0 _ hk
  exact (q1 b0 (List.mem_of_getElem? hk)).1
 ·intro id' hid _
  rw[List.getElem?_append_left hid]
 ·intro j b hj _
  obtain ⟨_,c1,c2⟩:=q1 b (List.mem_of_getElem? hj)
  simp only[sig,aL8,bL _ b.cs c1 c2,List.length_nil]
  rw[if_neg (by omega),List.getElem?_append_right (by omega)]
  simpa using hj
theorem flX:∀ex:List Md.Xt,aR 0 (Md.cellsXM ex)=true∧bS (Md.cellsXM ex)=true
 | []=>⟨rfl,rfl⟩
 | x::l=>by
  have:=flX l
  exact ⟨by simpa [Md.cellsXM,aR,old] using this.1,by simpa [Md.cellsXM,bS,noY] using this.2⟩
theorem jV:∀ex:List Md.Xt,(Md.cellsXM ex).length=2*ex.length
 | []=>rfl
 | x::l=>by
  have:=jV l
  simp only[Md.cellsXM,List.length_cons] at this ⊢
  omega
theorem bOq:∀ex:List Md.Xt,fJ (Md.cellsXM ex)=true
 | []=>rfl
 | x::l=>by
  have:=bOq l
  show (true&&(true&&fJ (Md.cellsXM l)))=true
  rw[this];rfl
def bEh:Con
 | [.lst _ [] 0 2],H,K=>K (.ret (.lst 0 [] 0 2)) H
 | _,_,_=>False
theorem bAd:aG Tryz.prog gl0 115 bEh:=by
 refine iG (enters_of (by kernel_rfl)) aQ 9 (nlR [2]) (aVf _) fun args H Q hc => ?_
 unfold bEh at hc
 split at hc
 ·rename_i t
  have run:∀Q:Out→List Blk→Gh→Prop,Q (.ret (.sl 0 0 0 0 2)) [⟨.exact,true,[]⟩] {}→Q (.ret .nils) [] {}→∃hv hb,tQ hv hb t Q:=fun Q h1 h2=>by
   obtain ⟨hv,hb',e⟩:∃hv hb,tQ hv hb t Q=_:=⟨_,_,aY9 t Q⟩
   exact ⟨hv,hb',e.mpr ⟨h1,h2⟩⟩
  obtain ⟨hv,hb',h⟩:=run (fun o H' _=>∃v,o=.ret v∧Q (.ret (nlR [2] (dG 0 H' 9 v))) H) ⟨_,rfl,hc⟩ ⟨_,rfl,hc⟩
  exact ⟨rfl,rfl,_,1000,aY cB (fun _=>none) hv hb',rfl,h⟩
 ·exact hc.elim
def bE6:Con
 | [.lst _ c n 2],H,K=>∃ (x:Md.Xt) (ex:List Md.Xt),Lf (c=Md.cellsXM (x::ex)∧n=ex.length+1∧ex.length≤1000000)∧K (.ret (.sl (H.length+1) (2*(x::ex).length) 0 (x::ex).length 2)) (H++[⟨.exact,true,[]⟩,⟨.grow,true,Md.cellsXM (x::ex)⟩])
 | _,_,_=>False
theorem bCh:aG Tryz.prog gl0 115 bE6:=by
 refine aIh (enters_of (by kernel_rfl)) aQ fun args H Q hc => ?_
 unfold bE6 at hc
 split at hc
 ·rename_i t c n
  obtain ⟨x,ex,⟨rfl,rfl,hl⟩,hq⟩:=hc
  have hlen:=jV (x::ex)
  rw[List.length_cons] at hlen
  have hfl:=flX (x::ex)
  have run:∀Q:Out→List Blk→Gh→Prop,Q (.ret (.sl 1 (2*(ex.length+1)) 0 (ex.length+1) 2)) [⟨.exact,true,[]⟩,⟨.grow,true,Md.cellsXM (x::ex)⟩] {}→∃hv hb,rX hv hb t x ex Q:=fun Q h1=>by
   obtain ⟨hv,hb',e⟩:∃hv hb,rX hv hb t x ex Q=_:=⟨_,_,aY4 t x ex Q⟩
   refine ⟨hv,hb',e.mpr ⟨ckI (by rw[bOq];simp[hlen];omega) (ckI (by simp;omega) ?_),trivial⟩⟩
   rw[List.nil_append,hfl.1,hlen,Nat.zero_add,Nat.zero_add]
   exact h1
  obtain ⟨hv,hb',h⟩:=run (fun o H' _=>(∀b∈H',b.k≠.ro∧aR 0 b.cs=true∧bS b.cs=true)∧Q (bHs (sig id 0 H.length) o) (H++H')) ⟨by
   intro b hb
   simp only[List.mem_cons,List.not_mem_nil,or_false] at hb
   rcases hb with rfl | rfl
   ·exact ⟨by simp,rfl,rfl⟩
   ·exact ⟨by simp,hfl⟩,hq⟩
  exact ⟨rfl,rfl,_,1000,aY cB (fun _=>none) hv hb',rfl,h⟩
 ·exact hc.elim
def bM4:Con
 | [.lst t c n 2],H,K=>∃ex:List Md.Xt,Lf (c=Md.cellsXM ex∧n=ex.length∧ex.length≤1000000)∧(Lf (ex=[])→K (.ret (.lst 0 [] 0 2)) H)∧(Lf (1≤ex.length)→K (.ret (.sl (H.length+1) (2*ex.length) 0 ex.length 2)) (H++[⟨.exact,true,[]⟩,⟨.grow,true,Md.cellsXM ex⟩]))
 | _,_,_=>False
theorem bFu:aG Tryz.prog gl0 115 bM4:=aM9 bAd bCh fun args H Q hc=>by
 unfold bM4 at hc
 split at hc
 ·rename_i t c n
  obtain ⟨ex,⟨rfl,rfl,hl⟩,h0,h1⟩:=hc
  cases ex with
  | nil=>exact .inl (h0 ⟨rfl⟩)
  | cons x ex=>exact .inr ⟨x,ex,⟨rfl,rfl,by rw[List.length_cons] at hl;omega⟩,h1 ⟨by simp⟩⟩
 ·exact hc.elim
end Go.Proofs.YtnhechnaemmdiaaGreatDoor

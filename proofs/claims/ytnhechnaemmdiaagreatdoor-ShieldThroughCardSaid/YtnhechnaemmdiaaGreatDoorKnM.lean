/-
  Chapter 25: extensions that are hidden (plain).
-/
import Derived.Test.YtnhechnaemmdiaaGreatDoorK25NA
import Derived.Test.YtnhechnaemmdiaaGreatDoorKnG
import Derived.Test.YtnhechnaemmdiaaGreatDoorKnL
import Derived.Test.YtnhechnaemmdiaaGreatDoorKnA
import Derived.Test.YtnhechnaemmdiaaGreatDoorKnE
set_option linter.unusedSimpArgs false
set_option linter.unusedVariables false
set_option linter.unusedSectionVars false
namespace Go.Proofs.YtnhechnaemmdiaaGreatDoor
open Go.RowKit
set_option maxRecDepth 1000000

def dG (sa:List UInt8) (ss ix:Int):List UInt8:=List.zipWith (fun a b=>a ^^^ b) (Md.beM ss 4++Md.beM ix 8) sa
theorem jS {sa:List UInt8} (h:sa.length=12) (ss ix:Int):(dG sa ss ix).length=12:=by
 rw[dG,bQv,bN8,Md.be_len,Md.be_len,h]
 rfl
def bC (hid:List Int):List Md.Xt→List UInt8
 | []=>[]
 | x::l=>(if aCl x.1 hid=true then x.2 else [])++bC hid l
def bX (hid:List Int):List Md.Xt→List UInt8→List Md.Xt
 | [],_=>[]
 | x::l,d=>if aCl x.1 hid=true then (x.1,d.take x.2.length)::bX hid l (d.drop x.2.length) else x::bX hid l d
def cZ (hid:List Int) (mk sa:List UInt8) (ss ix:Int) (ex:List Md.Xt):List Md.Xt:=bX hid ex (gV mk (dG sa ss ix) 0 (bC hid ex)).1
def mO (ex:List Md.Xt):List (Int×Nat):=ex.map fun x=>(x.1,x.2.length)
theorem zV (hid:List Int):∀a b:List Md.Xt,bC hid (a++b)=bC hid a++bC hid b
 | [],b=>rfl
 | x::a,b=>by rw[bPh,bC,bC,zV hid a b,bOz]
theorem qO (hid:List Int):∀ (ex:List Md.Xt) (d:List UInt8),(bX hid ex d).length=ex.length
 | [],_=>rfl
 | x::l,d=>by rw[bX];split<;>simp[qO hid l]
theorem qJ (hid:List Int):∀ (a b:List Md.Xt) (d:List UInt8),bX hid (a++b) d=bX hid a d++bX hid b (d.drop (bC hid a).length)
 | [],b,d=>by simp[bX,bC]
 | x::a,b,d=>by
  rw[bPh,bX,bX,bC]
  split
  ·rw[qJ hid a b,bPh,bN8,bQx]
  ·rw[qJ hid a b,bPg,bPh]
theorem yA (hid:List Int):∀ (ex:List Md.Xt) (d:List UInt8),(bC hid ex).length≤d.length→mO (bX hid ex d)=mO ex
 | [],_,_=>rfl
 | x::l,d,h=>by
  rw[bC] at h
  rw[bX]
  split at h
  ·rename_i hx
   rw[bN8] at h
   rw[if_pos hx,mO,mO,bO2,bO2]
   have ih:=yA hid l (d.drop x.2.length) (by rw[bO7];omega)
   rw[mO,mO] at ih
   rw[ih]
   simp only[bOu]
   rw[bP1 (by omega)]
  ·rename_i hx
   rw[bPg] at h
   rw[if_neg hx,mO,mO,bO2,bO2]
   have ih:=yA hid l d h
   rw[mO,mO] at ih
   rw[ih]
theorem aE0 (hid:List Int):∀ (ex:List Md.Xt) (d:List UInt8),(bC hid ex).length≤d.length→bC hid (bX hid ex d)=d.take (bC hid ex).length
 | [],_,_=>by simp[bX,bC]
 | x::l,d,h=>by
  rw[bC] at h
  rw[bX]
  split at h
  ·rename_i hx
   rw[bN8] at h
   have ih:=aE0 hid l (d.drop x.2.length) (by rw[bO7];omega)
   rw[if_pos hx,bC,if_pos hx,ih,bC,if_pos hx,bN8]
   rw[List.take_add]
  ·rename_i hx
   rw[bPg] at h
   rw[if_neg hx,bC,if_neg hx,bPg,aE0 hid l d h,bC,if_neg hx,bPg]
theorem yJ (hid:List Int):∀ (ex:List Md.Xt) (d e:List UInt8),(bC hid ex).length≤d.length→bX hid (bX hid ex d) e=bX hid ex e
 | [],_,_,_=>rfl
 | x::l,d,e,h=>by
  rw[bC] at h
  rw[bX]
  split at h
  ·rename_i hx
   rw[bN8] at h
   rw[if_pos hx,bX,if_pos hx,bX,if_pos hx]
   have hl:(d.take x.2.length).length=x.2.length:=by rw[bOu];omega
   dsimp only
   rw[hl,yJ hid l _ _ (by rw[bO7];omega)]
  ·rename_i hx
   rw[bPg] at h
   rw[if_neg hx,bX,if_neg hx,bX,if_neg hx,yJ hid l _ _ h]
theorem xJ (hid:List Int):∀ (ex:List Md.Xt),bX hid ex (bC hid ex)=ex
 | []=>rfl
 | x::l=>by
  rw[bX,bC]
  split
  ·rw[bQ8 rfl,bSt rfl,xJ hid l]
  ·rw[bPg,xJ hid l]
theorem aN2 (hid:List Int) (sh:Bool):∀ex:List Md.Xt,(bC hid ex).length≤(Md.extBM sh ex).length
 | []=>bOt _
 | x::l=>by
  have ih:=aN2 hid sh l
  rw[bC,Md.extBM]
  simp only[bN8]
  split
  ·omega
  ·simp only[bOe];omega
theorem sZ:∀ (s:List UInt8) (l:List Nat),s.length≤l.length→dF (dF s l) l=s
 | [],_,_=>by simp[dF]
 | _::_,[],h=>by simp at h
 | a::s,b::l,h=>by
  have ih:=sZ s l (by simpa using h)
  simp only[dF,List.zipWith_cons_cons] at ih ⊢
  rw[ih,x8M,x8M,UInt8.xor_assoc,UInt8.xor_self,UInt8.xor_zero]
theorem aCo (s:List UInt8) (l:List Nat) (h:s.length≤l.length):(dF s l).length=s.length:=by
 rw[dF,bQv];omega
theorem xN (w:W16):∀ (f:Nat) (c:Int) (s:List UInt8),s.length≤64*f→jF w c f (jF w c f s)=s
 | 0,c,s,h=>by
  have:s=[]:=bO8.1 (by omega)
  rw[this];rfl
 | f+1,c,s,h=>by
  have hb:=rF w c
  by_cases hs:s.length≤64
  ·have e1:jF w c (f+1) s=dF s (aBf w c):=by rw[jF,if_pos hs]
   have l1:=aCo s (aBf w c) (by omega)
   rw[e1,jF,if_pos (by omega),sZ _ _ (by omega)]
  ·have lt:(s.take 64).length=64:=by rw[bOu];omega
   have l1:=aCo (s.take 64) (aBf w c) (by omega)
   have l2:(jF w (c+1) f (s.drop 64)).length=s.length-64:=by rw[kD w f (c+1) _ (by rw[bO7];omega),bO7]
   have e1:jF w c (f+1) s=dF (s.take 64) (aBf w c)++jF w (c+1) f (s.drop 64):=by rw[jF,if_neg hs]
   have e2:(dF (s.take 64) (aBf w c)++jF w (c+1) f (s.drop 64)).take 64=dF (s.take 64) (aBf w c):=bQ8 (by omega)
   have e3:(dF (s.take 64) (aBf w c)++jF w (c+1) f (s.drop 64)).drop 64=jF w (c+1) f (s.drop 64):=bSt (by omega)
   rw[e1,jF,if_neg (by rw[bN8];omega),e2,e3,sZ _ _ (by omega),xN w f _ _ (by rw[bO7];omega),bPe]
theorem aOq {key no:List UInt8} (h1:key.length=32) (h2:no.length=12):rightM key no 0=true:=by simp[rightM,h1,h2]
theorem bC6 {key no hd pl:List UInt8} (h1:key.length=32) (h2:no.length=12) (h3:hd.length≤4096) (h4:pl.length≤4096) :
  jW key no hd pl=(jF (dK key no) 1 70 pl++jN key no hd (jF (dK key no) 1 70 pl),0):=by
 rw[jW,if_neg (by rw[aOq h1 h2];simp),if_neg (by omega)]
theorem tY {key no hd pl:List UInt8} (h1:key.length=32) (h2:no.length=12) (h3:hd.length≤4096) (h4:pl.length≤4096):(jW key no hd pl).1.length=pl.length+16:=by
 rw[bC6 h1 h2 h3 h4]
 dsimp only
 rw[bN8,nG,kD _ _ _ _ (by omega)]
theorem aI1 {key no hd plain:List UInt8} (h1:key.length=32) (h2:no.length=12) (h3:hd.length≤4096) (h4:plain.length≤4096):kX key no hd (jW key no hd plain).1=(plain,0):=by
 have hl:=tY h1 h2 h3 h4
 have hs:=bC6 h1 h2 h3 h4
 have ha:=kD (dK key no) 70 1 plain (by omega)
 have hc:=nG key no hd (jF (dK key no) 1 70 plain)
 rw[kX,if_neg (by rw[aOq h1 h2];simp),if_neg (by omega),if_neg (by omega),hl,Nat.add_sub_cancel,hs]
 dsimp only
 rw[bSt ha,bQ8 ha,if_pos rfl,xN _ _ _ _ (by omega)]
theorem aGd {key no s:List UInt8} (h1:key.length=32) (h2:no.length=12) (h3:s.length≤4096):gV key no 0 s=(jF (dK key no) 0 70 s,0):=by
 rw[gV,if_neg (by rw[aOq h1 h2];simp),if_neg (by omega),if_neg (by omega)]
theorem aJv {hid:List Int} {mk sa:List UInt8} {ss ix:Int} {ex:List Md.Xt} (h1:mk.length=32) (h2:sa.length=12) (h3:(bC hid ex).length≤4096):cZ hid mk sa ss ix (cZ hid mk sa ss ix ex)=ex:=by
 have hn:=jS h2 ss ix
 have ha:=aGd (s:=bC hid ex) h1 hn h3
 have hl:=kD (dK mk (dG sa ss ix)) 70 0 (bC hid ex) (by omega)
 unfold cZ
 rw[ha]
 dsimp only
 rw[aE0 hid ex _ (by omega),yJ hid ex _ _ (by omega),bOk (by omega),aGd h1 hn (by omega)]
 dsimp only
 rw[xN _ _ _ _ (by omega),xJ]
theorem qP {hid:List Int} {mk sa:List UInt8} {ss ix:Int} {ex:List Md.Xt} (h1:mk.length=32) (h2:sa.length=12) (h3:(bC hid ex).length≤4096):mO (cZ hid mk sa ss ix ex)=mO ex:=by
 have hn:=jS h2 ss ix
 have ha:=aGd (s:=bC hid ex) h1 hn h3
 have hl:=kD (dK mk (dG sa ss ix)) 70 0 (bC hid ex) (by omega)
 unfold cZ
 rw[ha]
 exact yA hid ex _ (by dsimp only;omega)
def eG:List (List UInt8)→List AV
 | []=>[]
 | s::l=>.str s::eG l
theorem aXh {m:M} {a b:AV} {vs:Array Value} (hv:VRL m [a,b] vs.toList):∃v w,vs = #[v,w]∧VR m a v∧VR m b w:=by
 obtain ⟨v1,l1,e1,h1,r1⟩:=aX hv
 obtain ⟨v2,l2,e2,h2,r2⟩:=aX r1
 rw[fG] at r2
 subst r2
 subst e2
 exact ⟨v1,v2,by apply bR6;simpa using e1,h1,h2⟩

theorem aAi {P:Program} {gl:Nat→Option (List AV)} {f:FuncId} {c:List AV→List Blk→(Out→List Blk→Prop)→Prop} (he:Enters P f)
  (h:∀args H Q,c args H Q→∀ (m:M) (w:World) (vs:Array Value),VRL m args vs.toList→HR gl m H w→∃a v,Q (.ret a) H∧VR m a v∧Calls P f vs w fun e w'=>e=.returned v∧Below w.heap.size w w'):aF P gl f c:=by
 refine ⟨he,fun args H Q hc m w vs hv hH => ?_⟩
 obtain ⟨a,v,hq,ha,hr⟩:=h args H Q hc m w vs hv hH
 refine hr.mono ?_
 rintro e w' ⟨rfl,bel⟩
 exact ⟨.ret a,H,m,hq,ha,hH.same (Ext.refl m) rfl rfl fun j hj=>bel.block j hj,
  ⟨Ext.refl m,bel.os,bel.tape,bel.output,bel.size,fun k hk _=>bel.block k hk,fun _ h=>.inr h,fun _ _ h=>h,fun _ _ _ h=>.inl h⟩,bOt _,fun _ _ h=>h⟩
def iG (l:List (List UInt8)) (sep:List UInt8):List UInt8:=Lib.join l sep
def aNa:Con
 | [.lst _ ss n 1,.str sep],H,K=>∃l:List (List UInt8),Lf (ss=eG l∧n=l.length∧l.length≤1000∧(iG l sep).length≤1000000)∧∀x,Lf (x=iG l sep)→K (.ret (.str x)) H
 | _,_,_=>False
theorem aBh {m:M}:∀ (l:List (List UInt8)) (vs:List Value),VRL m (eG l) vs→vs=l.map fun s=>Value.string ⟨s.toArray⟩
 | [],vs,h=>by simpa [eG] using h
 | s::l,vs,h=>by
  obtain ⟨v,vs',e,h1,h2⟩:=aX h
  rw[e,aBh l vs' h2]
  simp only[VR] at h1
  rw[h1]
  rfl
theorem aM9:aF Tryz.prog gl0 129 aNa:=by
 refine aAi (enters_of (by kernel_rfl)) fun args H Q hc m w vs hv hH => ?_
 unfold aNa at hc
 split at hc
 ·rename_i tg ss n sep
  obtain ⟨l,⟨rfl,rfl,h1,h2⟩,hq⟩:=hc
  obtain ⟨v,u,rfl,g1,g2⟩:=aXh hv
  simp only[VR] at g1 g2
  subst g2
  obtain ⟨_,k2,oa,cap,rfl,k3,k4⟩:=g1
  have ex:(l.map fun s=>(⟨s.toArray⟩:ByteArray)).map (·.data.toList)=l:=by
   rw[bSk]
   exact (List.map_congr_left fun _ _=>rfl).trans (bTr l)
  rcases k4 with ⟨a,cs,rfl,k5,k6,k7,k8⟩ | ⟨k5,k6,_⟩
  ·obtain ⟨cu,e,fr,f1,f2⟩:=hH.frz _ _ _ k6
   have hvals:=aBh l _ k8
   obtain ⟨ab,ao,asp⟩:=a
   simp only at k5 k6 k7 k8 f1 hvals
   subst k5
   have hj:=Tryz.strings_Join ab ao cap (l.map fun s=>(⟨s.toArray⟩:ByteArray)) ⟨sep.toArray⟩ w (fun j x hx => ?_) (bOm.1 f1).1 (by simp;omega) (by simpa using k3) (by rw[ex];unfold iG at h2;simpa using (by omega:(Lib.join l sep).length≤140737488355328))
   ·rw[ex,bT3] at hj
    exact ⟨_,_,hq _ ⟨rfl⟩,by simp[VR,iG],hj⟩
   ·have e1:(l.map fun s=>Value.string ⟨s.toArray⟩)[j]? = some (.string x):=by
     rw[bRm] at hx ⊢
     cases hy:l[j]? with
     | none=>rw[hy] at hx;simp at hx
     | some y=>rw[hy] at hx;simp only[bRy,bOl] at hx ⊢;rw[hx]
    rw[←hvals] at e1
    have hjl:j<(eG l).length:=by
     rcases bTe j (eG l).length with g | g
     ·exact g
     ·rw[bR2 (by rw[bOu];omega)] at e1;simp at e1
    rw[List.getElem?_take_of_lt hjl,bPr] at e1
    have hcl:ao+j<cs.length:=by omega
    rw[←f2,List.getElem?_take_of_lt hcl] at e1
    simp only[World.cell?,f1,Option.isSome_none,bP2,bRw]
    rw[←bQf]
    exact e1
  ·have hl:l.length=0:=k5
   obtain rfl:=bO8.1 hl
   exact ⟨_,.string ⟨#[]⟩,hq _ ⟨rfl⟩,by simp[VR,iG,Lib.join],(Tryz.strings_Join_none oa cap ⟨sep.toArray⟩ w).mono fun e w' h=>⟨h.1,h.2▸Below.refl _ _⟩⟩
 ·exact hc.elim

def aHk:Con:=fun args H Q=>sK [1] H args fun a=>aNa a H Q
theorem qM:aF Tryz.prog gl0 129 aHk:=eT aM9 aM [1] fun args H Q hc=>by
 unfold aNa at hc
 split at hc
 ·obtain ⟨l,h,hq⟩:=hc
  exact ⟨l,h,fun x hx=>⟨rfl,⟨_,rfl,rfl⟩,hq x hx⟩⟩
 ·exact hc.elim
theorem pO {x:Int} {K:Int→Prop} (h:K (x%256)):∃n:Int,AV.int .u8 (IntKind.wrap .u8 x)=AV.int .u8 n∧K n:=by
 have e:IntKind.wrap .u8 x=x%256:=by
  simp only[IntKind.wrap,IntKind.bits,IntKind.signed,bQ5]
  have e2:(2:Int)^8=256:=rfl
  rw[e2]
  rfl
 exact ⟨_,congrArg _ e,h⟩
theorem fM (n:Int) (i:Nat):toB (.int .u8 (Int.fdiv n (256^i)%256))=Md.octM n i:=by
 have h0:(0:Int)≤256^i:=Int.pow_nonneg (by decide)
 rw[bP0 _ h0]
 rfl
theorem bHo (n:Int) (Q:Out→List Blk→Gh→Prop) (hq:Q (.ret (.str (Md.beM n 4))) [] {}):∃hv hb,zU hv hb n Q:=by
 obtain ⟨hv,hb',e⟩:∃hv hb,zU hv hb n Q=_:=⟨_,_,bF4 n Q⟩
 refine ⟨hv,hb',e.mpr ?_⟩
 clear e
 refine ⟨_,rfl,pO ⟨_,rfl,pO ⟨_,rfl,pO ⟨_,rfl,pO ⟨_,rfl, ?_⟩⟩⟩⟩⟩
 have e:[toB (.int .u8 (Int.fdiv n 16777216%256)),toB (.int .u8 (Int.fdiv n 65536%256)),toB (.int .u8 (Int.fdiv n 256%256)),toB (.int .u8 (Int.fdiv n 1%256))]=Md.beM n 4:=by
  rw[←show ((256:Int)^3=16777216) by decide,←show ((256:Int)^2=65536) by decide]
  rw[fM n 3,fM n 2,show toB (.int .u8 (Int.fdiv n 256%256))=Md.octM n 1 from fM n 1,show toB (.int .u8 (Int.fdiv n 1%256))=Md.octM n 0 from fM n 0]
  rfl
 rw[e]
 exact hq
theorem bHy (n:Int) (Q:Out→List Blk→Gh→Prop) (hq:Q (.ret (.str (Md.beM n 8))) [] {}):∃hv hb,yR hv hb n Q:=by
 obtain ⟨hv,hb',e⟩:∃hv hb,yR hv hb n Q=_:=⟨_,_,bF6 n Q⟩
 refine ⟨hv,hb',e.mpr ?_⟩
 clear e
 refine ⟨_,rfl,pO ⟨_,rfl,pO ⟨_,rfl,pO ⟨_,rfl,pO ⟨_,rfl,pO ⟨_,rfl,pO ⟨_,rfl,pO ⟨_,rfl,pO ⟨_,rfl, ?_⟩⟩⟩⟩⟩⟩⟩⟩⟩
 refine cast (congrArg (fun l=>Q (.ret (.str l)) [] {}) ?_) hq
 rw[show Md.beM n 8=[Md.octM n 7,Md.octM n 6,Md.octM n 5,Md.octM n 4,Md.octM n 3,Md.octM n 2,Md.octM n 1,Md.octM n 0] from rfl]
 rw[←fM n 7,←fM n 6,←fM n 5,←fM n 4,←fM n 3,←fM n 2,←fM n 1,←fM n 0]
 rfl
def aXa:Con
 | [.int .i64 n,.int .i64 k],H,K=>Lf (k=4∨k=8)∧∀s:List UInt8,Lf (s=Md.beM n k.toNat)→K (.ret (.str s)) H
 | _,_,_=>False
theorem aOf:aF Tryz.prog gl0 93 aXa:=by
 refine aP (enters_of (by kernel_rfl)) aM fun args H Q hc => ?_
 unfold aXa at hc
 split at hc
 ·rename_i n k
  obtain ⟨⟨hk⟩,hq⟩:=hc
  rcases hk with rfl | rfl
  ·obtain ⟨hv,hb',h⟩:=bHo n (fun o H' _=>H'=[]∧(∃v,o=.ret v∧old 0 v=true∧noY v=true)∧Q o H) ⟨rfl,⟨_,rfl,rfl,rfl⟩,hq _ ⟨rfl⟩⟩
   exact ⟨rfl,rfl,_,1000,aT bT (fun _=>none) hv hb',rfl,h⟩
  ·obtain ⟨hv,hb',h⟩:=bHy n (fun o H' _=>H'=[]∧(∃v,o=.ret v∧old 0 v=true∧noY v=true)∧Q o H) ⟨rfl,⟨_,rfl,rfl,rfl⟩,hq _ ⟨rfl⟩⟩
   exact ⟨rfl,rfl,_,1000,aT bT (fun _=>none) hv hb',rfl,h⟩
 ·exact hc.elim
def aAc (x sa:List UInt8) (i:Nat):List UInt8:=(List.zipWith (fun a b=>a ^^^ b) x sa).take i++x.drop i
def bNr:SM:=dV [(93,aXa),(129,aHk)]
theorem bAg:∀f g,bNr f=some g→aF Tryz.prog gl0 f g:=bF _ (by simp only[bOr,bOx,bP3,bPj,bQe];exact ⟨aOf,qM⟩)
def bF3 (sa:List UInt8) (z:S):List (List LInv):=match z.hp with
 | [c,d,⟨_,_,bs⟩]=>[[{ α:=List UInt8×Nat,pre:=fun p=>Lf (bs=ofBytes p.1∧p.1.length=12∧p.2≤12),st:=fun p=>⟨mkT [(0,.ptr 0 9 0),(7,.sl 2 p.1.length 0 p.1.length 1),(17,.int .i64 (p.1.length:Nat)),(18,.int .i64 (p.2:Nat))],[c,d,⟨.grow,true,ofBytes (aAc p.1 sa p.2)⟩]⟩,mu:=fun p=>12-p.2 }]]
 | _=>[]
noncomputable def aVr (hv:Nat→Option Pa) (hb:Nat→Option Bool) (sa:List UInt8):Env := { e04 bNr (fun i=>bif Nat.beq i 67000 then some (bF3 sa) else none) hv hb with hz:=fun k=>Nat.beq k 274445 }
noncomputable def aDb (hv:Nat→Option Pa) (hb:Nat→Option Bool) (k sa mk:List UInt8) (hl:List AV) (hn:Nat) (x:AV) (nx rs rt rk:Int) (ds:List AV) (ss ix:Int) (Q:Out→List Blk→Gh→Prop):Prop:=
 aY (aVr hv hb sa) (wpx (aVr hv hb sa) 1000) 67 [.ptr 0 9 0,.int .i64 ss,.int .i64 ix] [⟨.ro,false,uX k sa mk hl hn x nx rs rt rk⟩,⟨.ro,false,ds⟩] {} Q
abbrev bIg (x_3:List UInt8) (x_5:List UInt8×Nat):Prop:=Lf (ofBytes x_3=ofBytes x_5.1∧x_5.1.length=12∧x_5.2≤12)
abbrev aY7 (x_5:List UInt8×Nat) (sa:List UInt8):List AV:=ofBytes (aAc x_5.1 sa x_5.2)
abbrev bCl (x_5:List UInt8×Nat) (sa:List UInt8):Bool:=Nat.beq (ofBytes (aAc x_5.1 sa x_5.2)).length x_5.1.length
theorem bJ9 (k:List UInt8) (sa:List UInt8) (mk:List UInt8) (hl:List AV) (hn:Nat) (x:AV) (nx:Int) (rs:Int) (rt:Int) (rk:Int) (ds:List AV) (ss:Int) (ix:Int) (Q:Out→List Blk→Gh→Prop):aDb (bD
 [(274449,.int .i64),(274452,.int .i64),(274456,.int .u8),(274464,.int .u8),(274465,.int .u8),(274467,.int .i64),(274469,.str)]) (bE [(344062,true),(1274432000,true),(278526,true)]) k sa mk hl hn x nx rs rt rk ds ss ix
 Q=(Lf ((4:Int)=(4:Int)∨(4:Int)=(8:Int))∧∀s_0:List UInt8,Lf (s_0=Md.beM ss (Int.toNat 4))→Lf ((8:Int)=(4:Int)∨(8:Int)=(8:Int))∧∀s_1:List UInt8,Lf (s_1=Md.beM ix (Int.toNat 8))→∃l_2:List
 (List UInt8),Lf ([AV.str s_0,.str s_1]=eG l_2∧2=l_2.length∧l_2.length≤1000∧(iG l_2 []).length≤1000000)∧∀x_3:List UInt8,Lf (x_3=iG l_2 [])→(aL 2 [.str k,.str sa,.str mk,.lst 0 hl hn 1,x,.int .i64
 nx,.int .i64 rs,.int .i64 rt,.int .u64 rk]&&(aL 2 ds&&true))=true∧ckQ (Nat.beq (ofBytes x_3).length x_3.length) (exI .i64 (x_3.length:Int) (fun n_4=>(∃x_5:List UInt8×Nat,bIg x_3 x_5∧aJ [AV.str k,.str sa,.str
 mk,.lst 0 hl hn 1,x,.int .i64 nx,.int .i64 rs,.int .i64 rt,.int .u64 rk]∧ds=ds∧ckQ (aL 0 (ofBytes x_3)==true) (ofBytes x_3=aY7 x_5 sa∧aJ (AV.ptr 0 9 0)∧AV.sl 2 x_3.length 0 x_3.length 1=AV.sl 2 x_5.1.length 0
 x_5.1.length 1∧AV.int .i64 n_4=AV.int .i64 (x_5.1.length:Int)∧AV.int .i64 0=AV.int .i64 (x_5.2:Int)∧True))∧∀x_5:List UInt8×Nat,bIg x_3 x_5→bif decide ((x_5.2:Int)<(x_5.1.length:Int)) then exI .i64 (x_5.2 :
 Int) (fun n_6=>ckQ (decide (0≤n_6)&&Nat.blt n_6.toNat x_5.1.length&&bCl x_5 sa&&true) (ckQ (bCl x_5 sa&&Nat.blt (0+n_6.toNat*1) x_5.1.length) (exV .u8 ((((aY7 x_5 sa).drop (0+n_6.toNat*1)).take 1).getD 0 AV.undef)
 (fun n_7=>ckQ (decide (0≤n_6)&&Nat.blt n_6.toNat sa.length) (exI .u8 (UInt8.toNat (sa.getD n_6.toNat (UInt8.ofNat 0)):Int) (fun n_8=>exW .u8 (((n_7%256).toNat ^^^ (n_8%256).toNat:Nat):Int) (fun n_9=>ckQ (decide (0 ≤
 n_6)&&Nat.blt n_6.toNat x_5.1.length&&bCl x_5 sa&&true) (ckQ (bCl x_5 sa&&Nat.ble (0+n_6.toNat*1+1) x_5.1.length&&true&&true&&true) (exW .i64 ((x_5.2:Int)+1) (fun n_10=>(aL 3 [.str k,.str sa,.str mk,.lst 0
 hl hn 1,x,.int .i64 nx,.int .i64 rs,.int .i64 rt,.int .u64 rk]&&(aL 3 ds&&true))=true∧(True∧(0:Nat)=(0:Nat))∧∃y_11:List UInt8×Nat,bIg x_3 y_11∧12-y_11.2<12-x_5.2∧aJ [AV.str k,.str sa,.str mk,
 .lst 0 hl hn 1,x,.int .i64 nx,.int .i64 rs,.int .i64 rt,.int .u64 rk]∧ds=ds∧aO (aY7 x_5 sa) (0+n_6.toNat*1) [.int .u8 n_9]=aY7 y_11 sa∧aJ (AV.ptr 0 9 0)∧AV.sl 2 x_5.1.length 0 x_5.1.length 1=AV.sl 2
 y_11.1.length 0 y_11.1.length 1∧AV.int .i64 (x_5.1.length:Int)=AV.int .i64 (y_11.1.length:Int)∧AV.int .i64 n_10=AV.int .i64 (y_11.2:Int)∧True)))))))))) else ckQ (bCl x_5 sa&&Nat.ble (0+x_5.1.length) x_5.1.length &&
 true&&fK (((aY7 x_5 sa).drop 0).take x_5.1.length)) (exS (.str (List.map toB (((aY7 x_5 sa).drop 0).take x_5.1.length))) (fun s_6=>(aL 2 [.str k,.str sa,.str mk,.lst 0 hl hn 1,x,.int .i64 nx,.int .i64 rs,.int .i64 rt,
 .int .u64 rk]&&(aL 2 ds&&true))=true∧Q (.ret (.str s_6)) [Blk.mk BK.ro false (uX k sa mk hl hn x nx rs rt rk),Blk.mk BK.ro false ds] {}))))):=by kernel_rfl

def bLa:SM:=dV [(35,Md.cDecode),(129,aHk)]
theorem bA1:∀f g,bLa f=some g→aF Tryz.prog gl0 f g:=bF _ (by simp only[bOr,bOx,bP3,bPj,bQe];exact ⟨Md.decode_ok,qM⟩)
noncomputable def aDa (hv:Nat→Option Pa) (hb:Nat→Option Bool) (s:List UInt8) (Q:Out→List Blk→Gh→Prop):Prop:=
 aY (e04 bLa (fun _=>none) hv hb) (wpx (e04 bLa (fun _=>none) hv hb) 1000) 80 [.str s] [] {} Q
abbrev aQi:AV:=.int .i64 0
abbrev bIr:AV:=.agg [.bool false,aQi,aQi,aQi,aQi,.nils,.nils,aQi,.str []]
abbrev bJk:Out:=.ret (.tup [bIr,aQi,.int .i64 7])
abbrev bDy (s:List UInt8):Int:=(UInt8.toNat (s.getD 0 (UInt8.ofNat 0)):Int)
def sI (s:List UInt8) (n_20:Int) (n_19:Int) (Q:Out→List Blk→Gh→Prop):Prop:=
AV.int .i64 (s.length:Int)=AV.int .i64 n_20∧exW .i64 (n_19+16) (fun n_21=>bif decide (n_20<n_21) then Q bJk [] {} else ckQ (Nat.blt 0 s.length) (exI .u8 (bDy s) (fun n_22=>exW .u8 (((n_22%256).toNat &&& 223:Nat):Int) (fun n_23=>exS (.str [toB (.int .u8 n_23)]) (fun s_24=>ckQ (decide (0≤n_19)&&Nat.ble 1 n_19.toNat&&Nat.ble n_19.toNat s.length) (exS (.str ((s.drop 1).take (n_19.toNat-1))) (fun s_25=>∃l_26:List (List UInt8),Lf ([AV.str s_24,.str s_25]=eG l_26∧2=l_26.length∧l_26.length≤1000∧(iG l_26 []).length≤1000000)∧∀x_27:List UInt8,Lf (x_27=iG l_26 [])→ckQ (Nat.ble x_27.length 9223372036854775807) (∀mk_28:Bool,∀ty_29 sq_30 ti_31 ss_32:Int,∀cs_33:List Int,∀ex_34:List Md.Xt,∀p_35:Int,∀y_36:List UInt8,∀e_37:Int,Lf (Md.decM x_27=Prod.mk mk_28 (Prod.mk ty_29 (Prod.mk sq_30 (Prod.mk ti_31 (Prod.mk ss_32 (Prod.mk cs_33 (Prod.mk ex_34 (Prod.mk p_35 (Prod.mk y_36 e_37)))))))))→bif e_37 !=0 then Q (.ret (.tup [bIr,aQi,.int .i64 5])) [] {} else Q (.ret (.tup [.agg [.bool mk_28,.int .i64 ty_29,.int .i64 sq_30,.int .i64 ti_31,.int .i64 ss_32,.lst 0 (aB cs_33) cs_33.length 1,.lst 0 (Md.cellsXM ex_34) ex_34.length 2,.int .i64 p_35,.str y_36],.int .i64 n_19,aQi])) [] {}))))))))
theorem bKk (s:List UInt8) (Q:Out→List Blk→Gh→Prop):aDa (bD [(327686,.int .i64),(327690,.int .u8),(327691,.int .u8),(327692,.int .i64),(327693,.int .i64),(327694,.int .i64),(327696,.int .u8),(327697,.int
 .u8),(327700,.int .i64),(327702,.int .i64),(327708,.int .i64),(327709,.int .u8),(327710,.int .i64),(327711,.int .i64),(327714,.int .i64),(327715,.int .u8),(327716,.int .i64),(327717,.int .i64),(327718,.int .i64),
 (327719,.int .i64),(327721,.int .i64),(327723,.int .i64),(327728,.int .u8),(327729,.int .u8),(327731,.str),(327734,.str)]) (bE []) s Q=(exI .i64 (s.length:Int) (fun n_0=>bif decide (n_0<12) then Q bJk [] {}
 else ckQ (Nat.blt 0 s.length) (exI .u8 (bDy s) (fun n_1=>exW .u8 (((n_1%256).toNat &&& 15:Nat):Int) (fun n_2=>exW .i64 n_2 (fun n_3=>exW .i64 (4*n_3) (fun n_4=>exW .i64 (12+n_4) (fun
 n_5=>ckQ (Nat.blt 0 s.length) (exI .u8 (bDy s) (fun n_6=>exW .u8 (((n_6%256).toNat &&& 16:Nat):Int) (fun n_7=>bif n_7 !=0 then exW .i64 (n_5+4) (fun n_8=>exI .i64 (s.length:Int) (fun n_9=>
 bif decide (n_9≥n_8) then exW .i64 (n_8-2) (fun n_10=>ckQ (decide (0≤n_10)&&Nat.blt n_10.toNat s.length) (exI .u8 (UInt8.toNat (s.getD n_10.toNat (UInt8.ofNat 0)):Int) (fun n_11=>exW .i64 n_11 (fun n_12
 => exW .i64 (n_12*256) (fun n_13=>exW .i64 (n_8-1) (fun n_14=>ckQ (decide (0≤n_14)&&Nat.blt n_14.toNat s.length) (exI .u8 (UInt8.toNat (s.getD n_14.toNat (UInt8.ofNat 0)):Int) (fun n_15=>exW .i64
 n_15 (fun n_16=>exW .i64 (((n_13%18446744073709551616).toNat ||| (n_16%18446744073709551616).toNat:Nat):Int) (fun n_17=>exW .i64 (4*n_17) (fun n_18=>exW .i64 (n_8+n_18) (fun n_19=>∃n_20:Int,
 sI s n_20 n_19 Q)))))))))))) else ∃n_10:Int,sI s n_10 n_8 Q)) else ∃n_8:Int,sI s n_8 n_5 Q))))))))))):=by kernel_rfl

theorem aQ3 (a b:List UInt8):iG [a,b] []=a++b:=by simp[iG,Lib.join]
theorem bA7 (l:List UInt8):(ofBytes l).map toB=l:=by
 simp only[ofBytes,bSk]
 conv=>rhs;rw[←bTr l]
 congr 1
 funext x
 simp[toB]
theorem aR7 {a b:List UInt8} (h:ofBytes a=ofBytes b):a=b:=by rw[←bA7 a,h,bA7]
theorem bMg {s:List UInt8} {i j:Nat} (hi:i<s.length) (hj:j=i) {K:Int→Prop} (hk:K ((s.getD i 0).toNat:Int)):∃n:Int,(((ofBytes s).drop j).take 1).getD 0 AV.undef=AV.int .u8 n∧K n:=by
 subst hj
 refine ⟨_, ?_,hk⟩
 rw[bOs,bO9,if_pos (by omega),bPr,bQb]
 simp[ofBytes,hi]
theorem aXv (x sa:List UInt8) (i:Nat) (hx:x.length=12) (hs:sa.length=12):(aAc x sa i).length=12:=by
 rw[aAc,bN8,bOu,bQv,bO7];omega
theorem aXk (x sa:List UInt8) (i:Nat) (hx:x.length=12) (hs:sa.length=12) (hi:i<12):(aAc x sa i).getD i 0=x.getD i 0:=by
 rw[aAc,bOs,bPm (by rw[bOu,bQv];omega),bOu,bQv,bPr,bOs]
 congr 2
 omega
theorem aTy (x sa:List UInt8) (i:Nat) (hx:x.length=12) (hs:sa.length=12) (hi:i<12):(aAc x sa i).set i (x.getD i 0 ^^^ sa.getD i 0)=aAc x sa (i+1):=by
 have h1:i<x.length:=by omega
 have h2:i<sa.length:=by omega
 have h3:i<(List.zipWith (fun a b=>a ^^^ b) x sa).length:=by rw[bQv];omega
 have e1:x.getD i 0=x[i]:=by rw[bOs,bOq h1];rfl
 have e2:sa.getD i 0=sa[i]:=by rw[bOs,bOq h2];rfl
 rw[aAc,aAc,bRe _ _ (by rw[bOu];omega),bOu,bP1 (by omega),bR4,bP7 h1,bRx,List.take_succ_eq_append_getElem h3,bOz,List.getElem_zipWith,e1,e2]
 rfl
theorem aPr (k sa mk:List UInt8) (hl:List AV) (hn:Nat) (x:AV) (nx rs rt rk:Int) (ds:List AV) (ss ix:Int) (hs:sa.length=12) (hx:old 2 x=true) (hd:aL 0 ds=true) (Q:Out→List Blk→Gh→Prop) (hq:Q (.ret (.str (dG sa ss ix))) [⟨.ro,false,uX k sa mk hl hn x nx rs rt rk⟩,⟨.ro,false,ds⟩] {}) :
  ∃hv hb,aDb hv hb k sa mk hl hn x nx rs rt rk ds ss ix Q:=by
 obtain ⟨hv,hb',e⟩:∃hv hb,aDb hv hb k sa mk hl hn x nx rs rt rk ds ss ix Q=_:=⟨_,_,bJ9 k sa mk hl hn x nx rs rt rk ds ss ix Q⟩
 refine ⟨hv,hb',e.mpr ?_⟩
 delta bIg aY7 bCl
 clear e
 have hox:aL 2 [x]=true:=by rw[aL,hx];rfl
 have ho:∀n,2≤n→(aL n [.str k,.str sa,.str mk,.lst 0 hl hn 1,x,.int .i64 nx,.int .i64 rs,.int .i64 rt,.int .u64 rk]&&(aL n ds&&true))=true:=fun n h=>by
  have h1:=bP h _ hox
  have h2:=bP (bPp n) _ hd
  simp only[aL,bOh] at h1
  simp[aL,old,h1,h2]
 refine ⟨⟨.inl rfl⟩, ?_⟩
 rintro s0 ⟨rfl⟩
 refine ⟨⟨.inr rfl⟩, ?_⟩
 rintro s1 ⟨rfl⟩
 have h4:(Md.beM ss 4).length=4:=Md.be_len _ _
 have h8:(Md.beM ix 8).length=8:=Md.be_len _ _
 refine ⟨[Md.beM ss 4,Md.beM ix 8],⟨rfl,rfl,by simp,by rw[aQ3,bN8];omega⟩, ?_⟩
 rw[aQ3]
 rintro y ⟨hy⟩
 have hyl:y.length=12:=by rw[hy,bN8,h4,h8]
 have hnon:dG sa ss ix=List.zipWith (fun a b=>a ^^^ b) y sa:=by rw[hy];rfl
 refine ⟨ho 2 (by omega),ckI (by simp[ofBytes]) ⟨_,rfl,⟨(y,0),⟨rfl,hyl,bPp _⟩,rfl,rfl,ckI (by rw[(aK y)];rfl) ⟨by simp[aAc],rfl,rfl,rfl,rfl,trivial⟩⟩, ?_⟩⟩
 rintro ⟨z,i⟩ ⟨hz,hz2,hi⟩
 obtain rfl:=aR7 hz
 dsimp only at hz2 hi ⊢
 have hL:=aXv y sa i hyl hs
 refine aD (fun h=>⟨_,rfl, ?_⟩) (fun h => ?_)
 ·have hi2:i<12:=by omega
  refine ckI (by simp[ofBytes,hL];omega) (ckI (by simp[ofBytes,hL];omega) (bMg (i:=i) (by omega) (by simp) (ckI (by simp;omega) ⟨_,rfl, ?_⟩)))
  have e8:=bNo ((aAc y sa i).getD i 0) ((sa.getD i 0).toNat)
  have h256:=((aAc y sa i).getD i 0).toNat_lt
  refine ⟨_,congrArg (AV.int .u8) e8,ckI (by simp[ofBytes,hL];omega) (ckI (by simp[ofBytes,hL];omega) (aI (by omega) (by omega) ⟨ho 3 (by omega),⟨trivial,rfl⟩,(y,i+1),⟨rfl,hyl,by dsimp only;omega⟩,by dsimp only;omega,rfl,rfl, ?_,rfl,rfl,rfl,rfl,trivial⟩))⟩
  rw[stB (j:=i) (by omega) (by simp)]
  congr 1
  rw[←aTy y sa i hyl hs hi2,aXk y sa i hyl hs hi2]
  congr 1
  rw[x8M,UInt8.ofNat_toNat]
 ·obtain rfl:i=12:=by omega
  have e:aAc y sa 12=dG sa ss ix:=by
   rw[hnon,aAc,bOk (by rw[bQv];omega),List.drop_eq_nil_of_le (by omega),bPd]
  have ht:((ofBytes (aAc y sa 12)).drop 0).take y.length=ofBytes (aAc y sa 12):=by rw[bOv];exact bOk (by simp[ofBytes,hL];omega)
  rw[ht,bA7]
  refine ckI (by rw[jP];simp[ofBytes,hL];omega) ⟨_,rfl,ho 2 (by omega), ?_⟩
  rw[e]
  exact hq
def aCw (rest:List AV) (k sa mk:List UInt8) (hl:List AV) (hn:Nat) (K:AV→Prop):Prop:=match rest with
 | [.int .i64 ss,.int .i64 ix]=>Lf (sa.length=12)∧∀s:List UInt8,Lf (s=dG sa ss ix)→K (.str s)
 | _=>False
theorem yN:aF Tryz.prog gl0 67 (cbC aCw):=by
 refine aGs (enters_of (by kernel_rfl)) aM 9 (fun v=>v) eO fun rest k sa mk hl hn x nx rs rt rk ds R _ _ hx hd _ hg => ?_
 unfold aCw at hg
 split at hg
 ·rename_i ss ix _ _
  obtain ⟨⟨h1⟩,hq⟩:=hg
  obtain ⟨hv,hb',h⟩:=aPr k sa mk hl hn x nx rs rt rk ds ss ix h1 hx hd (fun o H' _=>∃v,o=.ret v∧R (bW 0 H' 9 v)) ⟨_,rfl,hq _ ⟨rfl⟩⟩
  exact ⟨_,1000,⟨iB,iZ,bY,bAg⟩,rfl,h⟩
 ·exact hg.elim
noncomputable def rZ (hv:Nat→Option Pa) (hb:Nat→Option Bool) (t:Nat) (Q:Out→List Blk→Gh→Prop):Prop:=
 aY (e04 sm0 (fun _=>none) hv hb) (wpx (e04 sm0 (fun _=>none) hv hb) 1000) 115 [.lst t [] 0 2] [] {} Q
theorem bA2 (t:Nat) (Q:Out→List Blk→Gh→Prop):rZ (bD []) (bE []) t Q=(
((Q (Out.ret (AV.sl (0:Nat) (0:Nat) (0:Nat) (0:Nat) (2:Nat))) ((Blk.mk BK.exact true [])::[]) (Gh.mk (0:Nat) (0:Nat) [])) ∧
 (Q (Out.ret AV.nils) [] (Gh.mk (0:Nat) (0:Nat) [])))):=by kernel_rfl

noncomputable def sV (hv:Nat→Option Pa) (hb:Nat→Option Bool) (t:Nat) (x:Md.Xt) (ex:List Md.Xt) (Q:Out→List Blk→Gh→Prop):Prop:=
 aY (e04 sm0 (fun _=>none) hv hb) (wpx (e04 sm0 (fun _=>none) hv hb) 1000) 115 [.lst t (Md.cellsXM (x::ex)) (ex.length+1) 2] [] {} Q
theorem aYb (t:Nat) (x:Md.Xt) (ex:List Md.Xt) (Q:Out→List Blk→Gh→Prop):sV (bD []) (bE []) t x ex Q=(
((bif ((((Nat.beq (List.length (Md.cellsXM (x::ex))) (((List.length ex)+(1:Nat))*(2:Nat)))&&(fJ (Md.cellsXM (x::ex))))&&true)&&(Nat.ble (((List.length ex)+(1:Nat))*(24:Nat)) (1099511627776:Nat))) then (bif ((Nat.ble ((0:Nat)+((List.length ex)+(1:Nat))) (1099511627776:Nat))&&(Nat.ble (((0:Nat)+((List.length ex)+(1:Nat)))*(24:Nat)) (1099511627776:Nat))) then (Q (Out.ret (AV.sl (1:Nat) ((0:Nat)+(List.length (Md.cellsXM (x::ex)))) (0:Nat) ((0:Nat)+((List.length ex)+(1:Nat))) (2:Nat))) ((Blk.mk BK.exact true [])::((Blk.mk BK.grow (aL (0:Nat) ([]++(Md.cellsXM (x::ex)))) ([]++(Md.cellsXM (x::ex))))::[])) (Gh.mk (0:Nat) (0:Nat) []))
else False)
else False) ∧
 True)):=by kernel_rfl

theorem aOg {P:Program} {gl:Nat→Option (List AV)} {f:FuncId} {c c1 c2:List AV→List Blk→(Out→List Blk→Prop)→Prop} (h1:aF P gl f c1) (h2:aF P gl f c2) (h:∀args H Q,c args H Q→c1 args H Q∨c2 args H Q):aF P gl f c:=
 ⟨h1.1,fun args H Q hc=>(h args H Q hc).elim (h1.2 args H Q) (h2.2 args H Q)⟩
theorem aI6 {P:Program} {gl:Nat→Option (List AV)} {f:FuncId} {c:List AV→List Blk→(Out→List Blk→Prop)→Prop} (he:Enters P f) (hgl:∀g cs,gl g=some cs→bG cs=true)
  (h:∀args H Q,c args H Q→aL 0 args=true∧bG args=true∧∃ (E:Env) (n:Nat),EnvFor P E∧E.gl=gl ∧
   aY E (wpx E n) f args [] {} fun o H' _=>(∀b∈H',b.k≠.ro∧aL 0 b.cs=true∧bG b.cs=true)∧Q (bFo (sig id 0 H.length) o) (H++H')):aF P gl f c:=by
 refine jE he hgl fun args H Q hc => ?_
 obtain ⟨h1,h2,E,n,hE,hg,h5⟩:=h args H Q hc
 refine ⟨E,n,id,args,[],_,hE,hg,(bL id args h1 h2).symm,h1,h2,Fr.nil H,h5, ?_⟩
 rintro o H0' g' ⟨q1,q2⟩
 refine ⟨H++H0',⟨bPp _, ?_, ?_, ?_,by simp, ?_, ?_⟩,q2⟩
 ·intro j b0 hj;simp at hj
 ·intro j b0 hj;simp at hj
 ·intro j b0 _ hk
  exact (q1 b0 (bRi hk)).1
 ·intro id' hid _
  rw[bPc hid]
 ·intro j b hj _
  obtain ⟨_,c1,c2⟩:=q1 b (bRi hj)
  simp only[sig,aNl,bL _ b.cs c1 c2,bOe]
  rw[if_neg (by omega),bPm (by omega)]
  simpa using hj
theorem flX:∀ex:List Md.Xt,aL 0 (Md.cellsXM ex)=true∧bG (Md.cellsXM ex)=true
 | []=>⟨rfl,rfl⟩
 | x::l=>by
  have:=flX l
  exact ⟨by simpa [Md.cellsXM,aL,old] using this.1,by simpa [Md.cellsXM,bG,noY] using this.2⟩
theorem jC:∀ex:List Md.Xt,(Md.cellsXM ex).length=2*ex.length
 | []=>rfl
 | x::l=>by
  have:=jC l
  simp only[Md.cellsXM,bOb] at this ⊢
  omega
theorem bM4:∀ex:List Md.Xt,fJ (Md.cellsXM ex)=true
 | []=>rfl
 | x::l=>by
  have:=bM4 l
  show (true&&(true&&fJ (Md.cellsXM l)))=true
  rw[this];rfl
def bFd:Con
 | [.lst _ [] 0 2],H,K=>K (.ret (.lst 0 [] 0 2)) H
 | _,_,_=>False
theorem aL2:aF Tryz.prog gl0 115 bFd:=by
 refine fF (enters_of (by kernel_rfl)) aM 9 (nlR [2]) (aVe _) fun args H Q hc => ?_
 unfold bFd at hc
 split at hc
 ·rename_i t
  have run:∀Q:Out→List Blk→Gh→Prop,Q (.ret (.sl 0 0 0 0 2)) [⟨.exact,true,[]⟩] {}→Q (.ret .nils) [] {}→∃hv hb,rZ hv hb t Q:=fun Q h1 h2=>by
   obtain ⟨hv,hb',e⟩:∃hv hb,rZ hv hb t Q=_:=⟨_,_,bA2 t Q⟩
   exact ⟨hv,hb',e.mpr ⟨h1,h2⟩⟩
  obtain ⟨hv,hb',h⟩:=run (fun o H' _=>∃v,o=.ret v∧Q (.ret (nlR [2] (bW 0 H' 9 v))) H) ⟨_,rfl,hc⟩ ⟨_,rfl,hc⟩
  exact ⟨rfl,rfl,_,1000,aT bT (fun _=>none) hv hb',rfl,h⟩
 ·exact hc.elim
def bGt:Con
 | [.lst _ c n 2],H,K=>∃ (x:Md.Xt) (ex:List Md.Xt),Lf (c=Md.cellsXM (x::ex)∧n=ex.length+1∧ex.length≤1000000)∧K (.ret (.sl (H.length+1) (2*(x::ex).length) 0 (x::ex).length 2)) (H++[⟨.exact,true,[]⟩,⟨.grow,true,Md.cellsXM (x::ex)⟩])
 | _,_,_=>False
theorem aX3:aF Tryz.prog gl0 115 bGt:=by
 refine aI6 (enters_of (by kernel_rfl)) aM fun args H Q hc => ?_
 unfold bGt at hc
 split at hc
 ·rename_i t c n
  obtain ⟨x,ex,⟨rfl,rfl,hl⟩,hq⟩:=hc
  have hlen:=jC (x::ex)
  rw[bOb] at hlen
  have hfl:=flX (x::ex)
  have run:∀Q:Out→List Blk→Gh→Prop,Q (.ret (.sl 1 (2*(ex.length+1)) 0 (ex.length+1) 2)) [⟨.exact,true,[]⟩,⟨.grow,true,Md.cellsXM (x::ex)⟩] {}→∃hv hb,sV hv hb t x ex Q:=fun Q h1=>by
   obtain ⟨hv,hb',e⟩:∃hv hb,sV hv hb t x ex Q=_:=⟨_,_,aYb t x ex Q⟩
   refine ⟨hv,hb',e.mpr ⟨ckI (by rw[bM4];simp[hlen];omega) (ckI (by simp;omega) ?_),trivial⟩⟩
   rw[bPg,hfl.1,hlen,bQo,bQo]
   exact h1
  obtain ⟨hv,hb',h⟩:=run (fun o H' _=>(∀b∈H',b.k≠.ro∧aL 0 b.cs=true∧bG b.cs=true)∧Q (bFo (sig id 0 H.length) o) (H++H')) ⟨by
   intro b hb
   simp only[bOr,bOx,bP3] at hb
   rcases hb with rfl | rfl
   ·exact ⟨by simp,rfl,rfl⟩
   ·exact ⟨by simp,hfl⟩,hq⟩
  exact ⟨rfl,rfl,_,1000,aT bT (fun _=>none) hv hb',rfl,h⟩
 ·exact hc.elim
def bLx:Con
 | [.lst t c n 2],H,K=>∃ex:List Md.Xt,Lf (c=Md.cellsXM ex∧n=ex.length∧ex.length≤1000000)∧(Lf (ex=[])→K (.ret (.lst 0 [] 0 2)) H)∧(Lf (1≤ex.length)→K (.ret (.sl (H.length+1) (2*ex.length) 0 ex.length 2)) (H++[⟨.exact,true,[]⟩,⟨.grow,true,Md.cellsXM ex⟩]))
 | _,_,_=>False
theorem bGe:aF Tryz.prog gl0 115 bLx:=aOg aL2 aX3 fun args H Q hc=>by
 unfold bLx at hc
 split at hc
 ·rename_i t c n
  obtain ⟨ex,⟨rfl,rfl,hl⟩,h0,h1⟩:=hc
  cases ex with
  | nil=>exact .inl (h0 ⟨rfl⟩)
  | cons x ex=>exact .inr ⟨x,ex,⟨rfl,rfl,by rw[bOb] at hl;omega⟩,h1 ⟨by simp⟩⟩
 ·exact hc.elim
end Go.Proofs.YtnhechnaemmdiaaGreatDoor

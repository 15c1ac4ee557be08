/-
  Chapter 25: ShieldThrough: the run.
-/
import Derived.Test.YtnhechnaemmdiaaGreatDoorK25TL
set_option linter.unusedSimpArgs false
set_option linter.unusedVariables false
set_option linter.unusedSectionVars false
namespace Go.Proofs.YtnhechnaemmdiaaGreatDoor
open Go.RowKit
set_option maxRecDepth 1000000

theorem bE6 {z:Int} {k:Nat} {key:List UInt8} {u:Int} {fi:Int} {l:List AV} {n:Nat} {ss:Int} {n_6:Int} {od:List UInt8} {t_3:Nat} {cs_4:List AV} {len_5:Nat} {mk:Bool} {ty sq ti:Int} {xs:List AV} {m:Nat} {pd:Int} {pl:List UInt8}
  (hz:0≤z∧z≤65535) (hk:k<256∧k%4=0) (hp:[.bool mk,.int .i64 ty,.int .i64 sq,.int .i64 ti,.int .i64 1,.lst 0 [] 0 1,.lst 0 xs m 2,.int .i64 pd,.str pl]=pkM z k) :
  tlA mk ty sq ti xs m pd pl 0 key u fi l n ss (hKM u) (jH [] z) (aHb (aKM key) (bKM key) (cKM key) (hKM u) z k) n_6 z od t_3 cs_4 len_5:=by
 unfold tlA
 rw[hp]
 have hz2:z%65536=z:=by omega
 have h1:=bM0 (key:=key) (u:=u) (L:=[]) (k:=0) (q:=z) (w:=k) (by simp) (by simp)
 have h2:=aHq [] 0 z k
 have h3:=aFu key u [] 0 (z,k)
 rw[hz2] at h2
 refine ⟨⟨h1⟩,_,rfl,⟨trivial,rfl⟩,.inr ⟨([(z,k)],z,[jH [] z]),⟨aLo hz hk⟩,by simp,rfl,rfl,rfl,rfl, ?_,rfl,by dsimp only;rw[hz2],rfl,rfl,rfl, ?_,rfl,trivial⟩⟩
 ·exact congrArg (fun x=>AV.lst 0 x 1 1) h3
 ·exact congrArg (fun x=>AV.lst 0 x 1 9) h2
theorem aP2 {L:List (Int×Nat)} {z d:Int} {w:List Tr} {k:Nat} {p:Int} {key:List UInt8} {u:Int} {fi:Int} {l:List AV} {n:Nat} {ss:Int} {n_6:Int} {od:List UInt8} {t_3:Nat} {cs_4:List AV} {len_5:Nat} {mk:Bool} {ty sq ti:Int} {xs:List AV} {m:Nat} {pd:Int} {pl:List UInt8}
  (h:uO L z w) (hd:1≤d∧d≤5) (hL:L.length<10) (hk:k<256∧k%4=0) (hp0:1≤p∧p≤L.length) (hp:[.bool mk,.int .i64 ty,.int .i64 sq,.int .i64 ti,.int .i64 1,.lst 0 [] 0 1,.lst 0 xs m 2,.int .i64 pd,.str pl]=pkM ((z+d)%65536) k) :
  tlB (L,z,w) key u mk ty sq ti xs m pd pl p fi l n ss (hKM u) (jH w (z+d)) (aHb (aKM key) (bKM key) (cKM key) (hKM u) (z+d) k) n_6 ((z+d)%65536) od t_3 cs_4 len_5:=by
 unfold tlB
 rw[hp]
 obtain ⟨_,_,_,_,_,_,hr⟩:=aHy h hd hL
 obtain ⟨q,rfl⟩:∃q:Nat,p=q:=⟨p.toNat,by omega⟩
 have h1:=bM0 (key:=key) (u:=u) (L:=L) (k:=(q:Int)) (q:=(z+d)%65536) (w:=k) (by omega) (by omega)
 refine ⟨⟨h1⟩,aI (by dsimp only;omega) (by dsimp only;omega) ⟨⟨trivial,rfl⟩,.inr ⟨(aI3 L q (z+d,k),z+d,[jH w (z+d)]),⟨hr k q hk (by omega)⟩, ?_,rfl,rfl,rfl,rfl, ?_,rfl,rfl,rfl,rfl, ?_, ?_,rfl,trivial⟩⟩⟩
 ·dsimp only;rw[kG];omega
 ·rw[bOa]
  dsimp only
  rw[kG]
  exact congrArg (fun x=>AV.lst 0 x (L.length+1) 1) (aFu key u L q (z+d,k))
 ·dsimp only;rw[kG];simp
 ·rw[bOa]
  dsimp only
  rw[kG]
  exact congrArg (fun x=>AV.lst 0 x (L.length+1) 9) (aHq L q (z+d) k)
theorem bE2 (x:Int) (h:0≤x∧x<18446744073709551616):((((x%18446744073709551616).toNat &&& 65535:Nat):Int))=x%65536:=by
 rw[show (65535:Nat)=2^16-1 from rfl,bQp];omega
theorem aPl (key:List UInt8) (u:Int):bO (aKM key) (bKM key) (cKM key) (hKM u)=true:=sW _ _ _ _
theorem aXc (k:Nat):(iL k).length≤4:=by rcases mQ k with h | h | h | h<;>rw[h]<;>simp
theorem aB7 {q:Int} {k:Nat} (hk:k%4=0) {mk:Bool} {ty sq ti pd:Int} {m:Nat} {xs:List AV} {pl:List UInt8} (h:[.bool mk,.int .i64 ty,.int .i64 sq,.int .i64 ti,.int .i64 1,.lst 0 [] 0 1,.lst 0 xs m 2,.int .i64 pd,.str pl]=pkM q k) :
  mk=decide (k%2=0)∧ty=96∧sq=q∧ti=90*q∧xs=Md.cellsXM (iL k)∧m=(iL k).length∧pd=lW k∧pl=uY q k:=by
 rw[pkM] at h
 simp only[bP6,AV.bool.injEq,AV.int.injEq,AV.lst.injEq,AV.str.injEq,bOo,bOp] at h
 obtain ⟨h1,h2,h3,h4,_,h6,h7,h8⟩:=h
 exact ⟨h1,h2,h3,h4,h6.1.trans (qD _),h6.2,h7,h8⟩
theorem aZp (k:Nat):Md.dataM (iL k):=by
 intro x hx
 rcases mQ k with h | h | h | h<;>rw[h] at hx<;>simp only[bOr,bOx,bP3] at hx
 ·rcases hx with rfl | rfl<;>simp
 ·rcases hx with rfl | rfl<;>simp
 ·rcases hx with rfl | rfl | rfl | rfl<;>simp
theorem aK6 {key:List UInt8} {u:Int} {S:List Int} {w:List Tr} {z:Int} {k:Nat} (hS:aFy S w) (hk:k<256∧k%4=0) (hz:0≤z∧z≤70000) (hw:eF w-z≤63) :
  bU (aKM key) (bKM key) (cKM key) (hKM u) w 0 0 (-1) 0=true∧Md.rightM 96 (z%65536) (90*(z%65536)) 1 [] (iL k) (lW k)=true∧(Md.encM (decide (k%2=0)) 96 (z%65536) (90*(z%65536)) 1 [] (iL k) (lW k) (uY (z%65536) k)).length≤1184 ∧
  aJ7 (decide (k%2=0)) 96 (z%65536) (90*(z%65536)) 1 [] 0 (Md.cellsXM (iL k)) (iL k).length (lW k) (uY (z%65536) k) [] (iL k) ∧
  aJa (aKM key) (bKM key) (cKM key) (aB (hKM u)) (hKM u).length (trM [jH w z]) 1 0 0 (-1) 0 ∧
  (aHb (aKM key) (bKM key) (cKM key) (hKM u) z k).length=(Md.encM (decide (k%2=0)) 96 (z%65536) (90*(z%65536)) 1 [] (iL k) (lW k) (uY (z%65536) k)).length+16:=by
 have hn:=aPl key u
 obtain ⟨n1,n2,n3⟩:=oG hn
 obtain ⟨r1,r2⟩:=aG7 (q:=z%65536) (k:=k) (by omega) hk.1
 obtain ⟨c1,c2,c3⟩:=aCq (b:=bKM key) (c:=cKM key) (hid:=hKM u) (z:=z) (k:=k) n2 n3 hk.1
 have hx:=aXc k
 have hent:=yX hS hz.1 (by omega) hw
 refine ⟨(nJ hS hn).1,r1,r2,⟨⟨⟨rfl,rfl,rfl,rfl,by simp,by omega,aZp k⟩,by simp[uY]⟩,r1,by omega⟩, ?_, ?_⟩
 ·exact ⟨hKM u,[jH w z],0,⟨rfl,rfl,rfl,rfl,rfl,by have:=zG u.toNat 16;simp only[hKM];omega,(nJ hent hn).2,by omega,by omega⟩,(nJ hent hn).1⟩
 ·have:=(aA3 (mk:=decide (k%2=0)) (pl:=uY (z%65536) k) (ix:=z) n1 n2 c1 c2).1
  rw[aHb,this]
  have e:(Md.headM (decide (k%2=0)) 96 (z%65536) (90*(z%65536)) 1 [] (bBt (bKM key) (cKM key) (hKM u) z k) (lW k)).length=(Md.headM (decide (k%2=0)) 96 (z%65536) (90*(z%65536)) 1 [] (iL k) (lW k)).length:=by
   have hcat:=rQ (hKM u) (decide (k%2=0)) 96 (z%65536) (90*(z%65536)) 1 [] (iL k) (lW k)
   have hL:(Md.headM (decide (k%2=0)) 96 (z%65536) (90*(z%65536)) 1 [] (iL k) (lW k)).length≤(Md.encM (decide (k%2=0)) 96 (z%65536) (90*(z%65536)) 1 [] (iL k) (lW k) (uY (z%65536) k)).length:=by
    rw[Md.encM];simp only[bN8];omega
   have hshp:=qP (hid:=hKM u) (mk:=cKM key) (sa:=bKM key) (ss:=1) (ix:=z) (ex:=iL k) n3 n2 (by omega)
   exact (qI (mk:=decide (k%2=0)) (ty:=96) (sq:=z%65536) (ti:=90*(z%65536)) (ss:=1) (cs:=[]) (lW k) hshp).1
  rw[Md.encM,Md.encM]
  simp only[bN8,e]
theorem bD3 {x:Nat} (h:x<256):((x:Int).tmod 5)=((x%5:Nat):Int):=by
 rw[bPz (by omega)];omega
theorem w8 {x:Int} {K:Int→Prop} (h:K (x%256)):exW .u8 x K:=⟨x%256,rfl,h⟩
end Go.Proofs.YtnhechnaemmdiaaGreatDoor

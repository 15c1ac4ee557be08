/-
  Chapter 25: ShieldThrough: residual.
-/
import Derived.Test.YtnhechnaemmdiaaGreatDoorK25TJ
import Derived.Test.YtnhechnaemmdiaaGreatDoorK25TF
import Derived.Test.YtnhechnaemmdiaaGreatDoorKnQ
import Derived.Test.YtnhechnaemmdiaaGreatDoorK25CW
set_option linter.unusedSimpArgs false
set_option linter.unusedVariables false
set_option linter.unusedSectionVars false
namespace Go.Proofs.YtnhechnaemmdiaaGreatDoor
open Go.RowKit
set_option maxRecDepth 1000000

def aKM (key:List UInt8):List UInt8:=bV key 32
def bKM (key:List UInt8):List UInt8:=bV (key++[115]) 12
def cKM (key:List UInt8):List UInt8:=bV (key++[109]) 32
def hKM (u:Int):List Int:=gJ u.toNat 16
def drM (key:List UInt8) (u:Int) (l:List AV) (n:Nat):Prop:=∃ks:List Int,(0≤u∧u<65536)∧l=aU9 ks∧n=ks.length∧key.length≤140737488351232
def aFj:Con
 | [.agg [.str key,.int .u16 u,.int .u16 f,.lst 0 l n 1,.int .u32 ss]],H,K=>Lf (drM key u l n)∧K (.ret (.agg [.str (aKM key),.str (bKM key),.str (cKM key),.lst 0 (aB (hKM u)) (hKM u).length 1,.lst 0 [] 0 3,.int .i64 0,.int .i64 0,.int .i64 (-1),.int .u64 0])) H
 | _,_,_=>False
theorem aL5:aF Tryz.prog gl0 26 aFj:=fB aT0 fun args H K hc=>by
 unfold aFj at hc
 split at hc
 ·rename_i key u f l n ss
  obtain ⟨⟨ks,⟨h1,h2⟩,rfl,rfl,h3⟩,hq⟩:=hc
  refine ⟨u.toNat,ks,⟨by omega,rfl,rfl,by omega,h3⟩, ?_⟩
  rintro a b c xs ⟨h4,h5,h6,h7⟩
  subst h4 h5 h6 h7
  exact hq
 ·exact hc.elim
def bE0 (q u:Int) (l:List AV):Prop:=l=pkM q u.toNat
def aP7:Con
 | [.int .i64 q,.int .u8 u],H,K=>Lf ((0≤q∧q≤65535)∧(0≤u∧u<256)∧u%4=0)∧∀ (mk:Bool) (ty sq ti pd:Int) (m:Nat) (xs:List AV) (pl:List UInt8),Lf (bE0 q u [.bool mk,.int .i64 ty,.int .i64 sq,.int .i64 ti,.int .i64 1,.lst 0 [] 0 1,.lst 0 xs m 2,.int .i64 pd,.str pl]) →
   K (.ret (.agg [.bool mk,.int .i64 ty,.int .i64 sq,.int .i64 ti,.int .i64 1,.lst 0 [] 0 1,.lst 0 xs m 2,.int .i64 pd,.str pl])) H
 | _,_,_=>False
theorem aRf:aF Tryz.prog gl0 21 aP7:=fB aOi fun args H K hc=>by
 unfold aP7 at hc
 split at hc
 ·rename_i q u
  obtain ⟨⟨h1,⟨h2,h3⟩,h4⟩,hq⟩:=hc
  refine ⟨u.toNat,⟨by omega,h1,by omega⟩, ?_⟩
  rintro l ⟨rfl⟩ mk ty sq ti ss pd m xs pl ⟨he⟩
  have e:ss=1:=by
   rw[pkM] at he
   simp only[bP6,AV.int.injEq,bOp] at he
   have:=he.2.2.2.2.1
   omega
  subst e
  exact hq mk ty sq ti pd m xs pl ⟨he.symm⟩
 ·exact hc.elim
def bK (L:List (Int×Nat)):List AV:=(L.map fun x=>pkM (x.1%65536) x.2).flatten
def bS (key:List UInt8) (u:Int) (L:List (Int×Nat)):List AV:=L.map fun x=>.str (aHb (aKM key) (bKM key) (cKM key) (hKM u) x.1 x.2)
def bB3 (L:List (Int×Nat)) (z:Int):Prop:=(∃x L',L=x::L'∧(0≤x.1∧x.1≤65535)∧z≤x.1+5*L.length∧∀y∈L,x.1≤y.1)∧(∀y∈L,y.1≤z∧y.2<256∧y.2%4=0)∧(L.map (·.1)).Nodup∧L.length≤10
def uO (L:List (Int×Nat)) (z:Int) (w:List Tr):Prop:=bB3 L z∧(∃S,aFy S w)∧eF w=z
def aFk (L:List (Int×Nat)) (i:Nat) (w:List Tr):Prop:=(∃z,bB3 L z)∧i≤L.length∧∃S,aFy S w∧∀x,x∈S↔x∈(L.take i).map (·.1)
def aCi (L:List (Int×Nat)) (i:Nat) (w:List Tr) (j:Nat):Prop:=(∃z,bB3 L z)∧i<L.length∧j≤i+1∧∃S,aFy S w∧∀x,x∈S↔x∈(L.take (i+1)).map (·.1)
def slM (v:AV) (n:Nat):Prop:=v=.int .i64 (n:Int)
def bBv (H:List Blk) (i:Nat) (w:List Tr):List Blk:=match H[i]? with
 | some b=>H.set i ⟨b.k,b.lf,b.cs.set 4 (.lst 0 (trM w) w.length 3)⟩
 | none=>H
def bKh (key:List UInt8) (u:Int) (s:S):List (List LInv):=[[
 { α:=Int,pre:=fun q=>Lf (0≤q∧q≤65535),st:=fun q=>⟨mkT [(2,s.tm.get 2),(7,.ptr 1 9 0),(8,.ptr 2 9 0),(9,.int .i64 q),(10,.nils),(11,.nils),(42,s.tm.get 42),(43,s.tm.get 43),(44,.int .i64 0)],s.hp⟩,mu:=fun _=>1000 },
 { α:=List (Int×Nat)×Int×List Tr,pre:=fun x=>Lf (uO x.1 x.2.1 x.2.2),st:=fun x=>⟨mkT [(2,s.tm.get 2),(7,.ptr 1 9 0),(8,.ptr 2 9 0),(9,.int .i64 (x.2.1%65536)),(10,.lst 0 (bK x.1) x.1.length 9),(11,.lst 0 (bS key u x.1) x.1.length 1),(42,s.tm.get 42),(43,s.tm.get 43),(44,.int .i64 (x.1.length:Nat))],bBv s.hp 1 x.2.2⟩,mu:=fun x=>999-x.1.length }]]
def bKy (key:List UInt8) (u:Int) (s:S):List (List LInv):=match s.tm.get 11 with
 | .nils=>[[{ α:=Nat,pre:=fun i=>Lf (i=0),st:=fun _=>⟨mkT [(8,.ptr 2 9 0),(10,.nils),(11,.nils),(132,.nils),(133,.int .i64 0),(134,.int .i64 0)],s.hp⟩,mu:=fun _=>0 }]]
 | _=>[[{ α:=List (Int×Nat)×Nat×List Tr,pre:=fun x=>Lf (aFk x.1 x.2.1 x.2.2),st:=fun x=>⟨mkT [(8,.ptr 2 9 0),(10,.lst 0 (bK x.1) x.1.length 9),(11,.lst 0 (bS key u x.1) x.1.length 1),(132,.lst 0 (bS key u x.1) x.1.length 1),(133,.int .i64 (x.1.length:Nat)),(134,.int .i64 (x.2.1:Nat))],bBv s.hp 2 x.2.2⟩,mu:=fun x=>x.1.length-x.2.1 }]]
def bKp (key:List UInt8) (u:Int) (s:S):List (List LInv):=[[{ α:=List (Int×Nat)×Nat×List Tr×Nat,pre:=fun x=>Lf (aCi x.1 x.2.1 x.2.2.1 x.2.2.2∧slM (s.tm.get 134) x.2.1∧slM (s.tm.get 133) x.1.length),st:=fun x=>⟨mkT [(8,.ptr 2 9 0),(10,.lst 0 (bK x.1) x.1.length 9),(11,.lst 0 (bS key u x.1) x.1.length 1),(132,.lst 0 (bS key u x.1) x.1.length 1),(133,.int .i64 (x.1.length:Nat)),(134,.int .i64 (x.2.1:Nat)),(160,.lst 0 (bS key u (x.1.take (x.2.1+1))) (x.2.1+1) 1),(161,.int .i64 ((x.2.1+1:Nat):Int)),(162,.int .i64 (x.2.2.2:Nat))],bBv s.hp 2 x.2.2.1⟩,mu:=fun x=>1000-x.2.2.2 }]]
def bNw (key:List UInt8) (u:Int) (i:Nat):Option (S→List (List LInv)):=bif Nat.beq i 6000 then some (bKh key u) else bif Nat.beq i 6002 then some (bKy key u) else bif Nat.beq i 6004 then some (bKp key u) else none
def bMv:SM:=dV [(13,aLl),(20,aUw),(21,aP7),(24,aK4),(26,aFj),(31,aRt),(32,bF5)]
theorem aZy:∀f g,bMv f=some g→aF Tryz.prog gl0 f g:=bF _ (by simp only[bOr,bOx,bP3,bPj,bQe];exact ⟨aEo,aR3,aRf,aQv,aL5,aO0,aZa⟩)
noncomputable def e6T (key:List UInt8) (u:Int) (hv:Nat→Option Pa) (hb:Nat→Option Bool):Env := { fn:=fun f=>bif Nat.beq f 6 then aUi Tryz.prog gT 6 else none,sm:=bMv,gl:=gl0,inv:=bNw key u,hv:=hv,hb:=hb }
noncomputable def aEb (hv:Nat→Option Pa) (hb:Nat→Option Bool) (key:List UInt8) (u fi:Int) (l:List AV) (n:Nat) (ss:Int) (ks od:List UInt8) (Q:Out→List Blk→Gh→Prop):Prop:=
 aY (e6T key u hv hb) (wpx (e6T key u hv hb) 1000) 6 [.agg [.str key,.int .u16 u,.int .u16 fi,.lst 0 l n 1,.int .u32 ss],.lst 0 (ofBytes ks) ks.length 1,.lst 0 (ofBytes od) od.length 1] [] {} Q
def tlB (x_7:List (Int×Nat)×Int×List Tr) (key:List UInt8) (u:Int) (mk_17:Bool) (ty_18:Int) (sq_19:Int) (ti_20:Int) (xs_23:List AV) (m_22:Nat) (pd_21:Int) (pl_24:List UInt8) (n_42:Int) (fi:Int) (l:List AV)
 (n:Nat) (ss:Int) (hid_25:List Int) (t_31:Tr) (p_30:List UInt8) (n_6:Int) (n_15:Int) (od:List UInt8) (t_3:Nat) (cs_4:List AV) (len_5:Nat):Prop:=
Lf (bIn (bK x_7.1) (bS key u x_7.1) [.bool mk_17,.int .i64 ty_18,.int .i64 sq_19,.int .i64 ti_20,.int .i64 1,.lst 0 [] 0 1,.lst 0 xs_23 m_22 2,.int .i64 pd_21,.str pl_24] x_7.1.length
 x_7.1.length n_42)∧exW .i64 ((x_7.1.length:Int)+1) (fun n_43=>(True∧(0:Nat)=(0:Nat))∧((∃y_44:Int,Lf (0≤y_44∧y_44≤65535)∧1000<999-x_7.1.length∧aJ [AV.str key,.int .u16 u,.int .u16
 fi,.lst 0 l n 1,.int .u32 ss]∧[AV.str (aKM key),.str (bKM key),.str (cKM key),.lst 0 (aB hid_25) hid_25.length 1,.lst 0 (trM [t_31]) 1 3,.int .i64 0,.int .i64 0,.int .i64 (-1),.int .u64 0]
 = [AV.str (aKM key),.str (bKM key),.str (cKM key),.lst 0 (aB (hKM u)) (hKM u).length 1,.lst 0 [] 0 3,.int .i64 0,.int .i64 0,.int .i64 (-1),.int .u64 0]∧aJ [AV.str (aKM key),.str (bKM key),.str
 (cKM key),.lst 0 (aB (hKM u)) (hKM u).length 1,.lst 0 [] 0 3,.int .i64 0,.int .i64 0,.int .i64 (-1),.int .u64 0]∧aJ (AV.ptr 1 9 0)∧AV.lst 0 (aC3 1 (bS key u x_7.1) n_42.toNat [.str p_30])
 (x_7.1.length+1) 1=AV.nils∧aJ (AV.int .i64 n_6)∧AV.int .i64 n_15=AV.int .i64 y_44∧aJ (AV.lst 0 (ofBytes od) od.length 1)∧aJ (AV.ptr 2 9 0)∧AV.int .i64 n_43=AV.int .i64 0∧AV.lst 0 (aC3 9 (bK x_7.1) n_42.toNat
 [.bool mk_17,.int .i64 ty_18,.int .i64 sq_19,.int .i64 ti_20,.int .i64 1,.lst 0 [] 0 1,.lst 0 xs_23 m_22 2,.int .i64 pd_21,.str pl_24]) (x_7.1.length+1) 9=AV.nils∧aJ (AV.lst t_3 cs_4 len_5
 1)∧True)∨∃y_44:List (Int×Nat)×Int×List Tr,Lf (uO y_44.1 y_44.2.1 y_44.2.2)∧999-y_44.1.length<999-x_7.1.length∧aJ [AV.str key,.int .u16 u,.int .u16 fi,.lst 0 l n 1,.int .u32 ss] ∧
 [AV.str (aKM key),.str (bKM key),.str (cKM key),.lst 0 (aB hid_25) hid_25.length 1,.lst 0 (trM [t_31]) 1 3,.int .i64 0,.int .i64 0,.int .i64 (-1),.int .u64 0]=[AV.str (aKM key),.str (bKM key),
 .str (cKM key),.lst 0 (aB (hKM u)) (hKM u).length 1,.lst 0 (trM y_44.2.2) y_44.2.2.length 3,.int .i64 0,.int .i64 0,.int .i64 (-1),.int .u64 0]∧aJ [AV.str (aKM key),.str (bKM key),.str (cKM key),
 .lst 0 (aB (hKM u)) (hKM u).length 1,.lst 0 [] 0 3,.int .i64 0,.int .i64 0,.int .i64 (-1),.int .u64 0]∧aJ (AV.ptr 1 9 0)∧AV.lst 0 (aC3 1 (bS key u x_7.1) n_42.toNat [.str p_30]) (x_7.1.length
 + 1) 1=AV.lst 0 (bS key u y_44.1) y_44.1.length 1∧aJ (AV.int .i64 n_6)∧AV.int .i64 n_15=AV.int .i64 (y_44.2.1%65536)∧aJ (AV.lst 0 (ofBytes od) od.length 1)∧aJ (AV.ptr 2 9 0)∧AV.int .i64 n_43=AV.int .i64
 (y_44.1.length:Int)∧AV.lst 0 (aC3 9 (bK x_7.1) n_42.toNat [.bool mk_17,.int .i64 ty_18,.int .i64 sq_19,.int .i64 ti_20,.int .i64 1,.lst 0 [] 0 1,.lst 0 xs_23 m_22 2,.int .i64 pd_21,.str
 pl_24]) (x_7.1.length+1) 9=AV.lst 0 (bK y_44.1) y_44.1.length 9∧aJ (AV.lst t_3 cs_4 len_5 1)∧True))
def tlA (mk_17:Bool) (ty_18:Int) (sq_19:Int) (ti_20:Int) (xs_23:List AV) (m_22:Nat) (pd_21:Int) (pl_24:List UInt8) (n_42:Int) (key:List UInt8) (u:Int) (fi:Int) (l:List AV) (n:Nat) (ss:Int) (hid_25:List Int)
 (t_31:Tr) (p_30:List UInt8) (n_6:Int) (n_15:Int) (od:List UInt8) (t_3:Nat) (cs_4:List AV) (len_5:Nat):Prop:=
Lf (bIn [] [] [.bool mk_17,.int .i64 ty_18,.int .i64 sq_19,.int .i64 ti_20,.int .i64 1,.lst 0 [] 0 1,.lst 0 xs_23 m_22 2,.int .i64 pd_21,.str pl_24] 0 0 n_42)∧exI .i64 1 (fun n_43=>
 (True∧(0:Nat)=(0:Nat))∧((∃y_44:Int,Lf (0≤y_44∧y_44≤65535)∧(1000:Nat)<(1000:Nat)∧aJ [AV.str key,.int .u16 u,.int .u16 fi,.lst 0 l n 1,.int .u32 ss]∧[AV.str (aKM key),.str (bKM
 key),.str (cKM key),.lst 0 (aB hid_25) hid_25.length 1,.lst 0 (trM [t_31]) 1 3,.int .i64 0,.int .i64 0,.int .i64 (-1),.int .u64 0]=[AV.str (aKM key),.str (bKM key),.str (cKM key),.lst 0 (aB
 (hKM u)) (hKM u).length 1,.lst 0 [] 0 3,.int .i64 0,.int .i64 0,.int .i64 (-1),.int .u64 0]∧aJ [AV.str (aKM key),.str (bKM key),.str (cKM key),.lst 0 (aB (hKM u)) (hKM u).length 1,.lst 0 [] 0 3,
 .int .i64 0,.int .i64 0,.int .i64 (-1),.int .u64 0]∧aJ (AV.ptr 1 9 0)∧AV.lst 0 (aC3 1 [] n_42.toNat [.str p_30]) 1 1=AV.nils∧aJ (AV.int .i64 n_6)∧AV.int .i64 n_15=AV.int .i64 y_44 ∧
 aJ (AV.lst 0 (ofBytes od) od.length 1)∧aJ (AV.ptr 2 9 0)∧AV.int .i64 n_43=AV.int .i64 0∧AV.lst 0 (aC3 9 [] n_42.toNat [.bool mk_17,.int .i64 ty_18,.int .i64 sq_19,.int .i64 ti_20,.int .i64 1,
 .lst 0 [] 0 1,.lst 0 xs_23 m_22 2,.int .i64 pd_21,.str pl_24]) 1 9=AV.nils∧aJ (AV.lst t_3 cs_4 len_5 1)∧True)∨∃y_44:List (Int×Nat)×Int×List Tr,Lf (uO y_44.1 y_44.2.1 y_44.2.2)∧999-y_44.1.length<1000 ∧
 aJ [AV.str key,.int .u16 u,.int .u16 fi,.lst 0 l n 1,.int .u32 ss]∧[AV.str (aKM key),.str (bKM key),.str (cKM key),.lst 0 (aB hid_25) hid_25.length 1,.lst 0 (trM [t_31]) 1 3,.int .i64 0,.int
 IntKind.i64 0,.int .i64 (-1),.int .u64 0]=[AV.str (aKM key),.str (bKM key),.str (cKM key),.lst 0 (aB (hKM u)) (hKM u).length 1,.lst 0 (trM y_44.2.2) y_44.2.2.length 3,.int .i64 0,.int .i64 0,.int
 IntKind.i64 (-1),.int .u64 0]∧aJ [AV.str (aKM key),.str (bKM key),.str (cKM key),.lst 0 (aB (hKM u)) (hKM u).length 1,.lst 0 [] 0 3,.int .i64 0,.int .i64 0,.int .i64 (-1),.int .u64 0] ∧
 aJ (AV.ptr 1 9 0)∧AV.lst 0 (aC3 1 [] n_42.toNat [.str p_30]) 1 1=AV.lst 0 (bS key u y_44.1) y_44.1.length 1∧aJ (AV.int .i64 n_6)∧AV.int .i64 n_15=AV.int .i64 (y_44.2.1%65536)∧aJ (AV.lst 0 (ofBytes od) od.length 1) ∧
 aJ (AV.ptr 2 9 0)∧AV.int .i64 n_43=AV.int .i64 (y_44.1.length:Int)∧AV.lst 0 (aC3 9 [] n_42.toNat [.bool mk_17,.int .i64 ty_18,.int .i64 sq_19,.int .i64 ti_20,.int .i64 1,.lst 0 [] 0 1,.lst 0
 xs_23 m_22 2,.int .i64 pd_21,.str pl_24]) 1 9=AV.lst 0 (bK y_44.1) y_44.1.length 9∧aJ (AV.lst t_3 cs_4 len_5 1)∧True))
theorem bKe (key:List UInt8) (u:Int) (fi:Int) (l:List AV) (n:Nat) (ss:Int) (ks:List UInt8) (od:List UInt8) (Q:Out→List Blk→Gh→Prop):aEb (bD [(24613,.int .i64),(24616,.int .i64),(24617,.int .i64),
 (24618,.lst 1),(24619,.int .i64),(24624,.int .u8),(24626,.int .i64),(24628,.int .u8),(24629,.int .i64),(24630,.int .i64),(24631,.int .i64),(24634,.int .u8),(24661,.int .i64),(24663,.int .i64),(24664,.int .i64),
 (24622,.int .i64),(24625,.int .i64),(24673,.int .i64),(24679,.int .u8),(24680,.int .i64),(24682,.int .i64),(24683,.int .i64),(24707,.int .i64),(24709,.int .i64),(24712,.int .i64),(24714,.str),(24721,.agg [.bool,.int
 .i64,.int .i64,.int .i64,.int .i64,.lst 1,.lst 2,.int .i64,.str]),(24735,.int .i64),(24737,.int .i64),(24741,.str),(24751,.int .i64),(24752,.int .i64)]) (bE []) key u fi l n ss ks od Q=(Lf (drM key u l n)∧ckQ (dI
 [.str key,.int .u16 u,.int .u16 fi,.lst 0 l n 1,.int .u32 ss] [.str key,.int .u16 u,.int .u16 fi,.lst 0 l n 1,.int .u32 ss]&&true) (Lf (drM key u l n)∧exW .i64 fi (fun n_0=>exI
 IntKind.i64 (ks.length:Int) (fun n_1=>exI .i64 (vH n_1 10) (fun n_2=>ckQ (decide (0≤n_2)&&true&&Nat.ble n_2.toNat ks.length&&true) (∃t_3:Nat,∃cs_4:List AV,∃len_5:Nat,AV.lst 0 (((ofBytes ks).drop 0).take
 ((n_2.toNat-0)*1)) (n_2.toNat-0) 1=AV.lst t_3 cs_4 len_5 1∧exI .i64 (len_5:Int) (fun n_6=>((∃x_7:Int,Lf (0≤x_7∧x_7≤65535)∧aJ [AV.str key,.int .u16 u,.int .u16 fi,.lst 0 l n 1,.int
 IntKind.u32 ss]∧aJ [AV.str (aKM key),.str (bKM key),.str (cKM key),.lst 0 (aB (hKM u)) (hKM u).length 1,.lst 0 [] 0 3,.int .i64 0,.int .i64 0,.int .i64 (-1),.int .u64 0]∧aJ [AV.str (aKM key),
 .str (bKM key),.str (cKM key),.lst 0 (aB (hKM u)) (hKM u).length 1,.lst 0 [] 0 3,.int .i64 0,.int .i64 0,.int .i64 (-1),.int .u64 0]∧aJ (AV.ptr 1 9 0)∧AV.nils=AV.nils∧aJ (AV.int .i64 n_6)
 ∧ AV.int .i64 n_0=AV.int .i64 x_7∧aJ (AV.lst 0 (ofBytes od) od.length 1)∧aJ (AV.ptr 2 9 0)∧aJ (AV.int .i64 0)∧AV.nils=AV.nils∧aJ (AV.lst t_3 cs_4 len_5 1)∧True)∨∃x_7:List (Int×Nat)×Int×List Tr,Lf (uO
 x_7.1 x_7.2.1 x_7.2.2)∧aJ [AV.str key,.int .u16 u,.int .u16 fi,.lst 0 l n 1,.int .u32 ss]∧[AV.str (aKM key),.str (bKM key),.str (cKM key),.lst 0 (aB (hKM u)) (hKM u).length 1,.lst 0 [] 0 3,.int
 IntKind.i64 0,.int .i64 0,.int .i64 (-1),.int .u64 0]=[AV.str (aKM key),.str (bKM key),.str (cKM key),.lst 0 (aB (hKM u)) (hKM u).length 1,.lst 0 (trM x_7.2.2) x_7.2.2.length 3,.int .i64 0,.int
 IntKind.i64 0,.int .i64 (-1),.int .u64 0]∧aJ [AV.str (aKM key),.str (bKM key),.str (cKM key),.lst 0 (aB (hKM u)) (hKM u).length 1,.lst 0 [] 0 3,.int .i64 0,.int .i64 0,.int .i64 (-1),
 .int .u64 0]∧aJ (AV.ptr 1 9 0)∧AV.nils=AV.lst 0 (bS key u x_7.1) x_7.1.length 1∧aJ (AV.int .i64 n_6)∧AV.int .i64 n_0=AV.int .i64 (x_7.2.1%65536)∧aJ (AV.lst 0 (ofBytes od) od.length 1)∧aJ (AV.ptr 2
 9 0)∧AV.int .i64 0=AV.int .i64 (x_7.1.length:Int)∧AV.nils=AV.lst 0 (bK x_7.1) x_7.1.length 9∧aJ (AV.lst t_3 cs_4 len_5 1)∧True)∧(∀x_7:Int,Lf (0≤x_7∧x_7≤65535)→bif decide (0<n_6) then exI .i64 0
 (fun n_8=>ckQ (Nat.blt 0 len_5&&true) (ckQ (Nat.blt 0 cs_4.length) (exV IntKind.u8 (cs_4.getD 0 AV.undef) (fun n_9=>exI .i64 x_7 (fun n_10=>exW .i64 (n_10+1) (fun n_11=>exI .u8 (n_9.tmod 5) (fun n_12=>exW
 IntKind.i64 n_12 (fun n_13=>exW .i64 (n_11+n_13) (fun n_14=>exW .i64 (((n_14%18446744073709551616).toNat &&& 65535:Nat):Int) (fun n_15=>exW .u8 (4*n_9) (fun n_16=>Lf ((0≤n_15∧n_15≤65535)∧(0 ≤
 n_16∧n_16<256)∧n_16%4=0)∧∀mk_17:Bool,∀ty_18 sq_19 ti_20 pd_21:Int,∀m_22:Nat,∀xs_23:List AV,∀pl_24:List UInt8,Lf (bE0 n_15 n_16 [.bool mk_17,.int .i64 ty_18,.int .i64 sq_19,.int .i64
 ti_20,.int .i64 1,.lst 0 [] 0 1,.lst 0 xs_23 m_22 2,.int .i64 pd_21,.str pl_24])→∃hid_25 cs_26:List Int,∃ex_27:List Md.Xt,∃w_28:List Tr,∃z_29:Int,Lf ((aB (hKM u)=aB hid_25∧(hKM u).length =
 hid_25.length∧([]:List AV)=aB cs_26∧0=cs_26.length∧xs_23=Md.cellsXM ex_27∧m_22=ex_27.length∧([]:List AV)=trM w_28∧0=w_28.length)∧(bAh w_28∧bU (aKM key) (bKM key) (cKM key) hid_25 w_28 0 0 (-1) 0 =
 true∧Md.rightM ty_18 sq_19 ti_20 1 cs_26 ex_27 pd_21=true∧(Md.encM mk_17 ty_18 sq_19 ti_20 1 cs_26 ex_27 pd_21 pl_24).length≤1184)∧z_29=dB (eF w_28) sq_19∧eF w_28<z_29∧z_29≤281474976710655)∧∀p_30:List
 UInt8,∀t_31:Tr,Lf (p_30=uG mk_17 ty_18 sq_19 ti_20 1 cs_26 (cZ hid_25 (cKM key) (bKM key) 1 z_29 ex_27) pd_21 pl_24 (aKM key) (bKM key) z_29∧t_31=jH w_28 z_29)→∃cs_32:List Int,∃ex_33:List Md.Xt,Lf (aJ7 mk_17
 ty_18 sq_19 ti_20 1 [] 0 xs_23 m_22 pd_21 pl_24 cs_32 ex_33)∧∀s_34:List UInt8,Lf (s_34=Md.encM mk_17 ty_18 sq_19 ti_20 1 cs_32 ex_33 pd_21 pl_24)→Lf (aJa (aKM key) (bKM key) (cKM key) (aB hid_25) hid_25.length (trM [t_31]) 1
 0 0 (-1) 0)∧exI .i64 (p_30.length:Int) (fun n_35=>exI .i64 (s_34.length:Int) (fun n_36=>exW .i64 (n_36+16) (fun n_37=>bif n_35 !=n_37 then Q (.ret (.bool false)) [] {} else bif decide (n_8>0) then exI
 IntKind.i64 (od.length:Int) (fun n_38=>bif decide (n_8<n_38) then ckQ (decide (0≤n_8)&&Nat.blt n_8.toNat od.length&&true) (ckQ (Nat.blt (n_8.toNat*1) (ofBytes od).length) (exV IntKind.u8 ((ofBytes od).getD (n_8.toNat*1)
 AV.undef) (fun n_39=>exW .i64 n_39 (fun n_40=>ckQ (n_8 !=0&&true) (exI .i64 (n_40.tmod n_8) (fun n_41=>exW .i64 (1+n_41) (fun n_42=>tlA mk_17 ty_18 sq_19 ti_20 xs_23 m_22 pd_21 pl_24 n_42 key u fi l n ss
 hid_25 t_31 p_30 n_6 n_15 od t_3 cs_4 len_5))))))) else tlA mk_17 ty_18 sq_19 ti_20 xs_23 m_22 pd_21 pl_24 n_8 key u fi l n ss hid_25 t_31 p_30 n_6 n_15 od t_3 cs_4 len_5) else tlA mk_17 ty_18 sq_19 ti_20 xs_23 m_22 pd_21 pl_24 n_8 key u
 fi l n ss hid_25 t_31 p_30 n_6 n_15 od t_3 cs_4 len_5)))))))))))))) else exI .i64 0 (fun n_8=>(∃x_9:Nat,Lf (x_9=0)∧aJ [AV.str key,.int .u16 u,.int .u16 fi,.lst 0 l n 1,.int .u32 ss]∧aJ
 [AV.str (aKM key),.str (bKM key),.str (cKM key),.lst 0 (aB (hKM u)) (hKM u).length 1,.lst 0 [] 0 3,.int .i64 0,.int .i64 0,.int .i64 (-1),.int .u64 0]∧aJ [AV.str (aKM key),.str (bKM key),.str
 (cKM key),.lst 0 (aB (hKM u)) (hKM u).length 1,.lst 0 [] 0 3,.int .i64 0,.int .i64 0,.int .i64 (-1),.int .u64 0]∧AV.nils=AV.nils∧AV.int .i64 n_8=AV.int .i64 0∧aJ (AV.ptr 2 9 0)∧AV.nils =
 AV.nils∧AV.nils=AV.nils∧aJ (AV.int .i64 0)∧True)∧∀x_9:Nat,Lf (x_9=0)→Q (.ret (.bool true)) [] {}))∧∀x_7:List (Int×Nat)×Int×List Tr,Lf (uO x_7.1 x_7.2.1 x_7.2.2)→bif decide ((x_7.1.length:Int)<n_6)
 then exI .i64 (x_7.1.length:Int) (fun n_8=>ckQ (Nat.blt (x_7.1.length:Int).toNat len_5&&true) (ckQ (Nat.blt ((x_7.1.length:Int).toNat*1) cs_4.length) (exV IntKind.u8 (cs_4.getD ((x_7.1.length:Int).toNat*1) AV.undef)
 (fun n_9=>exI .i64 (x_7.2.1%65536) (fun n_10=>exW .i64 (n_10+1) (fun n_11=>exI .u8 (n_9.tmod 5) (fun n_12=>exW .i64 n_12 (fun n_13=>exW .i64 (n_11+n_13) (fun n_14=>exW .i64
 (((n_14%18446744073709551616).toNat &&& 65535:Nat):Int) (fun n_15=>exW .u8 (4*n_9) (fun n_16=>Lf ((0≤n_15∧n_15≤65535)∧(0≤n_16∧n_16<256)∧n_16%4=0)∧∀mk_17:Bool,∀ty_18 sq_19 ti_20 pd_21:Int,∀
 m_22:Nat,∀xs_23:List AV,∀pl_24:List UInt8,Lf (bE0 n_15 n_16 [.bool mk_17,.int .i64 ty_18,.int .i64 sq_19,.int .i64 ti_20,.int .i64 1,.lst 0 [] 0 1,.lst 0 xs_23 m_22 2,.int .i64 pd_21,
 .str pl_24])→∃hid_25 cs_26:List Int,∃ex_27:List Md.Xt,∃w_28:List Tr,∃z_29:Int,Lf ((aB (hKM u)=aB hid_25∧(hKM u).length=hid_25.length∧([]:List AV)=aB cs_26∧0=cs_26.length∧xs_23=Md.cellsXM
 ex_27∧m_22=ex_27.length∧trM x_7.2.2=trM w_28∧x_7.2.2.length=w_28.length)∧(bAh w_28∧bU (aKM key) (bKM key) (cKM key) hid_25 w_28 0 0 (-1) 0=true∧Md.rightM ty_18 sq_19 ti_20 1 cs_26 ex_27 pd_21=true∧(Md.encM
 mk_17 ty_18 sq_19 ti_20 1 cs_26 ex_27 pd_21 pl_24).length≤1184)∧z_29=dB (eF w_28) sq_19∧eF w_28<z_29∧z_29≤281474976710655)∧∀p_30:List UInt8,∀t_31:Tr,Lf (p_30=uG mk_17 ty_18 sq_19 ti_20 1 cs_26 (cZ
 hid_25 (cKM key) (bKM key) 1 z_29 ex_27) pd_21 pl_24 (aKM key) (bKM key) z_29∧t_31=jH w_28 z_29)→∃cs_32:List Int,∃ex_33:List Md.Xt,Lf (aJ7 mk_17 ty_18 sq_19 ti_20 1 [] 0 xs_23 m_22 pd_21 pl_24 cs_32 ex_33)∧∀s_34:List
 UInt8,Lf (s_34=Md.encM mk_17 ty_18 sq_19 ti_20 1 cs_32 ex_33 pd_21 pl_24)→Lf (aJa (aKM key) (bKM key) (cKM key) (aB hid_25) hid_25.length (trM [t_31]) 1 0 0 (-1) 0)∧exI .i64 (p_30.length:Int) (fun n_35=>exI
 IntKind.i64 (s_34.length:Int) (fun n_36=>exW .i64 (n_36+16) (fun n_37=>bif n_35 !=n_37 then Q (.ret (.bool false)) [] {} else bif decide (n_8>0) then exI .i64 (od.length:Int) (fun n_38=>bif decide (n_8<n_38)
 then ckQ (decide (0≤n_8)&&Nat.blt n_8.toNat od.length&&true) (ckQ (Nat.blt (n_8.toNat*1) (ofBytes od).length) (exV IntKind.u8 ((ofBytes od).getD (n_8.toNat*1) AV.undef) (fun n_39=>exW .i64 n_39 (fun n_40=>ckQ (n_8 !=0
 && true) (exI .i64 (n_40.tmod n_8) (fun n_41=>exW .i64 (1+n_41) (fun n_42=>tlB x_7 key u mk_17 ty_18 sq_19 ti_20 xs_23 m_22 pd_21 pl_24 n_42 fi l n ss hid_25 t_31 p_30 n_6 n_15 od t_3 cs_4 len_5))))))) else tlB x_7 key
 u mk_17 ty_18 sq_19 ti_20 xs_23 m_22 pd_21 pl_24 n_8 fi l n ss hid_25 t_31 p_30 n_6 n_15 od t_3 cs_4 len_5) else tlB x_7 key u mk_17 ty_18 sq_19 ti_20 xs_23 m_22 pd_21 pl_24 n_8 fi l n ss hid_25 t_31 p_30 n_6 n_15 od t_3 cs_4
 len_5)))))))))))))) else exI .i64 (x_7.1.length:Int) (fun n_8=>(∃x_9:List (Int×Nat)×Nat×List Tr,Lf (aFk x_9.1 x_9.2.1 x_9.2.2)∧aJ [AV.str key,.int .u16 u,.int .u16 fi,.lst 0 l n 1,.int
 IntKind.u32 ss]∧aJ [AV.str (aKM key),.str (bKM key),.str (cKM key),.lst 0 (aB (hKM u)) (hKM u).length 1,.lst 0 (trM x_7.2.2) x_7.2.2.length 3,.int .i64 0,.int .i64 0,.int .i64 (-1),.int .u64 0] ∧
 [AV.str (aKM key),.str (bKM key),.str (cKM key),.lst 0 (aB (hKM u)) (hKM u).length 1,.lst 0 [] 0 3,.int .i64 0,.int .i64 0,.int .i64 (-1),.int .u64 0]=[AV.str (aKM key),.str (bKM key),.str (cKM
 key),.lst 0 (aB (hKM u)) (hKM u).length 1,.lst 0 (trM x_9.2.2) x_9.2.2.length 3,.int .i64 0,.int .i64 0,.int .i64 (-1),.int .u64 0]∧AV.lst 0 (bS key u x_7.1) x_7.1.length 1=AV.lst 0 (bS key u
 x_9.1) x_9.1.length 1∧AV.int .i64 n_8=AV.int .i64 (x_9.1.length:Int)∧aJ (AV.ptr 2 9 0)∧AV.lst 0 (bS key u x_7.1) x_7.1.length 1=AV.lst 0 (bS key u x_9.1) x_9.1.length 1∧AV.lst 0 (bK x_7.1) x_7.1.length 9 =
 AV.lst 0 (bK x_9.1) x_9.1.length 9∧AV.int .i64 0=AV.int .i64 (x_9.2.1:Int)∧True)∧∀x_9:List (Int×Nat)×Nat×List Tr,Lf (aFk x_9.1 x_9.2.1 x_9.2.2)→bif decide ((x_9.2.1:Int)<(x_9.1.length:Int)) then exI
 IntKind.i64 (x_9.2.1:Int) (fun n_10=>ckQ (Nat.blt (x_9.2.1:Int).toNat x_9.1.length&&true) (ckQ (Nat.blt ((x_9.2.1:Int).toNat*1) (bS key u x_9.1).length) (exS ((bS key u x_9.1).getD ((x_9.2.1:Int).toNat*1) AV.undef)
 (fun s_11=>ckQ (decide (0≤n_10)&&Nat.blt n_10.toNat x_9.1.length&&true) (ckQ (Nat.ble (n_10.toNat*9+9) (bK x_9.1).length) (∃b_12 n_13 n_14 n_15 n_16,∃t_17:Nat,∃cs_18:List AV,∃len_19 t_20:Nat,∃cs_21:List AV,
 ∃len_22:Nat,∃n_23 s_24,AV.agg (((bK x_9.1).drop (n_10.toNat*9)).take 9)=AV.agg [.bool b_12,.int .i64 n_13,.int .i64 n_14,.int .i64 n_15,.int .i64 n_16,.lst t_17 cs_18 len_19 1,.lst t_20 cs_21
 len_22 2,.int .i64 n_23,.str s_24]∧∃hid_25 S_26:List Int,∃w_27:List Tr,∃z_28:Int,∃k_29:Nat,Lf (aX2 (aKM key) (bKM key) (cKM key) (aB (hKM u)) (hKM u).length (trM x_9.2.2) x_9.2.2.length s_11 hid_25 S_26
 w_27 z_28 k_29)∧(Lf (Membership.mem S_26 z_28∧cs_18=[]∧cs_21=[])∧Q (.ret (.bool false)) [] {}∨Lf (¬Membership.mem S_26 z_28∧k_29%4=0∧[AV.bool b_12,.int .i64 n_13,.int .i64 n_14,.int .i64 n_15,
 .int .i64 n_16,.lst 0 cs_18 len_19 1,.lst 0 cs_21 len_22 2,.int .i64 n_23,.str s_24]=pkM (z_28%65536) k_29)∧∀t_30:Tr,Lf (t_30=jH w_27 z_28)→Lf (aJa (aKM key) (bKM key) (cKM key) (aB hid_25)
 hid_25.length (trM [t_30]) 1 0 0 (-1) 0)∧exW .i64 (n_10+1) (fun n_31=>ckQ (decide (0≤n_31)&&true&&Nat.ble n_31.toNat x_9.1.length&&true) (exI .i64 ((n_31.toNat-0:Nat):Int) (fun n_32=>(∃x_33:List (Int
 × Nat)×Nat×List Tr×Nat,Lf (aCi x_33.1 x_33.2.1 x_33.2.2.1 x_33.2.2.2∧slM (.int .i64 (x_9.2.1:Int)) x_33.2.1∧slM (.int .i64 (x_9.1.length:Int)) x_33.1.length)∧aJ [AV.str key,.int .u16 u,.int
 IntKind.u16 fi,.lst 0 l n 1,.int .u32 ss]∧aJ [AV.str (aKM key),.str (bKM key),.str (cKM key),.lst 0 (aB (hKM u)) (hKM u).length 1,.lst 0 (trM x_7.2.2) x_7.2.2.length 3,.int .i64 0,.int .i64 0,.int
 IntKind.i64 (-1),.int .u64 0]∧[AV.str (aKM key),.str (bKM key),.str (cKM key),.lst 0 (aB hid_25) hid_25.length 1,.lst 0 (trM [t_30]) 1 3,.int .i64 0,.int .i64 0,.int .i64 (-1),.int .u64 0]
 = [AV.str (aKM key),.str (bKM key),.str (cKM key),.lst 0 (aB hid_25) hid_25.length 1,.lst 0 (trM x_33.2.2.1) x_33.2.2.1.length 3,.int .i64 0,.int .i64 0,.int .i64 (-1),.int .u64 0]∧aJ [AV.str
 (aKM key),.str (bKM key),.str (cKM key),.lst 0 (aB hid_25) hid_25.length 1,.lst 0 (trM [t_30]) 1 3,.int .i64 0,.int .i64 0,.int .i64 (-1),.int .u64 0]∧AV.lst 0 (bS key u x_9.1) x_9.1.length 1 =
 AV.lst 0 (bS key u x_33.1) x_33.1.length 1∧AV.int .i64 n_32=AV.int .i64 ((x_33.2.1+1:Nat):Int)∧AV.int .i64 (x_9.1.length:Int)=AV.int .i64 (x_33.1.length:Int)∧aJ (AV.ptr 2 9 0)∧AV.lst 0 (((bS key u x_9.1).drop
 0).take ((n_31.toNat-0)*1)) (n_31.toNat-0) 1=AV.lst 0 (bS key u (x_33.1.take (x_33.2.1+1))) (x_33.2.1+1) 1∧AV.lst 0 (bS key u x_9.1) x_9.1.length 1=AV.lst 0 (bS key u x_33.1) x_33.1.length 1∧AV.lst 0 (bK
 x_9.1) x_9.1.length 9=AV.lst 0 (bK x_33.1) x_33.1.length 9∧AV.int .i64 0=AV.int .i64 (x_33.2.2.2:Int)∧AV.int .i64 (x_9.2.1:Int)=AV.int .i64 (x_33.2.1:Int)∧True)∧∀x_33:List (Int×Nat)×Nat×List Tr×Nat,Lf
 (aCi x_33.1 x_33.2.1 x_33.2.2.1 x_33.2.2.2∧slM (.int .i64 (x_9.2.1:Int)) x_33.2.1∧slM (.int .i64 (x_9.1.length:Int)) x_33.1.length)→bif decide ((x_33.2.2.2:Int)<((x_33.2.1+1:Nat):Int)) then ckQ (Nat.blt
 (x_33.2.2.2:Int).toNat (x_33.2.1+1)&&true) (ckQ (Nat.blt ((x_33.2.2.2:Int).toNat*1) (bS key u (x_33.1.take (x_33.2.1+1))).length) (exS ((bS key u (x_33.1.take (x_33.2.1+1))).getD ((x_33.2.2.2:Int).toNat*1) AV.undef)
 (fun s_34=>∃hid_35 S_36:List Int,∃w_37:List Tr,∃z_38:Int,∃k_39:Nat,Lf (aX2 (aKM key) (bKM key) (cKM key) (aB hid_25) hid_25.length (trM x_33.2.2.1) x_33.2.2.1.length s_34 hid_35 S_36 w_37 z_38 k_39)∧(Lf
 (Membership.mem S_36 z_38∧([]:List AV)=[]∧([]:List AV)=[])∧exW .i64 ((x_33.2.2.2:Int)+1) (fun n_40=>(True∧(0:Nat)=(0:Nat))∧∃y_41:List (Int×Nat)×Nat×List Tr×Nat,Lf (aCi y_41.1 y_41.2.1
 y_41.2.2.1 y_41.2.2.2∧slM (.int .i64 (x_9.2.1:Int)) y_41.2.1∧slM (.int .i64 (x_9.1.length:Int)) y_41.1.length)∧1000-y_41.2.2.2<1000-x_33.2.2.2∧aJ [AV.str key,.int .u16 u,.int .u16 fi,.lst
 0 l n 1,.int .u32 ss]∧aJ [AV.str (aKM key),.str (bKM key),.str (cKM key),.lst 0 (aB (hKM u)) (hKM u).length 1,.lst 0 (trM x_7.2.2) x_7.2.2.length 3,.int .i64 0,.int .i64 0,.int .i64 (-1),.int
 IntKind.u64 0]∧[AV.str (aKM key),.str (bKM key),.str (cKM key),.lst 0 (aB hid_25) hid_25.length 1,.lst 0 (trM x_33.2.2.1) x_33.2.2.1.length 3,.int .i64 0,.int .i64 0,.int .i64 (-1),.int .u64 0] =
 [AV.str (aKM key),.str (bKM key),.str (cKM key),.lst 0 (aB hid_25) hid_25.length 1,.lst 0 (trM y_41.2.2.1) y_41.2.2.1.length 3,.int .i64 0,.int .i64 0,.int .i64 (-1),.int .u64 0]∧aJ [AV.str (aKM
 key),.str (bKM key),.str (cKM key),.lst 0 (aB hid_25) hid_25.length 1,.lst 0 (trM [t_30]) 1 3,.int .i64 0,.int .i64 0,.int .i64 (-1),.int .u64 0]∧AV.lst 0 (bS key u x_33.1) x_33.1.length 1 =
 AV.lst 0 (bS key u y_41.1) y_41.1.length 1∧AV.int .i64 ((x_33.2.1+1:Nat):Int)=AV.int .i64 ((y_41.2.1+1:Nat):Int)∧AV.int .i64 (x_33.1.length:Int)=AV.int .i64 (y_41.1.length:Int)∧aJ (AV.ptr 2 9 0)∧AV.lst 0
 (bS key u (x_33.1.take (x_33.2.1+1))) (x_33.2.1+1) 1=AV.lst 0 (bS key u (y_41.1.take (y_41.2.1+1))) (y_41.2.1+1) 1∧AV.lst 0 (bS key u x_33.1) x_33.1.length 1=AV.lst 0 (bS key u y_41.1) y_41.1.length 1∧AV.lst 0
 (bK x_33.1) x_33.1.length 9=AV.lst 0 (bK y_41.1) y_41.1.length 9∧AV.int .i64 n_40=AV.int .i64 (y_41.2.2.2:Int)∧AV.int .i64 (x_33.2.1:Int)=AV.int .i64 (y_41.2.1:Int)∧True)∨Lf (¬Membership.mem S_36 z_38∧k_39%4 =
 0∧[AV.bool false,.int .i64 0,.int .i64 0,.int .i64 0,.int .i64 0,.lst 0 [] 0 1,.lst 0 [] 0 2,.int .i64 0,.str []]=pkM (z_38%65536) k_39)∧∀t_40:Tr,Lf (t_40=jH w_37 z_38)→Q (.ret
 (.bool false)) [] {})))) else exW .i64 ((x_33.2.1:Int)+1) (fun n_34=>(True∧(0:Nat)=(0:Nat))∧∃y_35:List (Int×Nat)×Nat×List Tr,Lf (aFk y_35.1 y_35.2.1 y_35.2.2)∧y_35.1.length-y_35.2.1<x_9.1.length -
 x_9.2.1∧aJ [AV.str key,.int .u16 u,.int .u16 fi,.lst 0 l n 1,.int .u32 ss]∧aJ [AV.str (aKM key),.str (bKM key),.str (cKM key),.lst 0 (aB (hKM u)) (hKM u).length 1,.lst 0 (trM x_7.2.2) x_7.2.2.length
 3,.int .i64 0,.int .i64 0,.int .i64 (-1),.int .u64 0]∧[AV.str (aKM key),.str (bKM key),.str (cKM key),.lst 0 (aB hid_25) hid_25.length 1,.lst 0 (trM x_33.2.2.1) x_33.2.2.1.length 3,.int
 IntKind.i64 0,.int .i64 0,.int .i64 (-1),.int .u64 0]=[AV.str (aKM key),.str (bKM key),.str (cKM key),.lst 0 (aB (hKM u)) (hKM u).length 1,.lst 0 (trM y_35.2.2) y_35.2.2.length 3,.int .i64 0,.int
 IntKind.i64 0,.int .i64 (-1),.int .u64 0]∧AV.lst 0 (bS key u x_33.1) x_33.1.length 1=AV.lst 0 (bS key u y_35.1) y_35.1.length 1∧AV.int .i64 (x_33.1.length:Int)=AV.int .i64 (y_35.1.length:Int)∧aJ
 (AV.ptr 2 9 0)∧AV.lst 0 (bS key u x_33.1) x_33.1.length 1=AV.lst 0 (bS key u y_35.1) y_35.1.length 1∧AV.lst 0 (bK x_33.1) x_33.1.length 9=AV.lst 0 (bK y_35.1) y_35.1.length 9∧AV.int .i64 n_34=AV.int .i64 (y_35.2.1 :
 Int)∧True))))))))))) else Q (.ret (.bool true)) [] {})))))))):=by kernel_rfl

end Go.Proofs.YtnhechnaemmdiaaGreatDoor

/-
  Chapter 24: Draft: reception.
-/
import Derived.Test.YtafchcmemeinlaaDoorC24XS
set_option linter.unusedSimpArgs false
set_option linter.unusedVariables false
set_option linter.unusedSectionVars false
namespace Go.Proofs.YtafchcmemeinlaaDoor
open Go.RowKit
set_option maxRecDepth 1000000

def sO (n:Int):Rc:=(n,n%256,n%16777216-8388608,n/3,n%1000,n/7,n%65536)
theorem bFf {n:Int} (h:0≤n∧n<4294967296):fH (sO n)=true:=by
 rw[fH,decide_eq_true_eq]
 dsimp only[sO]
 refine ⟨?_, ?_, ?_, ?_, ?_, ?_, ?_⟩<;>omega
noncomputable def aIb (hv:Nat→Option Pa) (hb:Nat→Option Bool) (n:Int) (Q:Out→List Blk→Gh→Prop):Prop:=
 bH (e24 sm0 (fun _=>none) hv hb) (wpx (e24 sm0 (fun _=>none) hv hb) 1000) 56 [.int .u32 n] [] {} Q
theorem bPn (n:Int) (Q:Out→List Blk→Gh→Prop):aIb (bG [(229381,.int .i64),(229384,.int .i64),(229386,.int .i64),(229387,.int .i64),(229389,.int .i64),(229391,.int .i64),(229393,.int .i64),(229395,.int .i64)]) (bF []) n Q=(
(∃n_0:Int,(((AV.int .i64 (IntKind.wrap .i64 n))=(AV.int .i64 n_0)) ∧
 (∃n_1:Int,(((AV.int .i64 (Int.tmod n_0 (256:Int)))=(AV.int .i64 n_1)) ∧
 (∃n_2:Int,(((AV.int .i64 (Int.tmod n_0 (16777216:Int)))=(AV.int .i64 n_2)) ∧
 (∃n_3:Int,(((AV.int .i64 (IntKind.wrap .i64 (n_2-(8388608:Int))))=(AV.int .i64 n_3)) ∧
 (∃n_4:Int,(((AV.int .i64 (IntKind.wrap .i64 (Int.tdiv n_0 (3:Int))))=(AV.int .i64 n_4)) ∧
 (∃n_5:Int,(((AV.int .i64 (Int.tmod n_0 (1000:Int)))=(AV.int .i64 n_5)) ∧
 (∃n_6:Int,(((AV.int .i64 (IntKind.wrap .i64 (Int.tdiv n_0 (7:Int))))=(AV.int .i64 n_6)) ∧
 (∃n_7:Int,(((AV.int .i64 (Int.tmod n_0 (65536:Int)))=(AV.int .i64 n_7)) ∧
 (Q (Out.ret (AV.agg ((AV.int .i64 n_0)::((AV.int .i64 n_1)::((AV.int .i64 n_3)::((AV.int .i64 n_4)::((AV.int .i64 n_5)::((AV.int .i64 n_6)::((AV.int .i64 n_7)::[]))))))))) [] (Gh.mk (0:Nat) (0:Nat) []))))))))))))))))))):=by kernel_rfl

theorem bEu (n:Int) (hn:0≤n∧n<4294967296) (Q:Out→List Blk→Gh→Prop) (hq:Q (.ret (.agg (oW (sO n)))) [] {}):∃hv hb,aIb hv hb n Q:=by
 obtain ⟨hv,hb',e⟩:∃hv hb,aIb hv hb n Q=_:=⟨_,_,bPn n Q⟩
 refine ⟨hv,hb',e.mpr ?_⟩
 clear e
 have t1:n.tmod 256=n%256:=Int.tmod_eq_emod_of_nonneg hn.1
 have t2:n.tmod 16777216=n%16777216:=Int.tmod_eq_emod_of_nonneg hn.1
 have t3:n.tdiv 3=n/3:=Int.tdiv_eq_ediv_of_nonneg hn.1
 have t4:n.tmod 1000=n%1000:=Int.tmod_eq_emod_of_nonneg hn.1
 have t5:n.tdiv 7=n/7:=Int.tdiv_eq_ediv_of_nonneg hn.1
 have t6:n.tmod 65536=n%65536:=Int.tmod_eq_emod_of_nonneg hn.1
 refine aC (by omega) (by omega) ?_
 rw[t1,t2,t3,t4,t5,t6]
 exact ⟨_,rfl,_,rfl,aC (by omega) (by omega) (aC (by omega) (by omega) ⟨_,rfl,aC (by omega) (by omega) ⟨_,rfl,hq⟩⟩)⟩
def bOr:Con
 | [.int .u32 n],H,K=>Lf (0≤n∧n<4294967296)∧K (.ret (.agg (oW (sO n)))) H
 | _,_,_=>False
theorem bAw:aO Tryd.prog glC 56 bOr:=by
 refine bE (enters_of (by kernel_rfl)) aV fun args H Q hc => ?_
 unfold bOr at hc
 split at hc
 ·rename_i n
  obtain ⟨⟨h1⟩,hq⟩:=hc
  obtain ⟨hv,hb',h⟩:=bEu n h1 (fun o H' _=>H'=[]∧(∃v,o=.ret v∧old 0 v=true∧noY v=true)∧Q o H) ⟨rfl,⟨_,rfl,rfl,rfl⟩,hq⟩
  exact ⟨rfl,rfl,_,1000,aS fB _ _ _,rfl,h⟩
 ·exact hc.elim
end Go.Proofs.YtafchcmemeinlaaDoor

set_option linter.unusedSimpArgs false
set_option linter.unusedVariables false
set_option linter.unusedSectionVars false
namespace Go.Proofs.YtafchcmemeinlaaDoor
open Go.RowKit
set_option maxRecDepth 1000000

def bM (l:List Int):List AV:=l.map (AV.int .u32)
def bN (l:List Int):List AV:=l.map (AV.int .u16)
structure Pc where
 k:Int
 n0:Int
 n1:Int
 n2:Int
 n3:Int
 n4:Int
 n5:Int
 tr:Nat
 rs:List Int
 tl:Nat
 ls:List Int
 m:Int
def pcC (p:Pc):List AV:=[.int .u8 p.k,.int .u32 p.n0,.int .u32 p.n1,.int .u32 p.n2,.int .u32 p.n3,.int .u32 p.n4,.int .u32 p.n5,.lst p.tr (bM p.rs) p.rs.length 1,.lst p.tl (bN p.ls) p.ls.length 1,.int .u64 p.m]
def bPo:SM:=gH [(56,bOr)]
theorem rW:∀f g,bPo f=some g→aO Tryd.prog glC f g:=bW _ (by simp only[List.mem_cons,List.not_mem_nil,or_false,forall_eq];exact bAw)
def bBj (rs:List Int) (s:S):List (List LInv):=match s.hp with
 | [b0,b1,⟨k,f,[c0,c1,c2,c3,c4,c5,c6,c7,_,c9,c10,c11,c12]⟩]=>[[
  { α:=Nat,pre:=fun i=>Lf (i=0),st:=fun i=>⟨mkT [(1,s.tm.get 1),(2,.ptr 0 10 0),(4,.ptr 1 13 0),(5,.ptr 2 13 0),(6,.int .i64 (i:Nat))],s.hp⟩,mu:=fun i=>rs.length+1 },
  { α:=Nat×List AV,pre:=fun x=>Lf (1≤x.1∧x.1≤rs.length∧x.1≤6),st:=fun x=>⟨mkT [(1,s.tm.get 1),(2,.ptr 0 10 0),(4,.ptr 1 13 0),(5,.ptr 2 13 0),(6,.int .i64 (x.1:Nat))],[b0,b1,⟨k,false,[c0,c1,c2,c3,c4,c5,c6,c7,.sl 4 (7*x.1) 0 x.1 7,c9,c10,c11,c12]⟩,⟨.exact,true,x.2⟩,⟨.grow,true,aF ((rs.take x.1).map sO)⟩]⟩,mu:=fun x=>rs.length-x.1 }]]
 | _=>[]
noncomputable def aAm (hv:Nat→Option Pa) (hb:Nat→Option Bool) (p:Pc):Env:=e24 bPo (fun i=>bif Nat.beq i 36001 then some (bBj p.rs) else none) hv hb
noncomputable def bL0 (κ:Int) (hv:Nat→Option Pa) (hb:Nat→Option Bool) (p:Pc) (Q:Out→List Blk→Gh→Prop):Prop:=bH (aAm hv hb p) (wpx (aAm hv hb p) 1000) 36 [.agg (pcC p),.int .i64 κ] [] {} Q
noncomputable def wV (hv:Nat→Option Pa) (hb:Nat→Option Bool) (p:Pc) (Q:Out→List Blk→Gh→Prop):Prop:=bL0 1 hv hb p Q
noncomputable def vN (hv:Nat→Option Pa) (hb:Nat→Option Bool) (p:Pc) (Q:Out→List Blk→Gh→Prop):Prop:=bL0 2 hv hb p Q
noncomputable def xS (hv:Nat→Option Pa) (hb:Nat→Option Bool) (p:Pc) (Q:Out→List Blk→Gh→Prop):Prop:=bL0 3 hv hb p Q
noncomputable def xN (hv:Nat→Option Pa) (hb:Nat→Option Bool) (p:Pc) (Q:Out→List Blk→Gh→Prop):Prop:=bL0 5 hv hb p Q
def vP (p:Pc):Prop:=(
((((AV.int .u8 (p).1)::((AV.int .u32 (p).2)::((AV.int .u32 (p).3)::((AV.int .u32 (p).4)::((AV.int .u32 (p).5)::((AV.int .u32 (p).6)::((AV.int .u32 (p).7)::((AV.lst (p).8 (bM (p).9) (List.length (p).9) (1:Nat))::((AV.lst (p).10 (bN (p).11) (List.length (p).11) (1:Nat))::((AV.int .u64 (p).12)::[]))))))))))=((AV.int .u8 (p).1)::((AV.int .u32 (p).2)::((AV.int .u32 (p).3)::((AV.int .u32 (p).4)::((AV.int .u32 (p).5)::((AV.int .u32 (p).6)::((AV.int .u32 (p).7)::((AV.lst (p).8 (bM (p).9) (List.length (p).9) (1:Nat))::((AV.lst (p).10 (bN (p).11) (List.length (p).11) (1:Nat))::((AV.int .u64 (p).12)::[]))))))))))) ∧
 ((((AV.int .i64 (0:Int))::((AV.int .i64 (0:Int))::((AV.int .i64 (0:Int))::((AV.int .i64 (0:Int))::((AV.int .i64 (0:Int))::((AV.int .i64 (0:Int))::((AV.int .i64 (0:Int))::((AV.int .i64 (0:Int))::(AV.nils::(AV.nils::((AV.int .i64 (0:Int))::((AV.int .i64 (0:Int))::(AV.nils::[])))))))))))))=((AV.int .i64 (0:Int))::((AV.int .i64 (0:Int))::((AV.int .i64 (0:Int))::((AV.int .i64 (0:Int))::((AV.int .i64 (0:Int))::((AV.int .i64 (0:Int))::((AV.int .i64 (0:Int))::((AV.int .i64 (0:Int))::(AV.nils::(AV.nils::((AV.int .i64 (0:Int))::((AV.int .i64 (0:Int))::(AV.nils::[])))))))))))))) ∧
 False)))
abbrev nL (p:Pc) (n_6:Int) (Q:Out→List Blk→Gh→Prop) (n_1:Int) (x_2:Nat×List AV):Prop:=
AV.int .u32 p.3=AV.int .u32 n_6∧exW .i64 n_6 fun n_7=>exI .u32 p.4 fun n_8=>exW .i64 n_8 fun n_9=>exI .u32 p.5 fun n_10=>exW .i64 n_10 fun n_11=>exI .u32 p.6 fun n_12=>exW .i64 n_12 fun n_13=>exI .u32 p.7 fun n_14=>exW
 .i64 n_14 fun n_15=>Q (.ret (.agg [.int .i64 1,.int .i64 n_1,.int .i64 0,.int .i64 n_7,.int .i64 n_9,.int .i64 n_11,.int .i64 n_13,.int .i64 n_15,.sl 4 (7*x_2.1) 0 x_2.1 7,.nils,.int .i64 0,.int .i64 0,.nils])) [Blk.mk
 BK.exact true [.int .u8 p.1,.int .u32 p.2,.int .u32 p.3,.int .u32 p.4,.int .u32 p.5,.int .u32 p.6,.int .u32 p.7,.lst p.8 (bM p.9) p.9.length 1,.lst p.10 (bN p.11) p.11.length 1,.int .u64 p.12],Blk.mk BK.exact false
 [.int .i64 1,.int .i64 n_1,.int .i64 0,.int .i64 n_7,.int .i64 n_9,.int .i64 n_11,.int .i64 n_13,.int .i64 n_15,.sl 4 (7*x_2.1) 0 x_2.1 7,.nils,.int .i64 0,.int .i64 0,.nils],Blk.mk BK.exact false [.int .i64 1,.int .i64
 n_1,.int .i64 0,.int .i64 n_7,.int .i64 n_9,.int .i64 n_11,.int .i64 n_13,.int .i64 n_15,.sl 4 (7*x_2.1) 0 x_2.1 7,.nils,.int .i64 0,.int .i64 0,.nils],Blk.mk BK.exact true x_2.2,Blk.mk BK.grow true (aF (List.map sO
 (p.9.take x_2.1)))] {}
abbrev nO (p:Pc) (n_6:Int) (Q:Out→List Blk→Gh→Prop) (n_1:Int):Prop:=
AV.int .u32 p.3=AV.int .u32 n_6∧exW .i64 n_6 fun n_7=>exI .u32 p.4 fun n_8=>exW .i64 n_8 fun n_9=>exI .u32 p.5 fun n_10=>exW .i64 n_10 fun n_11=>exI .u32 p.6 fun n_12=>exW .i64 n_12 fun n_13=>exI .u32 p.7 fun n_14=>exW
 .i64 n_14 fun n_15=>Q (.ret (.agg [.int .i64 1,.int .i64 n_1,.int .i64 0,.int .i64 n_7,.int .i64 n_9,.int .i64 n_11,.int .i64 n_13,.int .i64 n_15,.nils,.nils,.int .i64 0,.int .i64 0,.nils])) [] {}
abbrev aZa (p:Pc):Prop:=aK [AV.int .u8 p.1,.int .u32 p.2,.int .u32 p.3,.int .u32 p.4,.int .u32 p.5,.int .u32 p.6,.int .u32 p.7,.lst p.8 (bM p.9) p.9.length 1,.lst p.10 (bN p.11) p.11.length 1,.int .u64 p.12]
abbrev aZf:Prop:=aK [AV.int .i64 0,.int .i64 0,.int .i64 0,.int .i64 0,.int .i64 0,.int .i64 0,.int .i64 0,.int .i64 0,.nils,.nils,.int .i64 0,.int .i64 0,.nils]
abbrev aUp (x_2:Nat):Prop:=aK (AV.ptr 2 13 0)∧aK (AV.ptr 0 10 0)∧aK (AV.ptr 1 13 0)∧AV.int .i64 0=AV.int .i64 (x_2:Int)∧True
abbrev aTg (x_2:Nat×List AV) (p:Pc):Prop:=Lf (1≤x_2.1∧x_2.1≤(Pc.rs p).length∧x_2.1≤6)
abbrev bGb (n_6:Int) (p:Pc):Bool:=decide (0≤n_6)&&Nat.blt n_6.toNat p.9.length&&true
abbrev aL9 (n_6:Int) (p:Pc):Bool:=Nat.blt (n_6.toNat*1) (bM p.9).length
abbrev aK8 (p:Pc) (n_6:Int):AV:=(bM p.9).getD (n_6.toNat*1) AV.undef
abbrev aMh (n_7:Int):Prop:=Lf (0≤n_7∧n_7<4294967296)
abbrev aMm:Prop:=True∧(0:Nat)=(0:Nat)
abbrev bNx (n_1:Int) (y_10:Nat×List AV):List AV:=[.int .i64 1,.int .i64 n_1,.int .i64 0,.int .i64 0,.int .i64 0,.int .i64 0,.int .i64 0,.int .i64 0,.sl 4 (7*y_10.1) 0 y_10.1 7,.nils,.int .i64 0,.int .i64 0,.nils]
abbrev aX4 (n_7:Int):List AV:=[.int .i64 (sO n_7).1,.int .i64 (sO n_7).2.1,.int .i64 (sO n_7).2.2.1,.int .i64 (sO n_7).2.2.2.1,.int .i64 (sO n_7).2.2.2.2.1,.int .i64 (sO n_7).2.2.2.2.2.1,.int .i64 (sO n_7).2.2.2.2.2.2]
abbrev aXo (y_10:Nat×List AV) (p:Pc):List AV:=aF (List.map sO (p.9.take y_10.1))
abbrev bF4 (n_9:Int) (y_10:Nat×List AV):Prop:=aK (AV.ptr 2 13 0)∧aK (AV.ptr 0 10 0)∧aK (AV.ptr 1 13 0)∧AV.int .i64 n_9=AV.int .i64 (y_10.1:Int)∧True
abbrev aMr (x_2:Nat×List AV):AV:=.sl 4 (7*x_2.1) 0 x_2.1 7
abbrev bLp (x_2:Nat×List AV) (p:Pc):Bool:=Nat.beq (aXo x_2 p).length (7*x_2.1)&&true&&Nat.beq (0+x_2.1*7) (7*x_2.1)&&Nat.ble (x_2.1+1) 1099511627776&&Nat.ble ((x_2.1+1)*56) 1099511627776
theorem bDv (p:Pc) (Q:Out→List Blk→Gh→Prop):wV (bG [(147472,.int .u32),(147473,.int .i64),(147486,.int .i64),(147489,.int .i64),(147492,.int .i64),(147501,.int .i64),(147503,.int .u32),(147495,.int
 .i64),(147496,.int .i64),(147512,.int .u32),(147513,.int .i64),(147517,.int .u32),(147518,.int .i64),(147522,.int .u32),(147523,.int .i64),(147527,.int .u32),(147528,.int .i64),(147532,.int .u32),(147533,.int .i64)])
 (bF []) p Q=(exI .u32 p.2 (fun n_0=>exW .i64 n_0 (fun n_1=>((∃x_2:Nat,Lf (x_2=0)∧aZa p∧aZf∧aK [AV.int .i64 1,.int .i64 n_1,.int .i64 0,.int .i64 0,.int .i64 0,.int .i64 0,.int .i64 0,.int .i64 0,.nils,
 .nils,.int .i64 0,.int .i64 0,.nils]∧aK (AV.int .i64 1)∧aUp x_2)∨∃x_2:Nat×List AV,aTg x_2 p∧vP p)∧(∀x_2:Nat,Lf (x_2=0)→exI .i64 (x_2:Int) (fun n_3=>exI .i64 (p.9.length:Int) (fun n_4=>bif
 decide (n_3<n_4) then exI .i64 (x_2:Int) (fun n_5=>bif decide (n_5<6) then exI .i64 (x_2:Int) (fun n_6=>ckQ (bGb n_6 p) (ckQ (aL9 n_6 p) (exV .u32 (aK8 p n_6) (fun n_7=>aMh n_7∧exI .i64 (x_2:Int) (fun n_8=>exW
 .i64 (n_8+1) (fun n_9=>aMm∧((∃y_10:Nat,Lf (y_10=0)∧p.9.length+1<p.9.length+1∧vP p)∨∃y_10:Nat×List AV,aTg y_10 p∧p.9.length-y_10.1<p.9.length+1∧aZa p∧aZf∧[AV.int .i64 1,.int .i64 n_1,
 .int .i64 0,.int .i64 0,.int .i64 0,.int .i64 0,.int .i64 0,.int .i64 0,.sl 4 7 0 1 7,.nils,.int .i64 0,.int .i64 0,.nils]=bNx n_1 y_10∧aX4 n_7=y_10.2∧aX4 n_7=aXo y_10 p∧aK (AV.int .i64 1)∧bF4 n_9 y_10)))))))
 else ∃n_6:Int,nO p n_6 Q n_1) else ∃n_5:Int,nO p n_5 Q n_1)))∧∀x_2:Nat×List AV,aTg x_2 p→exI .i64 (x_2.1:Int) (fun n_3=>exI .i64 (p.9.length:Int) (fun n_4=>bif decide (n_3<n_4) then exI .i64
 (x_2.1:Int) (fun n_5=>bif decide (n_5<6) then exI .i64 (x_2.1:Int) (fun n_6=>ckQ (bGb n_6 p) (ckQ (aL9 n_6 p) (exV .u32 (aK8 p n_6) (fun n_7=>aMh n_7∧ckQ (bK [aMr x_2] [aMr x_2]&&true) (ckQ (bLp x_2 p) (exI
 .i64 (x_2.1:Int) (fun n_8=>exW .i64 (n_8+1) (fun n_9=>aMm∧((∃y_10:Nat,Lf (y_10=0)∧p.9.length+1<p.9.length-x_2.1∧vP p)∨∃y_10:Nat×List AV,aTg y_10 p∧p.9.length-y_10.1<p.9.length-x_2.1 ∧
 aZa p∧aZf∧[AV.int .i64 1,.int .i64 n_1,.int .i64 0,.int .i64 0,.int .i64 0,.int .i64 0,.int .i64 0,.int .i64 0,.sl 4 (7*x_2.1+7) 0 (x_2.1+1) 7,.nils,.int .i64 0,.int .i64 0,.nils]=bNx n_1 y_10∧x_2.2=y_10.2 ∧
 aXo x_2 p++aX4 n_7=aXo y_10 p∧aK (AV.int .i64 1)∧bF4 n_9 y_10))))))))) else ∃n_6:Int,nL p n_6 Q n_1 x_2) else ∃n_5:Int,nL p n_5 Q n_1 x_2))))):=by kernel_rfl

def yN (p:Pc):Prop:=(
((((AV.int .u8 (p).1)::((AV.int .u32 (p).2)::((AV.int .u32 (p).3)::((AV.int .u32 (p).4)::((AV.int .u32 (p).5)::((AV.int .u32 (p).6)::((AV.int .u32 (p).7)::((AV.lst (p).8 (bM (p).9) (List.length (p).9) (1:Nat))::((AV.lst (p).10 (bN (p).11) (List.length (p).11) (1:Nat))::((AV.int .u64 (p).12)::[]))))))))))=((AV.int .u8 (p).1)::((AV.int .u32 (p).2)::((AV.int .u32 (p).3)::((AV.int .u32 (p).4)::((AV.int .u32 (p).5)::((AV.int .u32 (p).6)::((AV.int .u32 (p).7)::((AV.lst (p).8 (bM (p).9) (List.length (p).9) (1:Nat))::((AV.lst (p).10 (bN (p).11) (List.length (p).11) (1:Nat))::((AV.int .u64 (p).12)::[]))))))))))) ∧
 ((((AV.int .i64 (0:Int))::((AV.int .i64 (0:Int))::((AV.int .i64 (0:Int))::((AV.int .i64 (0:Int))::((AV.int .i64 (0:Int))::((AV.int .i64 (0:Int))::((AV.int .i64 (0:Int))::((AV.int .i64 (0:Int))::(AV.nils::(AV.nils::((AV.int .i64 (0:Int))::((AV.int .i64 (0:Int))::(AV.nils::[])))))))))))))=((AV.int .i64 (0:Int))::((AV.int .i64 (0:Int))::((AV.int .i64 (0:Int))::((AV.int .i64 (0:Int))::((AV.int .i64 (0:Int))::((AV.int .i64 (0:Int))::((AV.int .i64 (0:Int))::((AV.int .i64 (0:Int))::(AV.nils::(AV.nils::((AV.int .i64 (0:Int))::((AV.int .i64 (0:Int))::(AV.nils::[])))))))))))))) ∧
 False)))
abbrev nW (Q:Out→List Blk→Gh→Prop) (n_1:Int) (x_2:Nat×List AV) (p:Pc):Prop:=
Q (.ret (.agg [.int .i64 2,.int .i64 n_1,.int .i64 0,.int .i64 0,.int .i64 0,.int .i64 0,.int .i64 0,.int .i64 0,.sl 4 (7*x_2.1) 0 x_2.1 7,.nils,.int .i64 0,.int .i64 0,.nils])) [Blk.mk BK.exact true [.int .u8 p.1,.int .u32
 p.2,.int .u32 p.3,.int .u32 p.4,.int .u32 p.5,.int .u32 p.6,.int .u32 p.7,.lst p.8 (bM p.9) p.9.length 1,.lst p.10 (bN p.11) p.11.length 1,.int .u64 p.12],Blk.mk BK.exact false [.int .i64 2,.int .i64 n_1,.int .i64 0,
 .int .i64 0,.int .i64 0,.int .i64 0,.int .i64 0,.int .i64 0,.sl 4 (7*x_2.1) 0 x_2.1 7,.nils,.int .i64 0,.int .i64 0,.nils],Blk.mk BK.exact false [.int .i64 2,.int .i64 n_1,.int .i64 0,.int .i64 0,.int .i64 0,.int .i64 0,
 .int .i64 0,.int .i64 0,.sl 4 (7*x_2.1) 0 x_2.1 7,.nils,.int .i64 0,.int .i64 0,.nils],Blk.mk BK.exact true x_2.2,Blk.mk BK.grow true (aF (List.map sO (p.9.take x_2.1)))] {}
abbrev bEv (n_1:Int) (y_10:Nat×List AV):List AV:=[.int .i64 2,.int .i64 n_1,.int .i64 0,.int .i64 0,.int .i64 0,.int .i64 0,.int .i64 0,.int .i64 0,.sl 4 (7*y_10.1) 0 y_10.1 7,.nils,.int .i64 0,.int .i64 0,.nils]
abbrev bPx (n_1:Int):Out:=.ret (.agg [.int .i64 2,.int .i64 n_1,.int .i64 0,.int .i64 0,.int .i64 0,.int .i64 0,.int .i64 0,.int .i64 0,.nils,.nils,.int .i64 0,.int .i64 0,.nils])
theorem bAi (p:Pc) (Q:Out→List Blk→Gh→Prop):vN (bG [(147472,.int .u32),(147473,.int .i64),(147486,.int .i64),(147489,.int .i64),(147492,.int .i64),(147501,.int .i64),(147503,.int .u32),(147495,.int
 .i64),(147496,.int .i64)]) (bF []) p Q=(exI .u32 p.2 (fun n_0=>exW .i64 n_0 (fun n_1=>((∃x_2:Nat,Lf (x_2=0)∧aZa p∧aZf∧aK [AV.int .i64 2,.int .i64 n_1,.int .i64 0,.int .i64 0,.int .i64 0,.int .i64 0,.int
 .i64 0,.int .i64 0,.nils,.nils,.int .i64 0,.int .i64 0,.nils]∧aK (AV.int .i64 2)∧aUp x_2)∨∃x_2:Nat×List AV,aTg x_2 p∧yN p)∧(∀x_2:Nat,Lf (x_2=0)→exI .i64 (x_2:Int) (fun n_3=>exI .i64 (p.9.length
 : Int) (fun n_4=>bif decide (n_3<n_4) then exI .i64 (x_2:Int) (fun n_5=>bif decide (n_5<6) then exI .i64 (x_2:Int) (fun n_6=>ckQ (bGb n_6 p) (ckQ (aL9 n_6 p) (exV .u32 (aK8 p n_6) (fun n_7=>aMh n_7∧exI .i64 (x_2 :
 Int) (fun n_8=>exW .i64 (n_8+1) (fun n_9=>aMm∧((∃y_10:Nat,Lf (y_10=0)∧p.9.length+1<p.9.length+1∧yN p)∨∃y_10:Nat×List AV,aTg y_10 p∧p.9.length-y_10.1<p.9.length+1∧aZa p∧aZf∧[AV.int
 .i64 2,.int .i64 n_1,.int .i64 0,.int .i64 0,.int .i64 0,.int .i64 0,.int .i64 0,.int .i64 0,.sl 4 7 0 1 7,.nils,.int .i64 0,.int .i64 0,.nils]=bEv n_1 y_10∧aX4 n_7=y_10.2∧aX4 n_7=aXo y_10 p∧aK (AV.int .i64
 2)∧bF4 n_9 y_10))))))) else Q (bPx n_1) [] {}) else Q (bPx n_1) [] {})))∧∀x_2:Nat×List AV,aTg x_2 p→exI .i64 (x_2.1:Int) (fun n_3=>exI .i64 (p.9.length:Int) (fun n_4=>bif decide (n_3<n_4) then exI .i64 (x_2.1 :
 Int) (fun n_5=>bif decide (n_5<6) then exI .i64 (x_2.1:Int) (fun n_6=>ckQ (bGb n_6 p) (ckQ (aL9 n_6 p) (exV .u32 (aK8 p n_6) (fun n_7=>aMh n_7∧ckQ (bK [aMr x_2] [aMr x_2]&&true) (ckQ (bLp x_2 p) (exI .i64
 (x_2.1:Int) (fun n_8=>exW .i64 (n_8+1) (fun n_9=>aMm∧((∃y_10:Nat,Lf (y_10=0)∧p.9.length+1<p.9.length-x_2.1∧yN p)∨∃y_10:Nat×List AV,aTg y_10 p∧p.9.length-y_10.1<p.9.length-x_2.1∧aZa p ∧
 aZf∧[AV.int .i64 2,.int .i64 n_1,.int .i64 0,.int .i64 0,.int .i64 0,.int .i64 0,.int .i64 0,.int .i64 0,.sl 4 (7*x_2.1+7) 0 (x_2.1+1) 7,.nils,.int .i64 0,.int .i64 0,.nils]=bEv n_1 y_10∧x_2.2=y_10.2∧aXo x_2
 p++aX4 n_7=aXo y_10 p∧aK (AV.int .i64 2)∧bF4 n_9 y_10))))))))) else nW Q n_1 x_2 p) else nW Q n_1 x_2 p))))):=by kernel_rfl

theorem bEj (p:Pc) (Q:Out→List Blk→Gh→Prop):xS (bG [(147472,.int .u32),(147473,.int .i64)]) (bF []) p Q=(
(∃n_0:Int,(((AV.int .u32 (p).2)=(AV.int .u32 n_0)) ∧
 (∃n_1:Int,(((AV.int .i64 (IntKind.wrap .i64 n_0))=(AV.int .i64 n_1)) ∧
 (Q (Out.ret (AV.agg ((AV.int .i64 (3:Int))::((AV.int .i64 n_1)::((AV.int .i64 (0:Int))::((AV.int .i64 (0:Int))::((AV.int .i64 (0:Int))::((AV.int .i64 (0:Int))::((AV.int .i64 (0:Int))::((AV.int .i64 (0:Int))::(AV.nils::(AV.nils::((AV.int .i64 (0:Int))::((AV.int .i64 (0:Int))::(AV.nils::[]))))))))))))))) [] (Gh.mk (0:Nat) (0:Nat) []))))))):=by kernel_rfl

theorem bDc (p:Pc) (Q:Out→List Blk→Gh→Prop):xN (bG [(147472,.int .u32),(147473,.int .i64),(147479,.int .u32),(147480,.int .i64)]) (bF []) p Q=(
(∃n_0:Int,(((AV.int .u32 (p).2)=(AV.int .u32 n_0)) ∧
 (∃n_1:Int,(((AV.int .i64 (IntKind.wrap .i64 n_0))=(AV.int .i64 n_1)) ∧
 (∃n_2:Int,(((AV.int .u32 (p).3)=(AV.int .u32 n_2)) ∧
 (∃n_3:Int,(((AV.int .i64 (IntKind.wrap .i64 n_2))=(AV.int .i64 n_3)) ∧
 (Q (Out.ret (AV.agg ((AV.int .i64 (5:Int))::((AV.int .i64 n_1)::((AV.int .i64 n_3)::((AV.int .i64 (0:Int))::((AV.int .i64 (0:Int))::((AV.int .i64 (0:Int))::((AV.int .i64 (0:Int))::((AV.int .i64 (0:Int))::(AV.nils::(AV.nils::((AV.int .i64 (0:Int))::((AV.int .i64 (0:Int))::(AV.nils::[]))))))))))))))) [] (Gh.mk (0:Nat) (0:Nat) []))))))))))):=by kernel_rfl


def okP (p:Pc):Prop:=(0≤p.k∧p.k<256)∧gU p.n0∧gU p.n1∧gU p.n2∧gU p.n3∧gU p.n4∧gU p.n5∧(∀x∈p.rs,gU x)∧(∀x∈p.ls,0≤x∧x<65536)∧(0≤p.m∧p.m<18446744073709551616)
def pcK:AV→AV
 | .agg l=>.agg (nlL [0,0,0,0,0,0,0,0,7,1,0,0,1] l)
 | v=>v
theorem bJx (a:AV):wk a (pcK a):=by
 unfold pcK
 split
 ·exact aJe (yZ _ _)
 ·exact sF _
def bMy (v:AV) (H:List Blk):AV:=pcK (dK 0 H 9 v)
def hqP (κ:Int) (Q:Out→List Blk→Gh→Prop):Prop:=∀c,aQ c=true→c.k=κ→∀v H,bMy v H=.agg (ctC c)→Q (.ret v) H {}
theorem bHw {H:List Blk} {k f a s1 s2 s3 s4 s5 ba ro:Int} {acc:List Rc} {n m:Nat} (hH:H[4]? = some ⟨.grow,true,aF acc⟩) (hn:n=7*acc.length) (hm:m=acc.length) :
  bMy (.agg [.int .i64 k,.int .i64 f,.int .i64 a,.int .i64 s1,.int .i64 s2,.int .i64 s3,.int .i64 s4,.int .i64 s5,.sl 4 n 0 m 7,.nils,.int .i64 ba,.int .i64 ro,.nils]) H=.agg (ctC ⟨k,f,a,s1,s2,s3,s4,s5,acc,[],ba,ro,[]⟩):=by
 subst hn hm
 have e:dK 0 H 8 (.sl 4 (7*acc.length) 0 acc.length 7)=.lst 0 (aF acc) acc.length 7:=
  mE (d:=6) hH (bI acc) (by omega) (by simp) (by rw[List.drop_zero];exact List.take_of_length_le (by rw[bI];omega)) (aGf acc)
 show pcK (.agg [.int .i64 k,.int .i64 f,.int .i64 a,.int .i64 s1,.int .i64 s2,.int .i64 s3,.int .i64 s4,.int .i64 s5,dK 0 H 8 (.sl 4 (7*acc.length) 0 acc.length 7),.nils,.int .i64 ba,.int .i64 ro,.nils])=_
 rw[e]
 rfl
theorem aVz {l:List Int} {i m:Nat} (hi:i<l.length) (hm:m=i) {K:Int→Prop} (hk:K l[i]):∃n:Int,(bM l).getD m AV.undef=AV.int .u32 n∧K n:=by
 subst hm
 exact ⟨_,by simp[bM,hi],hk⟩
theorem wW (l:List Int):(bM l).length=l.length:=by simp[bM]
theorem uV {rs:List Int} {i:Nat} (h:i<rs.length):aF ((rs.take (i+1)).map sO)=aF ((rs.take i).map sO)++oW (sO rs[i]):=by
 rw[List.take_add_one,List.getElem?_eq_getElem h,List.map_append]
 simp only[Option.toList_some,List.map_cons,List.map_nil]
 rw[←iT]
theorem aAp {rs:List Int} (h:∀x∈rs,gU x) (i:Nat) (hi:i≤6):dL ((rs.take i).map sO)=true:=by
 simp only[dL,Bool.and_eq_true,decide_eq_true_eq,List.all_eq_true]
 refine ⟨by rw[List.length_map,List.length_take];omega, ?_⟩
 intro r hr
 rw[List.mem_map] at hr
 obtain ⟨x,hx,rfl⟩:=hr
 exact bFf (h x (List.mem_of_mem_take hx))
theorem bAf {p:Pc} (h:okP p) (i:Nat) (hi:i≤6):aQ ⟨2,p.n0,0,0,0,0,0,0,(p.rs.take i).map sO,[],0,0,[]⟩=true:=by
 obtain ⟨h0,h1,h2,h3,h4,h5,h6,h7,h8,h9⟩:=h
 have z:gU 0:=⟨by omega,by omega⟩
 rw[dN]
 dsimp only
 exact ⟨by omega,h1,z,z,z,z,z,z,by omega,by omega,fun _=>rfl,fun _=>⟨rfl,rfl,rfl,rfl,rfl⟩,fun _=>⟨rfl,rfl,rfl⟩,fun hh=>by omega,fun _=>rfl,fun hh=>by omega,aAp h7 i hi,fun hh=>by omega⟩
theorem bDp {p:Pc} (h:okP p) (i:Nat) (hi:i≤6):aQ ⟨1,p.n0,0,p.n1,p.n2,p.n3,p.n4,p.n5,(p.rs.take i).map sO,[],0,0,[]⟩=true:=by
 obtain ⟨h0,h1,h2,h3,h4,h5,h6,h7,h8,h9⟩:=h
 have z:gU 0:=⟨by omega,by omega⟩
 rw[dN]
 dsimp only
 exact ⟨by omega,h1,z,h2,h3,h4,h5,h6,by omega,by omega,fun _=>rfl,fun hh=>absurd rfl hh,fun _=>⟨rfl,rfl,rfl⟩,fun hh=>by omega,fun _=>rfl,fun hh=>by omega,aAp h7 i hi,fun hh=>by omega⟩
theorem bC6 {p:Pc} (h:okP p):aQ ⟨3,p.n0,0,0,0,0,0,0,[],[],0,0,[]⟩=true:=by
 obtain ⟨h0,h1,h2,h3,h4,h5,h6,h7,h8,h9⟩:=h
 have z:gU 0:=⟨by omega,by omega⟩
 rw[dN]
 dsimp only
 exact ⟨by omega,h1,z,z,z,z,z,z,by omega,by omega,fun _=>rfl,fun _=>⟨rfl,rfl,rfl,rfl,rfl⟩,fun _=>⟨rfl,rfl,rfl⟩,fun hh=>rfl,fun _=>rfl,fun hh=>by omega,rfl,fun hh=>by omega⟩
theorem bFb {p:Pc} (h:okP p):aQ ⟨5,p.n0,p.n1,0,0,0,0,0,[],[],0,0,[]⟩=true:=by
 obtain ⟨h0,h1,h2,h3,h4,h5,h6,h7,h8,h9⟩:=h
 have z:gU 0:=⟨by omega,by omega⟩
 rw[dN]
 dsimp only
 exact ⟨by omega,h1,h2,z,z,z,z,z,by omega,by omega,fun hh=>by omega,fun _=>⟨rfl,rfl,rfl,rfl,rfl⟩,fun _=>⟨rfl,rfl,rfl⟩,fun hh=>rfl,fun _=>rfl,fun hh=>by omega,rfl,fun hh=>by omega⟩
theorem bRg (p:Pc) (h:okP p) (Q:Out→List Blk→Gh→Prop) (hq:hqP 3 Q):∃hv hb,xS hv hb p Q:=by
 obtain ⟨hv,hb',e⟩:∃hv hb,xS hv hb p Q=_:=⟨_,_,bEj p Q⟩
 refine ⟨hv,hb',e.mpr ?_⟩
 clear e
 have hv3:=bC6 h
 obtain ⟨h0,h1,h2,h3,h4,h5,h6,h7,h8,h9⟩:=h
 exact ⟨_,rfl,aC (by omega) (by omega) (hq _ hv3 rfl _ _ rfl)⟩
theorem bRh (p:Pc) (h:okP p) (Q:Out→List Blk→Gh→Prop) (hq:hqP 5 Q):∃hv hb,xN hv hb p Q:=by
 obtain ⟨hv,hb',e⟩:∃hv hb,xN hv hb p Q=_:=⟨_,_,bDc p Q⟩
 refine ⟨hv,hb',e.mpr ?_⟩
 clear e
 have hv3:=bFb h
 obtain ⟨h0,h1,h2,h3,h4,h5,h6,h7,h8,h9⟩:=h
 exact ⟨_,rfl,aC (by omega) (by omega) ⟨_,rfl,aC (by omega) (by omega) (hq _ hv3 rfl _ _ rfl)⟩⟩
theorem bQ6 (p:Pc) (h:okP p) (Q:Out→List Blk→Gh→Prop) (hq:hqP 2 Q):∃hv hb,vN hv hb p Q:=by
 obtain ⟨hv,hb',e⟩:∃hv hb,vN hv hb p Q=_:=⟨_,_,bAi p Q⟩
 refine ⟨hv,hb',e.mpr ?_⟩
 delta aZa aZf aUp aTg bGb aL9 aK8 aMh aMm bEv aX4 aXo bF4 bPx aMr bLp
 unfold nW
 clear e
 have hv2:=bAf h
 obtain ⟨h0,h1,h2,h3,h4,h5,h6,h7,h8,h9⟩:=h
 have hc:=wW p.rs
 have ho:∀ (H:List Blk) (i:Nat),i≤p.rs.length→i≤6→H[4]? = some ⟨.grow,true,aF ((p.rs.take i).map sO)⟩→Q (.ret (.agg [.int .i64 2,.int .i64 p.n0,.int .i64 0,.int .i64 0,.int .i64 0,.int .i64 0,.int .i64 0,.int .i64 0,.sl 4 (7*i) 0 i 7,.nils,.int .i64 0,.int .i64 0,.nils])) H {}:=fun H i hi h6 hH=>
  hq _ (hv2 i h6) rfl _ _ (bHw hH (by rw[List.length_map,List.length_take];omega) (by rw[List.length_map,List.length_take];omega))
 have hz:Q (.ret (.agg [.int .i64 2,.int .i64 p.n0,.int .i64 0,.int .i64 0,.int .i64 0,.int .i64 0,.int .i64 0,.int .i64 0,.nils,.nils,.int .i64 0,.int .i64 0,.nils])) [] {}:=hq _ (hv2 0 (by omega)) rfl _ _ rfl
 refine ⟨_,rfl,aC (by omega) (by omega) ⟨.inl ⟨0,⟨rfl⟩,rfl,rfl,rfl,rfl,rfl,rfl,rfl,rfl,trivial⟩, ?_, ?_⟩⟩
 ·rintro i ⟨rfl⟩
  refine ⟨_,rfl,_,rfl,aD (fun h1=>⟨_,rfl,aD (fun h2 => ?_) (fun h2=>hz)⟩) (fun h1=>hz)⟩
  have hlt:0<p.rs.length:=by omega
  refine ⟨_,rfl,ckI (by simp;omega) (ckI (by rw[aL];omega) (aVz hlt rfl ⟨⟨h7 _ (List.getElem_mem hlt)⟩,_,rfl,aC (by omega) (by omega) ⟨⟨trivial,rfl⟩,.inr ⟨(1,oW (sO p.rs[0])),⟨by dsimp only;omega⟩,by dsimp only;omega,rfl,rfl,rfl,rfl,(uV hlt).symm,rfl,rfl,rfl,rfl,rfl,trivial⟩⟩⟩))⟩
 ·rintro ⟨i,z⟩ ⟨g1,g2,g3⟩
  dsimp only at g1 g2 g3 ⊢
  have hl2:=bI ((p.rs.take i).map sO)
  rw[List.length_map,List.length_take,Nat.min_eq_left g2] at hl2
  refine ⟨_,rfl,_,rfl,aD (fun h1=>⟨_,rfl,aD (fun h2 => ?_) (fun h2=>ho _ i g2 g3 rfl)⟩) (fun h1=>ho _ i g2 g3 rfl)⟩
  have hlt:i<p.rs.length:=by omega
  refine ⟨_,rfl,ckI (by simp;omega) (ckI (by rw[aL];omega) (aVz hlt (by omega) ⟨⟨h7 _ (List.getElem_mem hlt)⟩,ckI (by simp[bK,iZ]) (ckI (by rw[hl2];simp;omega) ⟨_,rfl,aC (by omega) (by omega) ⟨⟨trivial,rfl⟩,.inr ⟨(i+1,z),⟨by dsimp only;omega⟩,by dsimp only;omega,rfl,rfl,by simp[Nat.mul_add],rfl,(uV hlt).symm,rfl,rfl,rfl,rfl,rfl,trivial⟩⟩⟩)⟩))⟩
theorem bRl (p:Pc) (h:okP p) (Q:Out→List Blk→Gh→Prop) (hq:hqP 1 Q):∃hv hb,wV hv hb p Q:=by
 obtain ⟨hv,hb',e⟩:∃hv hb,wV hv hb p Q=_:=⟨_,_,bDv p Q⟩
 refine ⟨hv,hb',e.mpr ?_⟩
 delta aZa aZf aUp aTg bGb aL9 aK8 aMh aMm bNx aX4 aXo bF4 aMr bLp
 unfold nL nO
 clear e
 have hv2:=bDp h
 obtain ⟨h0,h1,h2,h3,h4,h5,h6,h7,h8,h9⟩:=h
 have hc:=wW p.rs
 have ho:∀ (H:List Blk) (i:Nat),i≤p.rs.length→i≤6→H[4]? = some ⟨.grow,true,aF ((p.rs.take i).map sO)⟩→Q (.ret (.agg [.int .i64 1,.int .i64 p.n0,.int .i64 0,.int .i64 p.n1,.int .i64 p.n2,.int .i64 p.n3,.int .i64 p.n4,.int .i64 p.n5,.sl 4 (7*i) 0 i 7,.nils,.int .i64 0,.int .i64 0,.nils])) H {}:=fun H i hi h6 hH=>
  hq _ (hv2 i h6) rfl _ _ (bHw hH (by rw[List.length_map,List.length_take];omega) (by rw[List.length_map,List.length_take];omega))
 have hz:Q (.ret (.agg [.int .i64 1,.int .i64 p.n0,.int .i64 0,.int .i64 p.n1,.int .i64 p.n2,.int .i64 p.n3,.int .i64 p.n4,.int .i64 p.n5,.nils,.nils,.int .i64 0,.int .i64 0,.nils])) [] {}:=hq _ (hv2 0 (by omega)) rfl _ _ rfl
 refine ⟨_,rfl,aC (by omega) (by omega) ⟨.inl ⟨0,⟨rfl⟩,rfl,rfl,rfl,rfl,rfl,rfl,rfl,rfl,trivial⟩, ?_, ?_⟩⟩
 ·rintro i ⟨rfl⟩
  have ex:∀ {K:Prop},K→K:=fun h=>h
  refine ⟨_,rfl,_,rfl,aD (fun h1=>⟨_,rfl,aD (fun h2 => ?_) (fun h2=>⟨_,rfl,aC (by omega) (by omega) ⟨_,rfl,aC (by omega) (by omega) ⟨_,rfl,aC (by omega) (by omega) ⟨_,rfl,aC (by omega) (by omega) ⟨_,rfl,aC (by omega) (by omega) hz⟩⟩⟩⟩⟩)⟩) (fun h1=>⟨_,rfl,aC (by omega) (by omega) ⟨_,rfl,aC (by omega) (by omega) ⟨_,rfl,aC (by omega) (by omega) ⟨_,rfl,aC (by omega) (by omega) ⟨_,rfl,aC (by omega) (by omega) hz⟩⟩⟩⟩⟩)⟩
  have hlt:0<p.rs.length:=by omega
  refine ⟨_,rfl,ckI (by simp;omega) (ckI (by rw[aL];omega) (aVz hlt rfl ⟨⟨h7 _ (List.getElem_mem hlt)⟩,_,rfl,aC (by omega) (by omega) ⟨⟨trivial,rfl⟩,.inr ⟨(1,oW (sO p.rs[0])),⟨by dsimp only;omega⟩,by dsimp only;omega,rfl,rfl,rfl,rfl,(uV hlt).symm,rfl,rfl,rfl,rfl,rfl,trivial⟩⟩⟩))⟩
 ·rintro ⟨i,z⟩ ⟨g1,g2,g3⟩
  dsimp only at g1 g2 g3 ⊢
  have hl2:=bI ((p.rs.take i).map sO)
  rw[List.length_map,List.length_take,Nat.min_eq_left g2] at hl2
  refine ⟨_,rfl,_,rfl,aD (fun h1=>⟨_,rfl,aD (fun h2 => ?_) (fun h2=>⟨_,rfl,aC (by omega) (by omega) ⟨_,rfl,aC (by omega) (by omega) ⟨_,rfl,aC (by omega) (by omega) ⟨_,rfl,aC (by omega) (by omega) ⟨_,rfl,aC (by omega) (by omega) (ho _ i g2 g3 rfl)⟩⟩⟩⟩⟩)⟩) (fun h1=>⟨_,rfl,aC (by omega) (by omega) ⟨_,rfl,aC (by omega) (by omega) ⟨_,rfl,aC (by omega) (by omega) ⟨_,rfl,aC (by omega) (by omega) ⟨_,rfl,aC (by omega) (by omega) (ho _ i g2 g3 rfl)⟩⟩⟩⟩⟩)⟩
  have hlt:i<p.rs.length:=by omega
  refine ⟨_,rfl,ckI (by simp;omega) (ckI (by rw[aL];omega) (aVz hlt (by omega) ⟨⟨h7 _ (List.getElem_mem hlt)⟩,ckI (by simp[bK,iZ]) (ckI (by rw[hl2];simp;omega) ⟨_,rfl,aC (by omega) (by omega) ⟨⟨trivial,rfl⟩,.inr ⟨(i+1,z),⟨by dsimp only;omega⟩,by dsimp only;omega,rfl,rfl,by simp[Nat.mul_add],rfl,(uV hlt).symm,rfl,rfl,rfl,rfl,rfl,trivial⟩⟩⟩)⟩))⟩
end Go.Proofs.YtafchcmemeinlaaDoor

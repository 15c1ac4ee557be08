/-
  Chapter 25: the list of packets of a draft.
-/
import Derived.Test.YtnhechnaemmdiaaGreatDoorK25QD
set_option linter.unusedSimpArgs false
set_option linter.unusedVariables false
set_option linter.unusedSectionVars false
namespace Go.Proofs.YtnhechnaemmdiaaGreatDoor
open Go.RowKit
set_option maxRecDepth 1000000

def pksM (l:List (Int×Nat)):List AV:=(l.map fun x=>pkM x.1 x.2).flatten
def pkOk (l:List (Int×Nat)):Prop:=∀x∈l,(0≤x.1∧x.1≤65535)∧x.2<256
def inv_36 (s:S):List (List LInv):=[[
 { α:=Int,pre:=fun q=>Lf (0≤q∧q≤65535),st:=fun q=>⟨mkT [(1,s.tm.get 1),(3,.nils),(4,.int .i64 q),(5,.int .i64 0)],s.hp⟩,mu:=fun _=>16 },
 { α:=Int×List (Int×Nat)×List AV,pre:=fun x=>Lf ((0≤x.1∧x.1≤65535)∧0<x.2.1.length∧x.2.1.length≤16∧pkOk x.2.1),st:=fun x=>⟨mkT [(1,s.tm.get 1),(3,.sl 2 (x.2.1.length*9) 0 x.2.1.length 9),(4,.int .i64 x.1),(5,.int .i64 (x.2.1.length:Nat))],s.hp++[⟨.exact,true,x.2.2⟩,⟨.grow,true,pksM x.2.1⟩]⟩,mu:=fun x=>16-x.2.1.length }]]
def smPk:SM:=lookS [(21,cPacket)]
theorem smPk_ok:∀f g,smPk f=some g→ValidF Tryz.prog gl0 f g:=lookS_ok _ (by simp only[List.mem_cons,List.not_mem_nil,or_false,forall_eq];exact packet_ok)
noncomputable def env_36 (hv:Nat→Option Pa) (hb:Nat→Option Bool):Env := { e04 smPk (fun i=>bif Nat.beq i 36000 then some inv_36 else none) hv hb with hz:=fun k=>Nat.beq k 147505 }
noncomputable def goal_p36 (hv:Nat→Option Pa) (hb:Nat→Option Bool) (key:List UInt8) (w:Nat) (fi:Nat) (ks:List Int) (ss:Nat) (Q:Out→List Blk→Gh→Prop):Prop:=
 callx (env_36 hv hb) (wpx (env_36 hv hb) 1000) 36 [.agg [.str key,.int .u16 (w:Nat),.int .u16 (fi:Nat),.lst 0 (c16M ks) ks.length 1,.int .u32 (ss:Nat)]] [] {} Q
theorem vc_p36 (key:List UInt8) (w:Nat) (fi:Nat) (ks:List Int) (ss:Nat) (Q:Out→List Blk→Gh→Prop):goal_p36 (lookV [(147463,.int .u16),(147464,.int .i64),(147468,.int .i64),(147481,.int .i16),(147482,.int .i64),
 (147483,.int .i64),(147484,.int .i64),(147485,.int .i64),(147489,.int .u32),(147492,.int .u32),(147493,.int .u8),(147494,.int .u8),(147499,.int .i16),(147500,.int .i16),(147501,.int .u8),(147502,.int .u8),(147503,
 .int .u8),(147465,.int .i64),(147471,.int .i64),(147479,.int .i64),(147490,.int .i64),(147491,.int .i64),(147497,.int .i64),(147474,.int .i64),(147475,.int .i64)]) (lookB []) key w fi ks ss Q=(exI .u16 (fi:Int) fun n_0
 => exW .i64 n_0 fun n_1=>((∃x_2:Int,Lf (0≤x_2∧x_2≤65535)∧eqqQ [AV.str key,.int .u16 (w:Int),.int .u16 (fi:Int),.lst 0 (c16M ks) ks.length 1,.int .u32 (ss:Int)]∧eqqQ (AV.ptr 0 5 0)∧AV.nils=AV.nils∧eqqQ
 (AV.int .i64 0)∧AV.int .i64 n_1=AV.int .i64 x_2∧True)∨∃x_2:Int×List (Int×Nat)×List AV,Lf ((0≤x_2.1∧x_2.1≤65535)∧0<x_2.2.1.length∧x_2.2.1.length≤16∧pkOk x_2.2.1)∧eqqQ [AV.str key,.int .u16 (w:Int),
 .int .u16 (fi:Int),.lst 0 (c16M ks) ks.length 1,.int .u32 (ss:Int)]∧False)∧(∀x_2:Int,Lf (0≤x_2∧x_2≤65535)→exI .i64 0 fun n_3=>exI .i64 (ks.length:Int) fun n_4=>bif decide (n_3<n_4) then exI .i64 0 fun n_5=>
 bif decide (n_5<16) then exI .i64 0 fun n_6=>ckQ (decide (0≤n_6)&&Nat.blt n_6.toNat ks.length&&true) (ckQ (Nat.blt (n_6.toNat*1) (c16M ks).length) (exV .i16 ((c16M ks).getD (n_6.toNat*1) AV.undef) fun n_7=>exW .i64 n_7 fun
 n_8=>exW .i64 (x_2+n_8) fun n_9=>exW .i64 (n_9+65536) fun n_10=>exI .i64 (n_10.tmod 65536) fun n_11=>exI .u32 (ss:Int) fun n_12=>exI .i64 0 fun n_13=>exW .i64 (2*n_13) fun n_14=>ckQ (decide (0≤n_14)&&true) (exI
 .u32 (Int.fdiv n_12 ((2:Int)^Min.min n_14.toNat 32)) fun n_15=>exW .u8 n_15 fun n_16=>exI .u8 (n_16.tmod 4) fun n_17=>exI .i64 0 fun n_18=>ckQ (decide (0≤n_18)&&Nat.blt n_18.toNat ks.length&&true) (ckQ (Nat.blt
 (n_18.toNat*1) (c16M ks).length) (exV .i16 ((c16M ks).getD (n_18.toNat*1) AV.undef) fun n_19=>exW .i16 (((n_19%65536).toNat &&& 63:Nat):Int) fun n_20=>exW .u8 n_20 fun n_21=>exW .u8 (4*n_21) fun n_22=>exW .u8 (n_17 +
 n_22) fun n_23=>∃w_24:Nat,Lf (n_23=(w_24:Int)∧(0≤n_11∧n_11≤65535)∧w_24<256)∧∀l_25:List AV,Lf (l_25=pkM n_11 w_24)→∀mk_26:Bool,∀ty_27 sq_28 ti_29 ss_30 pd_31:Int,∀m_32:Nat,∀xs_33:List AV,∀
 pl_34:List UInt8,Lf (l_25=[AV.bool mk_26,.int .i64 ty_27,.int .i64 sq_28,.int .i64 ti_29,.int .i64 ss_30,.lst 0 [] 0 1,.lst 0 xs_33 m_32 2,.int .i64 pd_31,.str pl_34])→exI .i64 0 fun n_35=>exW .i64 (n_35+1) fun n_36=>
 (True∧(0:Nat)=(0:Nat))∧((∃y_37:Int,Lf (0≤y_37∧y_37≤65535)∧(16:Nat)<(16:Nat)∧eqqQ [AV.str key,.int .u16 (w:Int),.int .u16 (fi:Int),.lst 0 (c16M ks) ks.length 1,.int .u32 (ss:Int)]∧False)∨∃y_37 :
 Int×List (Int×Nat)×List AV,Lf ((0≤y_37.1∧y_37.1≤65535)∧0<y_37.2.1.length∧y_37.2.1.length≤16∧pkOk y_37.2.1)∧16-y_37.2.1.length<16∧eqqQ [AV.str key,.int .u16 (w:Int),.int .u16 (fi:Int),.lst 0 (c16M ks)
 ks.length 1,.int .u32 (ss:Int)]∧[AV.bool mk_26,.int .i64 ty_27,.int .i64 sq_28,.int .i64 ti_29,.int .i64 ss_30,.lst 0 [] 0 1,.lst 0 xs_33 m_32 2,.int .i64 pd_31,.str pl_34]=y_37.2.2∧[AV.bool mk_26,.int .i64 ty_27,.int
 .i64 sq_28,.int .i64 ti_29,.int .i64 ss_30,.lst 0 [] 0 1,.lst 0 xs_33 m_32 2,.int .i64 pd_31,.str pl_34]=pksM y_37.2.1∧eqqQ (AV.ptr 0 5 0)∧AV.sl 2 9 0 1 9=AV.sl 2 (y_37.2.1.length*9) 0 y_37.2.1.length 9∧AV.int .i64 n_36 =
 AV.int .i64 (y_37.2.1.length:Int)∧AV.int .i64 n_11=AV.int .i64 y_37.1∧True)))))) else Q (.ret .nils) [] {} else Q (.ret .nils) [] {})∧∀x_2:Int×List (Int×Nat)×List AV,Lf ((0≤x_2.1∧x_2.1≤65535)∧0<x_2.2.1.length
 ∧ x_2.2.1.length≤16∧pkOk x_2.2.1)→exI .i64 (x_2.2.1.length:Int) fun n_3=>exI .i64 (ks.length:Int) fun n_4=>bif decide (n_3<n_4) then exI .i64 (x_2.2.1.length:Int) fun n_5=>bif decide (n_5<16) then exI .i64
 (x_2.2.1.length:Int) fun n_6=>ckQ (decide (0≤n_6)&&Nat.blt n_6.toNat ks.length&&true) (ckQ (Nat.blt (n_6.toNat*1) (c16M ks).length) (exV .i16 ((c16M ks).getD (n_6.toNat*1) AV.undef) fun n_7=>exW .i64 n_7 fun n_8=>exW .i64
 (x_2.1+n_8) fun n_9=>exW .i64 (n_9+65536) fun n_10=>exI .i64 (n_10.tmod 65536) fun n_11=>exI .u32 (ss:Int) fun n_12=>exI .i64 (x_2.2.1.length:Int) fun n_13=>exW .i64 (2*n_13) fun n_14=>ckQ (decide (0≤n_14)&&true)
 (exI .u32 (Int.fdiv n_12 ((2:Int)^Min.min n_14.toNat 32)) fun n_15=>exW .u8 n_15 fun n_16=>exI .u8 (n_16.tmod 4) fun n_17=>exI .i64 (x_2.2.1.length:Int) fun n_18=>ckQ (decide (0≤n_18)&&Nat.blt n_18.toNat ks.length &&
 true) (ckQ (Nat.blt (n_18.toNat*1) (c16M ks).length) (exV .i16 ((c16M ks).getD (n_18.toNat*1) AV.undef) fun n_19=>exW .i16 (((n_19%65536).toNat &&& 63:Nat):Int) fun n_20=>exW .u8 n_20 fun n_21=>exW .u8 (4*n_21) fun n_22
 => exW .u8 (n_17+n_22) fun n_23=>∃w_24:Nat,Lf (n_23=(w_24:Int)∧(0≤n_11∧n_11≤65535)∧w_24<256)∧∀l_25:List AV,Lf (l_25=pkM n_11 w_24)→∀mk_26:Bool,∀ty_27 sq_28 ti_29 ss_30 pd_31:Int,∀m_32:Nat,∀
 xs_33:List AV,∀pl_34:List UInt8,Lf (l_25=[AV.bool mk_26,.int .i64 ty_27,.int .i64 sq_28,.int .i64 ti_29,.int .i64 ss_30,.lst 0 [] 0 1,.lst 0 xs_33 m_32 2,.int .i64 pd_31,.str pl_34])→ckQ (Nat.beq (pksM x_2.2.1).length
 (x_2.2.1.length*9)&&true&&Nat.beq (0+x_2.2.1.length*9) (x_2.2.1.length*9)&&Nat.ble (x_2.2.1.length+1) 1099511627776&&Nat.ble ((x_2.2.1.length+1)*112) 1099511627776) (exI .i64 (x_2.2.1.length:Int) fun n_35=>exW
 .i64 (n_35+1) fun n_36=>(True∧(0:Nat)=(0:Nat))∧((∃y_37:Int,Lf (0≤y_37∧y_37≤65535)∧16<16-x_2.2.1.length∧eqqQ [AV.str key,.int .u16 (w:Int),.int .u16 (fi:Int),.lst 0 (c16M ks) ks.length 1,.int .u32 (ss
 : Int)]∧False)∨∃y_37:Int×List (Int×Nat)×List AV,Lf ((0≤y_37.1∧y_37.1≤65535)∧0<y_37.2.1.length∧y_37.2.1.length≤16∧pkOk y_37.2.1)∧16-y_37.2.1.length<16-x_2.2.1.length∧eqqQ [AV.str key,.int .u16 (w :
 Int),.int .u16 (fi:Int),.lst 0 (c16M ks) ks.length 1,.int .u32 (ss:Int)]∧x_2.2.2=y_37.2.2∧pksM x_2.2.1++[AV.bool mk_26,.int .i64 ty_27,.int .i64 sq_28,.int .i64 ti_29,.int .i64 ss_30,.lst 0 [] 0 1,.lst 0 xs_33 m_32 2,
 .int .i64 pd_31,.str pl_34]=pksM y_37.2.1∧eqqQ (AV.ptr 0 5 0)∧AV.sl 2 (x_2.2.1.length*9+9) 0 (x_2.2.1.length+1) 9=AV.sl 2 (y_37.2.1.length*9) 0 y_37.2.1.length 9∧AV.int .i64 n_36=AV.int .i64 (y_37.2.1.length:Int) ∧
 AV.int .i64 n_11=AV.int .i64 y_37.1∧True))))))) else Q (.ret (.sl 2 (x_2.2.1.length*9) 0 x_2.2.1.length 9)) [Blk.mk BK.exact true [.str key,.int .u16 (w:Int),.int .u16 (fi:Int),.lst 0 (c16M ks) ks.length 1,.int .u32 (ss :
 Int)],Blk.mk BK.exact true x_2.2.2,Blk.mk BK.grow true (pksM x_2.2.1)] {} else Q (.ret (.sl 2 (x_2.2.1.length*9) 0 x_2.2.1.length 9)) [Blk.mk BK.exact true [.str key,.int .u16 (w:Int),.int .u16 (fi:Int),.lst 0 (c16M ks)
 ks.length 1,.int .u32 (ss:Int)],Blk.mk BK.exact true x_2.2.2,Blk.mk BK.grow true (pksM x_2.2.1)] {}):=by kernel_rfl

theorem pks_app (l:List (Int×Nat)) (x:Int×Nat):pksM (l++[x])=pksM l++pkM x.1 x.2:=by simp[pksM]
theorem pks_len (l:List (Int×Nat)):(pksM l).length=l.length*9:=by
 induction l with
 | nil=>rfl
 | cons x l ih=>rw[show pksM (x::l)=pkM x.1 x.2++pksM l from by simp[pksM],List.length_append,ih];simp[pkM];omega
theorem getK {ks:List Int} {i j:Nat} (hi:i<ks.length) (hj:j=i) {K:Int→Prop} (hk:K ks[i]):∃n:Int,List.getD (c16M ks) j AV.undef=AV.int .i16 n∧K n:=by
 subst hj
 refine ⟨_, ?_,hk⟩
 rw[List.getD_eq_getElem?_getD,c16M,List.getElem?_map,List.getElem?_eq_getElem hi];rfl
theorem hidU8 {X:Int} {K:Int→Prop} (h:∀k:Nat,k<256→K (k:Int)):∃n:Int,AV.int .u8 (IntKind.wrap .u8 X)=AV.int .u8 n∧K n:=by
 have e:IntKind.wrap .u8 X=(((X%256).toNat:Nat):Int):=by
  show X%256=_
  omega
 exact ⟨_,rfl,by rw[e];exact h _ (by omega)⟩
theorem c16_len (ks:List Int):(c16M ks).length=ks.length:=by simp[c16M]
theorem packets_run (key:List UInt8) (w fi:Nat) (ks:List Int) (ss:Nat) (hf:fi≤65535) (hkl:ks.length≤9223372036854775807) (hks:∀k∈ks, -32768≤k∧k≤32767) (Q:Out→List Blk→Gh→Prop) (h0:Q (.ret .nils) [] {})
  (h1:∀ (l:List (Int×Nat)) (H:List Blk) (bk:Blk),0<l.length→l.length≤16→pkOk l→H[2]? = some bk→bk.cs=pksM l→bk.k≠.ro→Q (.ret (.sl 2 (l.length*9) 0 l.length 9)) H {}):∃hv hb,goal_p36 hv hb key w fi ks ss Q:=by
 obtain ⟨hv,hb',e⟩:∃hv hb,goal_p36 hv hb key w fi ks ss Q=_:=⟨_,_,vc_p36 key w fi ks ss Q⟩
 refine ⟨hv,hb',e.mpr ?_⟩
 clear e
 have hcl:=c16_len ks
 refine ⟨_,rfl,wrapI (by omega) (by omega) ⟨.inl ⟨_,⟨by omega,by omega⟩,rfl,rfl,rfl,rfl,rfl,trivial⟩, ?_, ?_⟩⟩
 ·rintro q ⟨g1,g2⟩
  refine ⟨_,rfl,_,rfl,splitD (fun h=>⟨_,rfl,splitD (fun _ => ?_) (fun _=>h0)⟩) (fun _=>h0)⟩
  have hi:0<ks.length:=by omega
  have hk:=hks ks[0] (List.getElem_mem hi)
  refine ⟨_,rfl,ckI (by simp;omega) (ckI (by rw[hcl];simp;omega) (getK hi rfl (wrapI (by omega) (by omega) (wrapI (by omega) (by omega) (wrapI (by omega) (by omega) ⟨(q+ks[0]+65536)%65536,congrArg _ (Int.tmod_eq_emod_of_nonneg (by omega)),_,rfl,_,rfl,wrapI (by omega) (by omega) (ckI (by simp) ⟨_,rfl,_,rfl,_,rfl,_,rfl,ckI (by simp;omega) (ckI (by rw[hcl];simp;omega) (getK hi rfl ⟨_,rfl,_,rfl,_,rfl,hidU8 fun v hv=>⟨v,⟨rfl,by omega,hv⟩, ?_⟩⟩))⟩)⟩)))))⟩
  rintro l ⟨rfl⟩ mk ty sq ti s2 pd m xs pl ⟨he⟩
  refine ⟨_,rfl,wrapI (by omega) (by omega) ⟨⟨trivial,rfl⟩,.inr ⟨(_,[((q+ks[0]+65536)%65536,v)],_),⟨by dsimp only;omega,by simp,by simp, ?_⟩,by simp,rfl,rfl, ?_,rfl,rfl,rfl,rfl,trivial⟩⟩⟩
  ·intro x hx
   rw[List.mem_singleton] at hx
   subst hx
   exact ⟨by dsimp only;omega,hv⟩
  ·exact he.symm.trans (by simp[pksM])
 ·rintro ⟨q,l,dc⟩ ⟨⟨g1,g2⟩,g3,g4,g5⟩
  dsimp only at g1 g2 g3 g4 g5 ⊢
  have hpl:=pks_len l
  refine ⟨_,rfl,_,rfl,splitD (fun h=>⟨_,rfl,splitD (fun _ => ?_) (fun _=>h1 l _ _ g3 g4 g5 rfl rfl (by simp))⟩) (fun _=>h1 l _ _ g3 g4 g5 rfl rfl (by simp))⟩
  have hi:l.length<ks.length:=by omega
  have hk:=hks ks[l.length] (List.getElem_mem hi)
  refine ⟨_,rfl,ckI (by simp;omega) (ckI (by rw[hcl];simp;omega) (getK hi (by simp) (wrapI (by omega) (by omega) (wrapI (by omega) (by omega) (wrapI (by omega) (by omega) ⟨(q+ks[l.length]+65536)%65536,congrArg _ (Int.tmod_eq_emod_of_nonneg (by omega)),_,rfl,_,rfl,wrapI (by omega) (by omega) (ckI (by simp;omega) ⟨_,rfl,_,rfl,_,rfl,_,rfl,ckI (by simp;omega) (ckI (by rw[hcl];simp;omega) (getK hi (by simp) ⟨_,rfl,_,rfl,_,rfl,hidU8 fun v hv=>⟨v,⟨rfl,by omega,hv⟩, ?_⟩⟩))⟩)⟩)))))⟩
  rintro l' ⟨rfl⟩ mk ty sq ti s2 pd m xs pl ⟨he⟩
  refine ckI (by rw[hpl];simp[nbeq];omega) ⟨_,rfl,wrapI (by omega) (by omega) ⟨⟨trivial,rfl⟩,.inr ⟨(_,l++[((q+ks[l.length]+65536)%65536,v)],_),⟨by dsimp only;omega,by simp,by simp;omega, ?_⟩,by simp;omega,rfl,rfl, ?_,rfl, ?_,by simp,rfl,trivial⟩⟩⟩
  ·intro x hx
   rw[List.mem_append,List.mem_singleton] at hx
   rcases hx with hx | rfl
   ·exact g5 x hx
   ·exact ⟨by dsimp only;omega,hv⟩
  ·rw[pks_app,←he]
  ·simp;omega
theorem frz_pk (H:List Blk) (d:Nat) (q:Int) (w:Nat):(pkM q w).map (fun x=>frzV 0 H (d+2) x)=pkM q w:=rfl
theorem frz_pks (H:List Blk) (d:Nat) (l:List (Int×Nat)):(pksM l).map (fun x=>frzV 0 H (d+2) x)=pksM l:=by
 induction l with
 | nil=>rfl
 | cons x l ih=>rw[show pksM (x::l)=pkM x.1 x.2++pksM l from by simp[pksM],List.map_append,ih,frz_pk]
def cPackets:Con
 | [.agg [.str _,.int .u16 u,.int .u16 f,.lst 0 l n 1,.int .u32 s]],H,K=>∃ (w fi ss:Nat) (ks:List Int),Lf (u=(w:Int)∧f=(fi:Int)∧s=(ss:Int)∧l=c16M ks∧n=ks.length∧fi≤65535∧ks.length≤9223372036854775807∧∀k∈ks, -32768≤k∧k≤32767) ∧
   ∀ps:List (Int×Nat),Lf (ps.length≤16∧pkOk ps)→K (.ret (.lst 0 (pksM ps) ps.length 9)) H
 | _,_,_=>False
theorem packets_ok:ValidF Tryz.prog gl0 36 cPackets:=valid_frz (enters_of (by kernel_rfl)) gl0_noY 9 (nlR [9]) (wk_nlR _) fun args H Q hc=>by
 unfold cPackets at hc
 split at hc
 ·rename_i key u f l n s
  obtain ⟨w,fi,ss,ks,⟨rfl,rfl,rfl,rfl,rfl,h1,h2,h3⟩,hq⟩:=hc
  obtain ⟨hv,hb',h⟩:=packets_run key w fi ks ss h1 h2 h3 (Q:=fun o H' _=>∃v,o=.ret v∧Q (.ret (nlR [9] (frzV 0 H' 9 v))) H) ⟨_,rfl,hq [] ⟨by simp,by simp[pkOk]⟩⟩
   (fun l H' bk g1 g2 g3 g4 g5 g6=>⟨_,rfl,by
    have hpl:=pks_len l
    have e:frzV 0 H' 9 (.sl 2 (l.length*9) 0 l.length 9)=.lst 0 (pksM l) l.length 9:=by
     have c1:(pksM l).length.beq (l.length*9)=true:=beq_t hpl
     have c2:(0+l.length*9).ble (l.length*9)=true:=ble_t (by omega)
     have c3:(bk.k !=.ro)=true:=by simpa using g6
     rw[frzV]
     simp only[g4,c2,c3,Bool.and_true,cond_true,List.drop_zero,g5,c1]
     rw[List.take_of_length_le (by rw[hpl];omega),frz_pks]
    rw[e]
    exact hq l ⟨g2,g3⟩⟩)
  exact ⟨by simp[oldL,old,(fl_16 ks).1],by simp[noYL,noY,(fl_16 ks).2],_,1000,⟨mixed04,names04,tabA_ok,smPk_ok⟩,rfl,h⟩
 ·exact hc.elim
end Go.Proofs.YtnhechnaemmdiaaGreatDoor

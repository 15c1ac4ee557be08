/-
  Chapter 4: size.
-/
import Derived.Test.YtnhechnaemmdiaaGreatDoorK25SL
set_option linter.unusedSimpArgs false
set_option linter.unusedVariables false
namespace Go.Proofs.YtnhechnaemmdiaaGreatDoor
open Go.RowKit
set_option maxRecDepth 1000000

def sizeM (n:Nat):List UInt8:=[UInt8.ofNat (n%256),UInt8.ofNat (n/256%256),0,0,0,0,0,0]
def sz8M (a b:Nat):List AV:=[.int .u8 (a:Int),.int .u8 (b:Int),.int .u8 0,.int .u8 0,.int .u8 0,.int .u8 0,.int .u8 0,.int .u8 0]
def inv_66 (n i a b r:Nat) (p:Prop):LInv where
 α:=Nat
 pre _:=Lf p
 st _:=⟨mkT [(3,.sl 0 8 0 8 1),(4,.int .i64 (i:Nat)),(5,.int .i64 (r:Nat))],[⟨.grow,true,sz8M a b⟩]⟩
 mu _:=2-i
noncomputable def env_66 (hv:Nat→Option Pa) (hb:Nat→Option Bool) (n:Nat):Env:=
 e04 sm0 (fun i=>bif Nat.beq i 168000 then some (fun _=>[[inv_66 n 0 0 0 n True,inv_66 n 1 (n%256) 0 (n/256) (0<n),inv_66 n 2 (n%256) (n/256%256) 0 (0<n/256)]]) else none) hv hb
noncomputable def goal_66 (hv:Nat→Option Pa) (hb:Nat→Option Bool) (s:List UInt8) (Q:Out→List Blk→Gh→Prop):Prop:=
 callx (env_66 hv hb s.length) (wpx (env_66 hv hb s.length) 1000) 168 [.str s] [] {} Q
theorem vc_66 (s:List UInt8) (Q:Out→List Blk→Gh→Prop):goal_66 (lookV [(688136,.int .i64),(688137,.int .i64),(688145,.int .i64),(688146,.int .u8),(688141,.int .i64),(688142,.int .i64),(688149,.str)]) (lookB []) s Q =
 (exI .i64 (s.length:Int) fun n_0=>((∃x_1:Nat,Lf True∧eqqQ [AV.int .u8 0,.int .u8 0,.int .u8 0,.int .u8 0,.int .u8 0,.int .u8 0,.int .u8 0,.int .u8 0]∧eqqQ (AV.sl 0 8 0 8 1)∧AV.int .i64 n_0=AV.int .i64 (s.length :
 Int)∧eqqQ (AV.int .i64 0)∧True)∨(∃x_1:Nat,Lf (0<s.length)∧[AV.int .u8 0,.int .u8 0,.int .u8 0,.int .u8 0,.int .u8 0,.int .u8 0,.int .u8 0,.int .u8 0]=[AV.int .u8 ((s.length%256:Nat):Int),.int .u8 0,.int .u8
 0,.int .u8 0,.int .u8 0,.int .u8 0,.int .u8 0,.int .u8 0]∧eqqQ (AV.sl 0 8 0 8 1)∧AV.int .i64 n_0=AV.int .i64 ((s.length/256:Nat):Int)∧AV.int .i64 0=AV.int .i64 1∧True)∨∃x_1:Nat,Lf (0<s.length/256)∧[AV.int
 .u8 0,.int .u8 0,.int .u8 0,.int .u8 0,.int .u8 0,.int .u8 0,.int .u8 0,.int .u8 0]=[AV.int .u8 ((s.length%256:Nat):Int),.int .u8 ((s.length/256%256:Nat):Int),.int .u8 0,.int .u8 0,.int .u8 0,.int .u8 0,.int
 .u8 0,.int .u8 0]∧eqqQ (AV.sl 0 8 0 8 1)∧AV.int .i64 n_0=AV.int .i64 0∧AV.int .i64 0=AV.int .i64 2∧True)∧(Nat→Lf True→exI .i64 (s.length:Int) fun n_1=>bif decide (n_1>0) then exI .i64 (s.length:Int) fun n_2=>
 exW .u8 n_2 fun n_3=>exI .i64 (s.length:Int) fun n_4=>exI .i64 (Int.fdiv n_4 256) fun n_5=>(True∧(0:Nat)=(0:Nat))∧((∃y_6:Nat,Lf True∧(2:Nat)<(2:Nat)∧[AV.int .u8 n_3,.int .u8 0,.int .u8 0,.int .u8 0,.int
 .u8 0,.int .u8 0,.int .u8 0,.int .u8 0]=[AV.int .u8 0,.int .u8 0,.int .u8 0,.int .u8 0,.int .u8 0,.int .u8 0,.int .u8 0,.int .u8 0]∧eqqQ (AV.sl 0 8 0 8 1)∧AV.int .i64 n_5=AV.int .i64 (s.length:Int)∧AV.int .i64 1 =
 AV.int .i64 0∧True)∨(∃y_6:Nat,Lf (0<s.length)∧(1:Nat)<(2:Nat)∧[AV.int .u8 n_3,.int .u8 0,.int .u8 0,.int .u8 0,.int .u8 0,.int .u8 0,.int .u8 0,.int .u8 0]=[AV.int .u8 ((s.length%256:Nat):Int),.int .u8
 0,.int .u8 0,.int .u8 0,.int .u8 0,.int .u8 0,.int .u8 0,.int .u8 0]∧eqqQ (AV.sl 0 8 0 8 1)∧AV.int .i64 n_5=AV.int .i64 ((s.length/256:Nat):Int)∧eqqQ (AV.int .i64 1)∧True)∨∃y_6:Nat,Lf (0<s.length/256)∧(0 :
 Nat)<(2:Nat)∧[AV.int .u8 n_3,.int .u8 0,.int .u8 0,.int .u8 0,.int .u8 0,.int .u8 0,.int .u8 0,.int .u8 0]=[AV.int .u8 ((s.length%256:Nat):Int),.int .u8 ((s.length/256%256:Nat):Int),.int .u8 0,.int .u8 0,
 .int .u8 0,.int .u8 0,.int .u8 0,.int .u8 0]∧eqqQ (AV.sl 0 8 0 8 1)∧AV.int .i64 n_5=AV.int .i64 0∧AV.int .i64 1=AV.int .i64 2∧True) else exS (.str [toB (.int .u8 0),toB (.int .u8 0),toB (.int .u8 0),toB (.int .u8 0),toB
 (.int .u8 0),toB (.int .u8 0),toB (.int .u8 0),toB (.int .u8 0)]) fun s_2=>Q (.ret (.str s_2)) [] {})∧(Nat→Lf (0<s.length)→exI .i64 ((s.length/256:Nat):Int) fun n_1=>bif decide (n_1>0) then exI .i64 ((s.length/256
 : Nat):Int) fun n_2=>exW .u8 n_2 fun n_3=>exI .i64 ((s.length/256:Nat):Int) fun n_4=>exI .i64 (Int.fdiv n_4 256) fun n_5=>(True∧(0:Nat)=(0:Nat))∧((∃y_6:Nat,Lf True∧(2:Nat)<(1:Nat)∧[AV.int .u8
 ((s.length%256:Nat):Int),.int .u8 n_3,.int .u8 0,.int .u8 0,.int .u8 0,.int .u8 0,.int .u8 0,.int .u8 0]=[AV.int .u8 0,.int .u8 0,.int .u8 0,.int .u8 0,.int .u8 0,.int .u8 0,.int .u8 0,.int .u8 0]∧eqqQ (AV.sl 0 8 0
 8 1)∧AV.int .i64 n_5=AV.int .i64 (s.length:Int)∧AV.int .i64 2=AV.int .i64 0∧True)∨(∃y_6:Nat,Lf (0<s.length)∧(1:Nat)<(1:Nat)∧[AV.int .u8 ((s.length%256:Nat):Int),.int .u8 n_3,.int .u8 0,.int .u8 0,
 .int .u8 0,.int .u8 0,.int .u8 0,.int .u8 0]=[AV.int .u8 ((s.length%256:Nat):Int),.int .u8 0,.int .u8 0,.int .u8 0,.int .u8 0,.int .u8 0,.int .u8 0,.int .u8 0]∧eqqQ (AV.sl 0 8 0 8 1)∧AV.int .i64 n_5=AV.int .i64
 ((s.length/256:Nat):Int)∧AV.int .i64 2=AV.int .i64 1∧True)∨∃y_6:Nat,Lf (0<s.length/256)∧(0:Nat)<(1:Nat)∧[AV.int .u8 ((s.length%256:Nat):Int),.int .u8 n_3,.int .u8 0,.int .u8 0,.int .u8 0,.int .u8
 0,.int .u8 0,.int .u8 0]=[AV.int .u8 ((s.length%256:Nat):Int),.int .u8 ((s.length/256%256:Nat):Int),.int .u8 0,.int .u8 0,.int .u8 0,.int .u8 0,.int .u8 0,.int .u8 0]∧eqqQ (AV.sl 0 8 0 8 1)∧AV.int .i64 n_5 =
 AV.int .i64 0∧eqqQ (AV.int .i64 2)∧True) else exS (.str [toB (.int .u8 ((s.length%256:Nat):Int)),toB (.int .u8 0),toB (.int .u8 0),toB (.int .u8 0),toB (.int .u8 0),toB (.int .u8 0),toB (.int .u8 0),toB (.int .u8 0)]) fun
 s_2=>Q (.ret (.str s_2)) [] {})∧(Nat→Lf (0<s.length/256)→exI .i64 0 fun n_1=>bif decide (n_1>0) then exI .i64 0 fun n_2=>exW .u8 n_2 fun n_3=>exI .i64 0 fun n_4=>exI .i64 (Int.fdiv n_4 256) fun n_5=>(True∧(0 :
 Nat)=(0:Nat))∧((∃y_6:Nat,Lf True∧(2:Nat)<(0:Nat)∧[AV.int .u8 ((s.length%256:Nat):Int),.int .u8 ((s.length/256%256:Nat):Int),.int .u8 n_3,.int .u8 0,.int .u8 0,.int .u8 0,.int .u8 0,.int .u8 0] =
 [AV.int .u8 0,.int .u8 0,.int .u8 0,.int .u8 0,.int .u8 0,.int .u8 0,.int .u8 0,.int .u8 0]∧eqqQ (AV.sl 0 8 0 8 1)∧AV.int .i64 n_5=AV.int .i64 (s.length:Int)∧AV.int .i64 3=AV.int .i64 0∧True)∨(∃y_6:Nat,Lf (0 <
 s.length)∧(1:Nat)<(0:Nat)∧[AV.int .u8 ((s.length%256:Nat):Int),.int .u8 ((s.length/256%256:Nat):Int),.int .u8 n_3,.int .u8 0,.int .u8 0,.int .u8 0,.int .u8 0,.int .u8 0]=[AV.int .u8 ((s.length%256:Nat)
 : Int),.int .u8 0,.int .u8 0,.int .u8 0,.int .u8 0,.int .u8 0,.int .u8 0,.int .u8 0]∧eqqQ (AV.sl 0 8 0 8 1)∧AV.int .i64 n_5=AV.int .i64 ((s.length/256:Nat):Int)∧AV.int .i64 3=AV.int .i64 1∧True)∨∃y_6:Nat,Lf
 (0<s.length/256)∧(0:Nat)<(0:Nat)∧[AV.int .u8 ((s.length%256:Nat):Int),.int .u8 ((s.length/256%256:Nat):Int),.int .u8 n_3,.int .u8 0,.int .u8 0,.int .u8 0,.int .u8 0,.int .u8 0]=[AV.int .u8 ((s.length %
 256:Nat):Int),.int .u8 ((s.length/256%256:Nat):Int),.int .u8 0,.int .u8 0,.int .u8 0,.int .u8 0,.int .u8 0,.int .u8 0]∧eqqQ (AV.sl 0 8 0 8 1)∧AV.int .i64 n_5=AV.int .i64 0∧AV.int .i64 3=AV.int .i64 2∧True)
 else exS (.str [toB (.int .u8 ((s.length%256:Nat):Int)),toB (.int .u8 ((s.length/256%256:Nat):Int)),toB (.int .u8 0),toB (.int .u8 0),toB (.int .u8 0),toB (.int .u8 0),toB (.int .u8 0),toB (.int .u8 0)]) fun s_2=>Q
 (.ret (.str s_2)) [] {})):=by kernel_rfl


theorem size_run (s:List UInt8) (Q:Out→List Blk→Gh→Prop) (hl:s.length<65536) (hq:Q (.ret (.str (sizeM s.length))) [] {}):∃hv hb,goal_66 hv hb s Q:=by
 obtain ⟨hv,hb',e⟩:∃hv hb,goal_66 hv hb s Q=_:=⟨_,_,vc_66 s Q⟩
 refine ⟨hv,hb',e.mpr ?_⟩
 clear e
 generalize s.length=n at *
 have f:∀m:Nat,Int.fdiv (m:Int) 256=((m/256:Nat):Int):=fun m=>fdivN m 256 256 rfl
 have t0:toB (.int .u8 0)=0:=rfl
 refine ⟨_,rfl,.inl ⟨0,⟨trivial⟩,by simp⟩, ?_, ?_, ?_⟩
 ·intro _ _
  refine ⟨_,rfl,splitD (fun h => ?_) (fun h => ?_)⟩
  ·refine ⟨_,rfl,_,by rw[u8_wrap],_,rfl,_,by rw[f],⟨trivial,rfl⟩,.inr (.inl ⟨0,⟨by omega⟩,by decide,by simp⟩)⟩
  ·obtain rfl:n=0:=by omega
   exact ⟨_,rfl,hq⟩
 ·rintro _ ⟨h0⟩
  refine ⟨_,rfl,splitD (fun h => ?_) (fun h => ?_)⟩
  ·refine ⟨_,rfl,_,by rw[u8_wrap],_,rfl,_,by rw[f],⟨trivial,rfl⟩,.inr (.inr ⟨0,⟨by omega⟩,by decide, ?_⟩)⟩
   have e0:n/256/256=0:=by omega
   simp[e0]
  ·have e1:n/256%256=0:=by omega
   refine ⟨_,rfl, ?_⟩
   rw[sizeM,e1] at hq
   simp only[toB_nat,t0]
   exact hq
 ·rintro _ ⟨h0⟩
  first
  | (refine ⟨_,rfl, ?_⟩
     simp only[toB_nat,t0]
     exact hq)
  | (refine ⟨_,rfl,splitD (fun h=>by omega) (fun h=>⟨_,rfl, ?_⟩)⟩
     simp only[toB_nat,t0]
     exact hq)
def cSize:Con
 | [.str s],H,K=>Lf (s.length<65536)∧∀t,Lf (t=sizeM s.length)→K (.ret (.str t)) H
 | _,_,_=>False
theorem size_ok:ValidF Tryz.prog gl0 168 cSize:=by
 refine valid_flat (enters_of (by kernel_rfl)) gl0_noY fun args H Q hc => ?_
 unfold cSize at hc
 split at hc
 ·rename_i s
  obtain ⟨⟨h1⟩,hq⟩:=hc
  obtain ⟨hv,hb',h⟩:=size_run s (Q:=fun o H' _=>H'=[]∧(∃v,o=.ret v∧old 0 v=true∧noY v=true)∧Q o H) h1 ⟨rfl,⟨_,rfl,rfl,rfl⟩,hq _ ⟨rfl⟩⟩
  exact ⟨rfl,rfl,_,1000,envFor04 sm0_ok _ _ _,rfl,h⟩
 ·exact hc.elim

def smM:SM:=lookS [(165,cBlock),(166,cTag),(167,cPaddedV),(168,cSize)]
theorem smM_ok:∀f g,smM f=some g→ValidF Tryz.prog gl0 f g:=lookS_ok _ (by simp only[List.mem_cons,List.not_mem_nil,or_false,forall_eq_or_imp,forall_eq];exact ⟨block_ok,tag_ok,padded_ok,size_ok⟩)
def checkM (key nonce extra hidden:List UInt8):List UInt8:=tagM ((blockM key nonce 0).1.take 32) (((padM extra++padM hidden)++sizeM extra.length)++sizeM hidden.length)
noncomputable def goal_40 (hv:Nat→Option Pa) (hb:Nat→Option Bool) (key nonce extra hidden:List UInt8) (Q:Out→List Blk→Gh→Prop):Prop:=
 callx (e04 smM (fun _=>none) hv hb) (wpx (e04 smM (fun _=>none) hv hb) 1000) 119 [.str key,.str nonce,.str extra,.str hidden] [] {} Q
theorem vc_40 (key:List UInt8) (nonce:List UInt8) (extra:List UInt8) (hidden:List UInt8) (Q:Out→List Blk→Gh→Prop):goal_40 (lookV [(487442,.str),(487449,.str),(487452,.str)]) (lookB []) key nonce extra hidden Q=(
(∀s_0:(List UInt8),(∀e_1:Int,((Lf ((blockM key nonce (0:Int))=(Prod.mk s_0 e_1))) →
(bif (Nat.ble (32:Nat) (List.length s_0)) then (∃s_2:(List UInt8),(((AV.str (List.take (32:Nat) (List.drop (0:Nat) s_0)))=(AV.str s_2)) ∧
 ((Lf (((List.length extra)≤(4611686018:Nat)) ∧
 ((List.length hidden)≤(4611686018:Nat)))) ∧
 (∀t_3:(List UInt8),((Lf (t_3=((padM extra)++(padM hidden)))) →
((Lf ((List.length extra)<(65536:Nat))) ∧
 (∀t_4:(List UInt8),((Lf (t_4=(sizeM (List.length extra)))) →
(bif ((decide (((List.length t_3)+(List.length t_4))≤(9223372036854775807:Nat)))&&true) then (∃s_5:(List UInt8),(((AV.str (t_3++t_4))=(AV.str s_5)) ∧
 ((Lf ((List.length hidden)<(65536:Nat))) ∧
 (∀t_6:(List UInt8),((Lf (t_6=(sizeM (List.length hidden)))) →
(bif ((decide (((List.length s_5)+(List.length t_6))≤(9223372036854775807:Nat)))&&true) then (∃s_7:(List UInt8),(((AV.str (s_5++t_6))=(AV.str s_7)) ∧
 ((Lf ((List.length s_2)=(32:Nat))) ∧
 (∀t_8:(List UInt8),((Lf (t_8=(tagM s_2 s_7))) →
(Q (Out.ret (AV.str t_8)) [] (Gh.mk (0:Nat) (0:Nat) [])))))))
else False))))))
else False)))))))))
else False))))):=by kernel_rfl

theorem pad_len (a:List UInt8):(padM a).length=a.length+upM a.length:=by simp[padM]
theorem checked_run (key nonce extra hidden:List UInt8) (Q:Out→List Blk→Gh→Prop) (hr:rightM key nonce 0=true) (h1:extra.length<65536) (h2:hidden.length<65536) (hq:Q (.ret (.str (checkM key nonce extra hidden))) [] {}):∃hv hb,goal_40 hv hb key nonce extra hidden Q:=by
 obtain ⟨hv,hb',e⟩:∃hv hb,goal_40 hv hb key nonce extra hidden Q=_:=⟨_,_,vc_40 key nonce extra hidden Q⟩
 refine ⟨hv,hb',e.mpr ?_⟩
 clear e
 have hbl:∀s e,blockM key nonce 0=(s,e)→s.length=64:=by
  intro s e h
  rw[blockM,if_pos hr] at h
  obtain ⟨rfl,_⟩:=Prod.mk.inj h
  rw[List.length_map,len_blk]
 intro s e ⟨hs⟩
 have h64:=hbl s e hs
 have hc:checkM key nonce extra hidden=tagM (s.take 32) (((padM extra++padM hidden)++sizeM extra.length)++sizeM hidden.length):=by rw[checkM,hs]
 rw[hc] at hq
 clear hc hbl hs
 have hp1:=pad_len extra
 have hp2:=pad_len hidden
 have hu1:upM extra.length≤16:=by unfold upM;omega
 have hu2:upM hidden.length≤16:=by unfold upM;omega
 have hz:∀n,(sizeM n).length=8:=fun _=>rfl
 refine ckI (by rw[h64];rfl) ⟨_,rfl,⟨by omega,by omega⟩,fun t3 h3=>⟨⟨h1⟩,fun t4 h4 => ?_⟩⟩
 have l3:t3.length=(padM extra).length+(padM hidden).length:=by rw[h3.h,List.length_append]
 have l4:t4.length=8:=by rw[h4.h,hz]
 refine ckI (by first | (simp only[Bool.and_eq_true,Bool.and_true,Bool.true_and,decide_eq_true_eq,blt_iff,Nat.ble_eq,nbeq,cellsI_len,List.length_append,List.length_cons,List.length_nil,Int.toNat_natCast,and_true,true_and,Bool.or_eq_true,Bool.not_eq_true',bne_iff_ne,ne_eq];done) | (simp only[Bool.and_eq_true,Bool.and_true,Bool.true_and,decide_eq_true_eq,blt_iff,Nat.ble_eq,nbeq,cellsI_len,List.length_append,List.length_cons,List.length_nil,Int.toNat_natCast,and_true,true_and,Bool.or_eq_true,Bool.not_eq_true',bne_iff_ne,ne_eq];omega) | rfl | (simp;done) | (simp;omega)) ⟨_,rfl,⟨h2⟩,fun t6 h6 => ?_⟩
 have l6:t6.length=8:=by rw[h6.h,hz]
 refine ckI (by first | (simp only[Bool.and_eq_true,Bool.and_true,Bool.true_and,decide_eq_true_eq,blt_iff,Nat.ble_eq,nbeq,cellsI_len,List.length_append,List.length_cons,List.length_nil,Int.toNat_natCast,and_true,true_and,Bool.or_eq_true,Bool.not_eq_true',bne_iff_ne,ne_eq];done) | (simp only[Bool.and_eq_true,Bool.and_true,Bool.true_and,decide_eq_true_eq,blt_iff,Nat.ble_eq,nbeq,cellsI_len,List.length_append,List.length_cons,List.length_nil,Int.toNat_natCast,and_true,true_and,Bool.or_eq_true,Bool.not_eq_true',bne_iff_ne,ne_eq];omega) | rfl | (simp;done) | (simp;omega)) ⟨_,rfl,⟨by rw[List.drop_zero,List.length_take,h64];rfl⟩,fun t8 h8 => ?_⟩
 rw[h8.h,h6.h,h4.h,h3.h,List.drop_zero]
 exact hq
def cChecked:Con
 | [.str key,.str nonce,.str extra,.str hidden],H,K=>Lf (rightM key nonce 0=true∧extra.length<65536∧hidden.length<65536)∧∀t,Lf (t=checkM key nonce extra hidden)→K (.ret (.str t)) H
 | _,_,_=>False
theorem checked_ok:ValidF Tryz.prog gl0 119 cChecked:=by
 refine valid_flat (enters_of (by kernel_rfl)) gl0_noY fun args H Q hc => ?_
 unfold cChecked at hc
 split at hc
 ·rename_i key nonce extra hidden
  obtain ⟨⟨h1,h2,h3⟩,hq⟩:=hc
  obtain ⟨hv,hb',h⟩:=checked_run key nonce extra hidden (Q:=fun o H' _=>H'=[]∧(∃v,o=.ret v∧old 0 v=true∧noY v=true)∧Q o H) h1 h2 h3 ⟨rfl,⟨_,rfl,rfl,rfl⟩,hq _ ⟨rfl⟩⟩
  exact ⟨rfl,rfl,_,1000,envFor04 smM_ok _ _ _,rfl,h⟩
 ·exact hc.elim
end Go.Proofs.YtnhechnaemmdiaaGreatDoor

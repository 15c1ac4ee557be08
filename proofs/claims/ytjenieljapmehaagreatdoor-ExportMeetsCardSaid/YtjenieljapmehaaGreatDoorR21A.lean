/-
  Chapter 17: what is read of octets: Uint, Take.
-/
import Derived.Test.YtjenieljapmehaaGreatDoorGrC
import Derived.Test.YtjenieljapmehaaGreatDoorEnH
set_option linter.unusedSimpArgs false
set_option linter.unusedVariables false
set_option linter.unusedSectionVars false
namespace Go.Proofs.YtjenieljapmehaaGreatDoor.Rc
open Go.RowKit
set_option maxRecDepth 1000000

def natM (s:List UInt8):Nat:=s.foldl (fun x c=>x*256+c.toNat) 0
def beM (s:List UInt8):Int:=(natM s:Int)
def inv_77 (s:List UInt8):LInv where
 α:=Nat
 pre i:=Lf (i≤s.length)
 st i:=⟨mkT [(3,.int .i64 (natM (s.take i):Nat)),(7,.sl 0 s.length 0 s.length 1),(8,.int .i64 (s.length:Nat)),(9,.int .i64 (i:Nat))],[⟨.grow,true,ofBytes s⟩]⟩
 mu i:=s.length-i
noncomputable def env_77 (hv:Nat→Option Pa) (hb:Nat→Option Bool) (s:List UInt8):Env:=
 e04 sm0 (fun i=>bif Nat.beq i 130000 then some (fun _=>[[inv_77 s]]) else none) hv hb
noncomputable def goal_77 (hv:Nat→Option Pa) (hb:Nat→Option Bool) (s:List UInt8) (Q:Out→List Blk→Gh→Prop):Prop:=
 callx (env_77 hv hb s) (wpx (env_77 hv hb s) 1000) 130 [.str s] [] {} Q
theorem vc_77 (s:List UInt8) (Q:Out→List Blk→Gh→Prop):goal_77 (lookV [(532488,.int .i64),(532492,.int .u8),(532493,.int .i64),(532494,.int .i64),(532496,.int .i64),(532497,.int .i64),(532498,.int .i64),(532499,
 .int .i64)]) (lookB []) s Q=(ckQ (Nat.beq (ofBytes s).length s.length) (exI .i64 (s.length:Int) fun n_0=>(∃x_1:Nat,Lf (x_1≤s.length)∧ckQ (oldL 0 (ofBytes s)==true) (eqqQ (ofBytes s)∧AV.int .i64 0=AV.int .i64 (natM
 (s.take x_1):Int)∧eqqQ (AV.sl 0 s.length 0 s.length 1)∧AV.int .i64 0=AV.int .i64 (x_1:Int)∧AV.int .i64 n_0=AV.int .i64 (s.length:Int)∧True))∧∀x_1:Nat,Lf (x_1≤s.length)→bif decide ((x_1:Int)<(s.length:Int))
 then ckQ (Nat.blt (x_1:Int).toNat s.length&&Nat.beq (ofBytes s).length s.length&&true) (ckQ (Nat.beq (ofBytes s).length s.length&&Nat.blt (0+(x_1:Int).toNat*1) s.length) (exV .u8 ((((ofBytes s).drop (0+(x_1:Int).toNat *
 1)).take 1).getD 0 AV.undef) fun n_2=>exI .i64 (natM (s.take x_1):Int) fun n_3=>exW .i64 (n_3*256) fun n_4=>exW .i64 n_2 fun n_5=>exW .i64 (((n_4%18446744073709551616).toNat ||| (n_5%18446744073709551616).toNat:Nat) :
 Int) fun n_6=>exW .i64 ((x_1:Int)+1) fun n_7=>(True∧(0:Nat)=(0:Nat))∧∃y_8:Nat,Lf (y_8≤s.length)∧s.length-y_8<s.length-x_1∧eqqQ (ofBytes s)∧AV.int .i64 n_6=AV.int .i64 (natM (s.take y_8):Int)∧eqqQ
 (AV.sl 0 s.length 0 s.length 1)∧AV.int .i64 n_7=AV.int .i64 (y_8:Int)∧eqqQ (AV.int .i64 (s.length:Int))∧True)) else exI .i64 (natM (s.take x_1):Int) fun n_2=>Q (.ret (.int .i64 n_2)) [] {})):=by kernel_rfl

theorem nat_app (a b:List UInt8):natM (a++b)=b.foldl (fun x c=>x*256+c.toNat) (natM a):=by simp[natM]
theorem nat_snoc {s:List UInt8} {i:Nat} (h:i<s.length):natM (s.take (i+1))=natM (s.take i)*256+(s.getD i 0).toNat:=by
 rw[List.take_add_one,List.getElem?_eq_getElem h,nat_app]
 simp[List.getD,h]
theorem nat_lt:∀ (n:Nat) (s:List UInt8),s.length=n→natM s<256^n
 | 0,s,h=>by
  obtain rfl:=List.length_eq_zero_iff.1 h
  simp[natM]
 | n+1,s,h=>by
  have e:s=s.take n++[s.getD n 0]:=by
   conv=>lhs;rw[←List.take_of_length_le (show s.length≤n+1 by omega),List.take_add_one,List.getElem?_eq_getElem (by omega)]
   simp[List.getD,show n<s.length by omega]
  rw[e,nat_app,Nat.pow_succ]
  have h1:=nat_lt n (s.take n) (by rw[List.length_take];omega)
  have h2:=(s.getD n 0).toNat_lt
  simp only[List.foldl_cons,List.foldl_nil]
  omega
theorem or256 (a b:Nat) (hb:b<256):a*256 ||| b=a*256+b:=by
 have:=Nat.two_pow_add_eq_or_of_lt (i:=8) hb a
 rw[show (2:Nat)^8=256 from rfl,Nat.mul_comm 256 a] at this
 exact this.symm
theorem num_run (s:List UInt8) (hs:s.length≤7) (Q:Out→List Blk→Gh→Prop) (hq:Q (.ret (.int .i64 (beM s))) [] {}):∃hv hb,goal_77 hv hb s Q:=by
 obtain ⟨hv,hb',e⟩:∃hv hb,goal_77 hv hb s Q=_:=⟨_,_,vc_77 s Q⟩
 refine ⟨hv,hb',e.mpr ?_⟩
 clear e
 refine ckI (by rw[ofB_len];simp) ⟨_,rfl,⟨0,⟨by omega⟩,ckI (by rw[oldL_ofB];rfl) ⟨rfl,rfl,rfl,rfl,rfl,trivial⟩⟩, ?_⟩
 rintro i ⟨hi⟩
 refine splitD (fun h => ?_) (fun h => ?_)
 ·have hlt:i<s.length:=by omega
  have h1:=nat_lt i (s.take i) (by rw[List.length_take];omega)
  have h3:(256:Nat)^i≤256^6:=Nat.pow_le_pow_right (by omega) (by omega)
  have h4:(256:Nat)^6=281474976710656:=rfl
  have h2:=(s.getD i 0).toNat_lt
  have hsn:=nat_snoc hlt
  refine ckI (by rw[ofB_len];simp;omega) (ckI (by rw[ofB_len];simp;omega) (ldB (j:=i) hlt (by simp) ⟨_,rfl,wrapI (by omega) (by omega) (wrapI (by omega) (by omega) ?_)⟩))
  rw[show Int.toNat (((natM (s.take i):Nat):Int)*256%18446744073709551616)=natM (s.take i)*256 by omega,show Int.toNat ((((s.getD i 0).toNat:Nat):Int)%18446744073709551616)=(s.getD i 0).toNat by omega,or256 _ _ (by omega)]
  refine wrapI (by omega) (by omega) (wrapI (by omega) (by omega) ⟨⟨trivial,rfl⟩,i+1,⟨by omega⟩,by omega,rfl,by rw[hsn],rfl,rfl,rfl,trivial⟩)
 ·have:s.take i=s:=List.take_of_length_le (by omega)
  rw[this]
  exact ⟨_,rfl,hq⟩
def cNum:Con
 | [.str s],H,K=>Lf (s.length≤7)∧K (.ret (.int .i64 (beM s))) H
 | _,_,_=>False
theorem num_ok:ValidF Tryz.prog gl0 130 cNum:=by
 refine valid_flat (enters_of (by kernel_rfl)) gl0_noY fun args H Q hc => ?_
 unfold cNum at hc
 split at hc
 ·rename_i s
  obtain ⟨⟨h1⟩,hq⟩:=hc
  obtain ⟨hv,hb',h⟩:=num_run s h1 (Q:=fun o H' _=>H'=[]∧(∃v,o=.ret v∧old 0 v=true∧noY v=true)∧Q o H) ⟨rfl,⟨_,rfl,rfl,rfl⟩,hq⟩
  exact ⟨rfl,rfl,_,1000,envFor04 sm0_ok _ _ _,rfl,h⟩
 ·exact hc.elim

def smA:SM:=lookS [(130,cNum)]
theorem smA_ok:∀f g,smA f=some g→ValidF Tryz.prog gl0 f g:=lookS_ok _ (by simp only[List.mem_cons,List.not_mem_nil,or_false,forall_eq];exact num_ok)
noncomputable def goal_64 (hv:Nat→Option Pa) (hb:Nat→Option Bool) (s:List UInt8) (at0 n:Int) (Q:Out→List Blk→Gh→Prop):Prop:=
 callx (e04 smA (fun _=>none) hv hb) (wpx (e04 smA (fun _=>none) hv hb) 1000) 106 [.agg [.str s,.int .i64 at0],.int .i64 n] [] {} Q
theorem vc_64 (s:List UInt8) (at0:Int) (n:Int) (Q:Out→List Blk→Gh→Prop):goal_64 (lookV [(589836,.int .i64),(528424,.int .i64),(528428,.int .i64),(528444,.int .i64),(528445,.str),(528454,.int .i64),(528446,.int
 .i64)]) (lookB []) s at0 n Q=(bif decide (at0<0) then Q (.ret (.tup [.int .i64 0,.agg [.str [],.int .i64 0],.int .i64 2])) [] {} else exI .i64 (s.length:Int) fun n_0=>bif decide (at0>n_0) then Q (.ret (.tup [.int .i64 0,.agg
 [.str [],.int .i64 0],.int .i64 2])) [] {} else bif decide (n<1) then Q (.ret (.tup [.int .i64 0,.agg [.str [],.int .i64 0],.int .i64 2])) [] {} else bif decide (n>7) then Q (.ret (.tup [.int .i64 0,.agg [.str [],.int .i64 0],
 .int .i64 2])) [] {} else exI .i64 (s.length:Int) fun n_1=>exW .i64 (n_1-at0) fun n_2=>bif decide (n_2<n) then Q (.ret (.tup [.int .i64 0,.agg [.str [],.int .i64 0],.int .i64 7])) [] {} else exW .i64 (at0+n) fun n_3=>ckQ
 (decide (0≤at0)&&decide (0≤n_3)&&Nat.ble at0.toNat n_3.toNat&&Nat.ble n_3.toNat s.length) (exS (.str ((s.drop at0.toNat).take (n_3.toNat-at0.toNat))) fun s_4=>exW .i64 (at0+n) fun n_5=>Lf (s_4.length≤7)∧ckQ (eqAVL
 [.int .i64 at0] [.int .i64 at0]&&true) (ckQ (eqAVL [.str s] [.str s]&&true) (exI .i64 (beM s_4) fun n_6=>Q (.ret (.tup [.int .i64 n_6,.agg [.str s,.int .i64 n_5],.int .i64 0])) [] {})))):=by kernel_rfl

noncomputable def goal_65 (hv:Nat→Option Pa) (hb:Nat→Option Bool) (s:List UInt8) (at0 n:Int) (Q:Out→List Blk→Gh→Prop):Prop:=
 callx (e04 smA (fun _=>none) hv hb) (wpx (e04 smA (fun _=>none) hv hb) 1000) 107 [.agg [.str s,.int .i64 at0],.int .i64 n] [] {} Q
theorem vc_65 (s:List UInt8) (at0:Int) (n:Int) (Q:Out→List Blk→Gh→Prop):goal_65 (lookV [(438282,.int .i64),(589836,.int .i64),(536616,.int .i64),(536620,.int .i64),(536636,.int .i64),(536637,.str),(536646,.int
 .i64)]) (lookB [(544766,true)]) s at0 n Q=(exI .i64 (imax n 0) fun n_0=>bif decide (at0<0) then Q (.ret (.tup [.str [],.agg [.str [],.int .i64 0],.int .i64 2])) [] {} else exI .i64 (s.length:Int) fun n_1=>bif decide (at0 >
 n_1) then Q (.ret (.tup [.str [],.agg [.str [],.int .i64 0],.int .i64 2])) [] {} else bif decide (n<0) then Q (.ret (.tup [.str [],.agg [.str [],.int .i64 0],.int .i64 2])) [] {} else bif decide (n>n_0) then Q (.ret (.tup [.str
 [],.agg [.str [],.int .i64 0],.int .i64 2])) [] {} else exI .i64 (s.length:Int) fun n_2=>exW .i64 (n_2-at0) fun n_3=>bif decide (n_3<n) then Q (.ret (.tup [.str [],.agg [.str [],.int .i64 0],.int .i64 7])) [] {} else exW
 .i64 (at0+n) fun n_4=>ckQ (decide (0≤at0)&&decide (0≤n_4)&&Nat.ble at0.toNat n_4.toNat&&Nat.ble n_4.toNat s.length) (exS (.str ((s.drop at0.toNat).take (n_4.toNat-at0.toNat))) fun s_5=>exW .i64 (at0+n) fun n_6=>true =
 true∧ckQ (eqAVL [.int .i64 at0] [.int .i64 at0]&&true) (ckQ (eqAVL [.str s] [.str s]&&true) (Q (.ret (.tup [.str s_5,.agg [.str s,.int .i64 n_6],.int .i64 0])) [] {})))):=by kernel_rfl

theorem eqAVL_i (k:IntKind) (c:Int):eqAVL [AV.int k c] [AV.int k c]=true:=by
 simp[eqAVL,eqAV]
theorem eqB_refl (s:List UInt8):eqB s s=true:=by
 rw[eqB_iff];simp
theorem eqAVL_s (s:List UInt8):eqAVL [AV.str s] [AV.str s]=true:=by
 simp[eqAVL,eqAV,eqB_refl]
def cUint:Con
 | [.agg [.str s,.int .i64 at0],.int .i64 n],H,K=>Lf (0≤at0∧at0≤s.length∧s.length≤1000000∧1≤n∧n≤7)∧bif decide (at0+n≤(s.length:Int)) then K (.ret (.tup [.int .i64 (beM ((s.drop at0.toNat).take n.toNat)),.agg [.str s,.int .i64 (at0+n)],.int .i64 0])) H else K (.ret (.tup [.int .i64 0,.agg [.str [],.int .i64 0],.int .i64 7])) H
 | _,_,_=>False
theorem uint_run (s:List UInt8) (a n:Int) (h:0≤a∧a≤s.length∧s.length≤1000000∧1≤n∧n≤7) (Q:Out→List Blk→Gh→Prop)
  (hq:bif decide (a+n≤(s.length:Int)) then Q (.ret (.tup [.int .i64 (beM ((s.drop a.toNat).take n.toNat)),.agg [.str s,.int .i64 (a+n)],.int .i64 0])) [] {} else Q (.ret (.tup [.int .i64 0,.agg [.str [],.int .i64 0],.int .i64 7])) [] {}):∃hv hb,goal_64 hv hb s a n Q:=by
 obtain ⟨hv,hb',e⟩:∃hv hb,goal_64 hv hb s a n Q=_:=⟨_,_,vc_64 s a n Q⟩
 refine ⟨hv,hb',e.mpr ?_⟩
 clear e
 obtain ⟨h1,h2,h3,h4,h5⟩:=h
 refine splitD (fun x=>absurd x (by omega)) (fun _=>⟨_,rfl,splitD (fun x=>absurd x (by omega)) (fun _=>splitD (fun x=>absurd x (by omega)) (fun _=>splitD (fun x=>absurd x (by omega)) (fun _=>⟨_,rfl,wrapI (by omega) (by omega) (splitD (fun h6 => ?_) (fun h6 => ?_))⟩)))⟩)
 ·rw[decide_eq_false (by omega)] at hq
  exact hq
 ·rw[decide_eq_true (by omega)] at hq
  refine wrapI (by omega) (by omega) (ckI (by simp;omega) ⟨_,rfl,wrapI (by omega) (by omega) ⟨⟨by rw[List.length_take];omega⟩,ckI (by rw[eqAVL_i];rfl) (ckI (by rw[eqAVL_s];rfl) ?_)⟩⟩)
  rw[show Int.toNat (a+n)-Int.toNat a=n.toNat by omega]
  exact ⟨_,rfl,hq⟩
theorem uint_ok:ValidF Tryz.prog gl0 106 cUint:=by
 refine valid_flat (enters_of (by kernel_rfl)) gl0_noY fun args H Q hc => ?_
 unfold cUint at hc
 split at hc
 ·rename_i s a n
  obtain ⟨⟨h1⟩,hq⟩:=hc
  obtain ⟨hv,hb',h⟩:=uint_run s a n h1 (Q:=fun o H' _=>H'=[]∧(∃v,o=.ret v∧old 0 v=true∧noY v=true)∧Q o H) (by
   cases hd:decide (a+n≤(s.length:Int))<;>rw[hd] at hq<;>exact ⟨rfl,⟨_,rfl,rfl,rfl⟩,hq⟩)
  exact ⟨rfl,rfl,_,1000,envFor04 smA_ok _ _ _,rfl,h⟩
 ·exact hc.elim
def cTake:Con
 | [.agg [.str s,.int .i64 at0],.int .i64 n],H,K=>Lf (0≤at0∧at0≤s.length∧s.length≤1000000∧0≤n∧n≤1000000)∧bif decide (at0+n≤(s.length:Int)) then K (.ret (.tup [.str ((s.drop at0.toNat).take n.toNat),.agg [.str s,.int .i64 (at0+n)],.int .i64 0])) H else K (.ret (.tup [.str [],.agg [.str [],.int .i64 0],.int .i64 7])) H
 | _,_,_=>False
theorem take_run (s:List UInt8) (a n:Int) (h:0≤a∧a≤s.length∧s.length≤1000000∧0≤n∧n≤1000000) (Q:Out→List Blk→Gh→Prop)
  (hq:bif decide (a+n≤(s.length:Int)) then Q (.ret (.tup [.str ((s.drop a.toNat).take n.toNat),.agg [.str s,.int .i64 (a+n)],.int .i64 0])) [] {} else Q (.ret (.tup [.str [],.agg [.str [],.int .i64 0],.int .i64 7])) [] {}):∃hv hb,goal_65 hv hb s a n Q:=by
 obtain ⟨hv,hb',e⟩:∃hv hb,goal_65 hv hb s a n Q=_:=⟨_,_,vc_65 s a n Q⟩
 refine ⟨hv,hb',e.mpr ?_⟩
 clear e
 obtain ⟨h1,h2,h3,h4,h5⟩:=h
 have hm:imax n 0=n:=by unfold imax;split<;>omega
 refine ⟨_,rfl, ?_⟩
 rw[hm]
 refine splitD (fun x=>absurd x (by omega)) (fun _=>⟨_,rfl,splitD (fun x=>absurd x (by omega)) (fun _=>splitD (fun x=>absurd x (by omega)) (fun _=>splitD (fun x=>absurd x (by omega)) (fun _=>⟨_,rfl,wrapI (by omega) (by omega) (splitD (fun h6 => ?_) (fun h6 => ?_))⟩)))⟩)
 ·rw[decide_eq_false (by omega)] at hq
  exact hq
 ·rw[decide_eq_true (by omega)] at hq
  refine wrapI (by omega) (by omega) (ckI (by simp;omega) ⟨_,rfl,wrapI (by omega) (by omega) ⟨rfl,ckI (by rw[eqAVL_i];rfl) (ckI (by rw[eqAVL_s];rfl) ?_)⟩⟩)
  rw[show Int.toNat (a+n)-Int.toNat a=n.toNat by omega]
  exact hq
theorem take_ok:ValidF Tryz.prog gl0 107 cTake:=by
 refine valid_flat (enters_of (by kernel_rfl)) gl0_noY fun args H Q hc => ?_
 unfold cTake at hc
 split at hc
 ·rename_i s a n
  obtain ⟨⟨h1⟩,hq⟩:=hc
  obtain ⟨hv,hb',h⟩:=take_run s a n h1 (Q:=fun o H' _=>H'=[]∧(∃v,o=.ret v∧old 0 v=true∧noY v=true)∧Q o H) (by
   cases hd:decide (a+n≤(s.length:Int))<;>rw[hd] at hq<;>exact ⟨rfl,⟨_,rfl,rfl,rfl⟩,hq⟩)
  exact ⟨rfl,rfl,_,1000,envFor04 smA_ok _ _ _,rfl,h⟩
 ·exact hc.elim
end Go.Proofs.YtjenieljapmehaaGreatDoor.Rc

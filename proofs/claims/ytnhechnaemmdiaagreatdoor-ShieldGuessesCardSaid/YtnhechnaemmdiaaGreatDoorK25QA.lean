/-
  Chapter 25: Sized; a draft's start.
-/
import Derived.Test.YtnhechnaemmdiaaGreatDoorK25SN
import Derived.Test.YtnhechnaemmdiaaGreatDoorK25K
set_option linter.unusedSimpArgs false
set_option linter.unusedVariables false
namespace Go.Proofs.YtnhechnaemmdiaaGreatDoor
open Go.RowKit
set_option linter.unusedSectionVars false
set_option maxRecDepth 1000000

def sizedM (s:List UInt8) (n:Nat):List UInt8:=if s=[] then List.replicate n 0 else (List.range n).map fun i=>s.getD (i%s.length) 0
def inv_79 (s:List UInt8) (n:Nat):LInv where
 α:=Nat×List UInt8
 pre p:=Lf (p.1≤n∧(p.1=0∨s≠[])∧p.2=(sizedM s n).take p.1++List.replicate (n-p.1) 0)
 st p:=⟨mkT [(0,.str s),(1,.int .i64 (n:Nat)),(5,.sl 0 n 0 n 1),(6,.int .i64 (p.1:Nat))],[⟨.exact,true,ofBytes p.2⟩]⟩
 mu p:=n-p.1
noncomputable def env_79 (hv:Nat→Option Pa) (hb:Nat→Option Bool) (s:List UInt8) (n:Nat):Env:=e04 sm0 (fun i=>bif Nat.beq i 79000 then some (fun _=>[[inv_79 s n]]) else none) hv hb
noncomputable def goal_79 (hv:Nat→Option Pa) (hb:Nat→Option Bool) (s:List UInt8) (n:Nat) (Q:Out→List Blk→Gh→Prop):Prop:=
 callx (env_79 hv hb s n) (wpx (env_79 hv hb s n) 1000) 79 [.str s,.int .i64 (n:Nat)] [] {} Q
theorem vc_79 (s:List UInt8) (n:Nat) (Q:Out→List Blk→Gh→Prop):goal_79 (lookV [(323598,.int .i64),(323608,.int .i64),(323609,.int .i64),(323610,.int .u8),(323602,.int .i64),(323613,.str)]) (lookB []) s n Q=(ckQ
 (decide ((n:Int)≤(n:Int))&&decide ((n:Int)≤1099511627776)&&decide ((n:Int)*1≤1099511627776)) ((∃x_0:Nat×List UInt8,Lf (x_0.1≤n∧(x_0.1=0∨s≠[])∧x_0.2=(sizedM s n).take x_0.1++List.replicate (n -
 x_0.1) 0)∧ckQ (oldL 0 (List.replicate (n:Int).toNat [AV.int .u8 0]).flatten==true) ((List.replicate (n:Int).toNat [AV.int .u8 0]).flatten=ofBytes x_0.2∧eqqQ (AV.str s)∧eqqQ (AV.int .i64 (n:Int))∧AV.sl 0 ((n:Int).toNat *
 1) 0 (n:Int).toNat 1=AV.sl 0 n 0 n 1∧AV.int .i64 0=AV.int .i64 (x_0.1:Int)∧True))∧∀x_0:Nat×List UInt8,Lf (x_0.1≤n∧(x_0.1=0∨s≠[])∧x_0.2=(sizedM s n).take x_0.1++List.replicate (n-x_0.1) 0)→bif decide
 ((x_0.1:Int)<(n:Int)) then exI .i64 (s.length:Int) fun n_1=>bif decide (n_1>0) then exI .i64 (s.length:Int) fun n_2=>ckQ (n_2 !=0&&true) (exI .i64 ((x_0.1:Int).tmod n_2) fun n_3=>ckQ (decide (0≤n_3)&&Nat.blt
 n_3.toNat s.length) (exI .u8 (UInt8.toNat (s.getD n_3.toNat (UInt8.ofNat 0)):Int) fun n_4=>ckQ (Nat.blt (x_0.1:Int).toNat n&&Nat.beq (ofBytes x_0.2).length n&&true) (ckQ (Nat.beq (ofBytes x_0.2).length n&&Nat.ble (0+(x_0.1 :
 Int).toNat*1+1) n&&true&&true&&true) (exW .i64 ((x_0.1:Int)+1) fun n_5=>(True∧(0:Nat)=(0:Nat))∧∃y_6:Nat×List UInt8,Lf (y_6.1≤n∧(y_6.1=0∨s≠[])∧y_6.2=(sizedM s n).take y_6.1++List.replicate (n
 - y_6.1) 0)∧n-y_6.1<n-x_0.1∧setRange (ofBytes x_0.2) (0+(x_0.1:Int).toNat*1) [.int .u8 n_4]=ofBytes y_6.2∧eqqQ (AV.str s)∧eqqQ (AV.int .i64 (n:Int))∧eqqQ (AV.sl 0 n 0 n 1)∧AV.int .i64 n_5=AV.int .i64 (y_6.1 :
 Int)∧True)))) else ckQ (Nat.beq (ofBytes x_0.2).length n&&Nat.ble (0+n) n&&true&&allU8 (((ofBytes x_0.2).drop 0).take n)) (exS (.str (List.map toB (((ofBytes x_0.2).drop 0).take n))) fun s_2=>Q (.ret (.str s_2)) [] {}) else ckQ
 (Nat.beq (ofBytes x_0.2).length n&&Nat.ble (0+n) n&&true&&allU8 (((ofBytes x_0.2).drop 0).take n)) (exS (.str (List.map toB (((ofBytes x_0.2).drop 0).take n))) fun s_1=>Q (.ret (.str s_1)) [] {}))):=by kernel_rfl

theorem sized_len (s:List UInt8) (n:Nat):(sizedM s n).length=n:=by
 unfold sizedM
 split<;>simp
theorem sized_run (s:List UInt8) (n:Nat) (Q:Out→List Blk→Gh→Prop) (hn:n≤100000) (hs:s.length≤9223372036854775807) (hq:Q (.ret (.str (sizedM s n))) [] {}):∃hv hb,goal_79 hv hb s n Q:=by
 obtain ⟨hv,hb',e⟩:∃hv hb,goal_79 hv hb s n Q=_:=⟨_,_,vc_79 s n Q⟩
 refine ⟨hv,hb',e.mpr ?_⟩
 clear e
 have z:List.flatten (List.replicate n [AV.int .u8 0])=ofBytes (List.replicate n 0):=by
  have e1:∀k,List.flatten (List.replicate k [AV.int .u8 0])=List.replicate k (AV.int .u8 0):=fun k=>by
   induction k with
   | zero=>rfl
   | succ k ih=>rw[List.replicate_succ,List.flatten_cons,ih];rfl
  rw[e1];simp[ofBytes]
 have hl:=sized_len s n
 rw[Int.toNat_natCast,z]
 refine ckI (by simp;omega) ⟨⟨(0,List.replicate n 0),⟨by simp,.inl rfl,by simp⟩,ckI (by rw[oldL_ofB];rfl) ⟨rfl,rfl,rfl,by simp,rfl,trivial⟩⟩, ?_⟩
 rintro ⟨i,b⟩ ⟨g1,g2,g3⟩
 dsimp only at *
 have hb:b.length=n:=by rw[g3,List.length_append,List.length_take,List.length_replicate,hl];omega
 have fin:(i=n∨s=[])→b=sizedM s n:=fun h=>by
  rw[g3]
  rcases h with h | h
  ·rw[h,Nat.sub_self,List.replicate_zero,List.append_nil,List.take_of_length_le (by omega)]
  ·rcases g2 with g2 | g2
   ·rw[g2,List.take_zero,List.nil_append,Nat.sub_zero,sizedM,if_pos h]
   ·exact absurd h g2
 have cl:((Nat.beq (List.length (ofBytes b)) n&&Nat.ble (0+n) n&&true)&&allU8 (List.take n (List.drop 0 (ofBytes b))))=true:=by
  rw[allU8_take,ofB_len,hb];simp
 have st:List.map toB (List.take n (List.drop 0 (ofBytes b)))=b:=strB hb.symm rfl
 refine splitD (fun hlt=>⟨_,rfl,splitD (fun hpos => ?_) (fun hz => ?_)⟩) (fun hge => ?_)
 ·have hi:i<n:=by omega
  have hs0:s≠[]:=fun h=>by rw[h] at hpos;simp at hpos
  have hm:Int.tmod (i:Int) (s.length:Int)=((i%s.length:Nat):Int):=by rw[Int.tmod_eq_emod_of_nonneg (by omega)];omega
  have hlt2:i%s.length<s.length:=Nat.mod_lt _ (by omega)
  have hx:b.getD i 0=0∨True:=.inr trivial
  refine ⟨_,rfl,ckI (by simp;omega) ⟨_,rfl,ckI (by rw[hm];simp;omega) ⟨_,rfl,ckI (by rw[ofB_len];simp;omega) (ckI (by rw[ofB_len];simp;omega) ?_)⟩⟩⟩
  rw[hm,Int.toNat_natCast,Int.toNat_natCast,Nat.zero_add,Nat.mul_one,stB (by omega) rfl]
  refine wrapI (by omega) (by omega) ⟨⟨trivial,rfl⟩,(i+1,b.set i (s.getD (i%s.length) 0)),⟨hi,.inr hs0, ?_⟩, ?_,by simp⟩
  ·show b.set i (s.getD (i%s.length) 0)=(sizedM s n).take (i+1)++List.replicate (n-(i+1)) 0
   have e1:(sizedM s n).getD i 0=s.getD (i%s.length) 0:=by
    rw[sizedM,if_neg hs0]
    simp[List.getD_eq_getElem?_getD,hi]
   have e2:List.replicate (n-i) (0:UInt8)=0::List.replicate (n-(i+1)) 0:=by
    rw[show n-i=(n-(i+1))+1 by omega,List.replicate_succ]
   have e3:((sizedM s n).take i).length=i:=by rw[List.length_take,hl];omega
   rw[take_snocD _ 0 (by omega:i<(sizedM s n).length),e1,g3,e2,List.set_append_right _ _ (by omega),e3,Nat.sub_self,List.set_cons_zero,List.append_assoc]
   rfl
  ·show n-(i+1)<n-i
   omega
 ·refine ckI cl ⟨_,rfl, ?_⟩
  rw[st,fin (.inr (List.length_eq_zero_iff.1 (by omega)))]
  exact hq
 ·refine ckI cl ⟨_,rfl, ?_⟩
  rw[st,fin (.inl (by omega))]
  exact hq
def cSized:Con
 | [.str s,.int .i64 n],H,K=>Lf (0≤n∧n≤100000∧s.length≤9223372036854775807)∧∀t,Lf (t=sizedM s n.toNat)→K (.ret (.str t)) H
 | _,_,_=>False
theorem sized_ok:ValidF Tryz.prog gl0 79 cSized:=by
 refine valid_flat (enters_of (by kernel_rfl)) gl0_noY fun args H Q hc => ?_
 unfold cSized at hc
 split at hc
 ·rename_i s n
  obtain ⟨⟨h0,h1,h2⟩,hq⟩:=hc
  obtain ⟨m,rfl⟩:=Int.eq_ofNat_of_zero_le h0
  obtain ⟨hv,hb',h⟩:=sized_run s m (Q:=fun o H' _=>H'=[]∧(∃v,o=.ret v∧old 0 v=true∧noY v=true)∧Q o H) (by omega) (by omega) ⟨rfl,⟨_,rfl,rfl,rfl⟩,hq _ ⟨rfl⟩⟩
  exact ⟨rfl,rfl,_,1000,envFor04 sm0_ok _ _ _,rfl,h⟩
 ·exact hc.elim
end Go.Proofs.YtnhechnaemmdiaaGreatDoor

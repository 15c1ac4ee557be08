/-
  Chapter 18: the reference's words as numbers; contracts.
-/
import Derived.Test.YtjenieljapmehaaGreatDoorGmA
import Derived.Test.YtjenieljapmehaaGreatDoorG21F
set_option linter.unusedSimpArgs false
set_option linter.unusedVariables false
set_option linter.unusedSectionVars false
namespace Go.Proofs.YtjenieljapmehaaGreatDoor
open Go.RowKit
set_option maxRecDepth 1000000

theorem tb_big {x i:Nat} (hx:x<4294967296) (hi:32≤i):x.testBit i=false:=
 Nat.testBit_lt_two_pow (Nat.lt_of_lt_of_le hx (by rw[show (4294967296:Nat)=2^32 from rfl];exact Nat.pow_le_pow_right (by decide) hi))
theorem tb_mod (x:Nat) {i:Nat} (hi:i<32):(x%4294967296).testBit i=x.testBit i:=by
 rw[show (4294967296:Nat)=2^32 from rfl,Nat.testBit_mod_two_pow,decide_eq_true hi,Bool.true_and]
theorem turn_bits {x k:Nat} (hx:x<4294967296) (h0:0<k) (hk:k<32):trnM x k 32=bitsM (rotW (32-k) x):=wrd_ext fun j hj=>by
 have hm:(j+32-k)%32<32:=Nat.mod_lt _ (by decide)
 rw[decide_eq_true hm,Bool.true_and,rotW,Nat.testBit_or,tb_mod _ (by omega),tb_mod _ (by omega),Nat.testBit_mul_two_pow,show 32-(32-k)=k by omega,Nat.testBit_div_two_pow]
 by_cases h:31-j+k<32
 ·rw[decide_eq_false (by omega),Bool.false_and,Bool.false_or]
  congr 1
  omega
 ·rw[decide_eq_true (by omega),Bool.true_and,tb_big hx (i:=31-j+k) (by omega),Bool.or_false]
  congr 1
  omega
theorem mov_bits {x k:Nat} (hx:x<4294967296) (hk:k<32):movM x k (32-k)=bitsM (x/2^k):=wrd_ext fun j hj=>by
 rw[Nat.testBit_div_two_pow]
 by_cases h:k≤j
 ·rw[decide_eq_true (by omega),Bool.true_and]
  congr 1
  omega
 ·rw[decide_eq_false (by omega),Bool.false_and,tb_big hx (by omega)]
theorem xor_bits (x y:Nat):wrdM (xorG x y)=bitsM (xorW x y):=wrd_ext fun j hj=>by
 rw[xorG,xorW,Nat.testBit_xor,tb_mod _ (by omega),tb_mod _ (by omega)]
theorem and_bits (x y:Nat):wrdM (andG x y)=bitsM (andW x y):=wrd_ext fun j hj=>by
 rw[andG,andW,Nat.testBit_and,tb_mod _ (by omega),tb_mod _ (by omega)]
theorem not_bits (x:Nat):wrdM (notG x)=bitsM (notW x):=wrd_ext fun j hj=>by
 rw[notG,notW,Nat.testBit_xor,tb_mod _ (by omega),show (4294967295:Nat)=2^32-1 from rfl,Nat.testBit_two_pow_sub_one,decide_eq_true (by omega)]
 cases x.testBit (31-j)<;>rfl
theorem xor_run (la lb:List AV) (x y:Nat) (hla:la=bitsM x) (hlb:lb=bitsM y) (Q:Out→List Blk→Gh→Prop) (hq:Q (.ret (.agg (bitsM (xorW x y)))) [] {}):∃hv hb,goal_141 hv hb la lb (xorG x y) Q:=by
 have h:=two_run true la lb x y hla hlb Q (by rw[cond_true,xor_bits];exact hq)
 simpa only [cond_true] using h
theorem and_run (la lb:List AV) (x y:Nat) (hla:la=bitsM x) (hlb:lb=bitsM y) (Q:Out→List Blk→Gh→Prop) (hq:Q (.ret (.agg (bitsM (andW x y)))) [] {}):∃hv hb,goal_142 hv hb la lb (andG x y) Q:=by
 have h:=two_run false la lb x y hla hlb Q (by rw[cond_false,and_bits];exact hq)
 simpa only [cond_false] using h
def wbM (x i:Nat):AV:=AV.bool (x.testBit i)
def wL (x:Nat):List AV:=[wbM x 31,wbM x 30,wbM x 29,wbM x 28,wbM x 27,wbM x 26,wbM x 25,wbM x 24,wbM x 23,wbM x 22,wbM x 21,wbM x 20,wbM x 19,wbM x 18,wbM x 17,wbM x 16,wbM x 15,wbM x 14,wbM x 13,wbM x 12,wbM x 11,wbM x 10,wbM x 9,wbM x 8,wbM x 7,wbM x 6,wbM x 5,wbM x 4,wbM x 3,wbM x 2,wbM x 1,wbM x 0]
theorem old_wL (a x:Nat):oldL a (wL x)=true:=old_wrd a _
theorem noY_wL (x:Nat):noYL (wL x)=true:=noY_wrd _
def cWord:Con
 | [.int .i64 n],H,K=>Lf (0≤n∧n<4294967296)∧∀x:Nat,Lf ((x:Int)=n)→K (.ret (.agg (wL x))) H
 | _,_,_=>False
def cValue:Con
 | [.agg l],H,K=>∃x:Nat,Lf (l=wL x∧x<4294967296)∧∀n,Lf (n=(x:Int))→K (.ret (.int .i64 n)) H
 | _,_,_=>False
def cTurn:Con
 | [.agg l,.int .i64 k],H,K=>∃x:Nat,Lf (l=wL x∧x<4294967296∧0<k∧k<32)∧∀y:Nat,Lf (y=rotW (32-k.toNat) x)→K (.ret (.agg (wL y))) H
 | _,_,_=>False
def cMove:Con
 | [.agg l,.int .i64 k],H,K=>∃x:Nat,Lf (l=wL x∧x<4294967296∧0<k∧k<32)∧∀y:Nat,Lf (y=x/2^k.toNat)→K (.ret (.agg (wL y))) H
 | _,_,_=>False
def cXorB:Con
 | [.agg l,.agg m],H,K=>∃x y:Nat,Lf (l=wL x∧m=wL y)∧∀z:Nat,Lf (z=xorW x y)→K (.ret (.agg (wL z))) H
 | _,_,_=>False
def cAndB:Con
 | [.agg l,.agg m],H,K=>∃x y:Nat,Lf (l=wL x∧m=wL y)∧∀z:Nat,Lf (z=andW x y)→K (.ret (.agg (wL z))) H
 | _,_,_=>False
def cNotB:Con
 | [.agg l],H,K=>∃x:Nat,Lf (l=wL x)∧∀y:Nat,Lf (y=notW x)→K (.ret (.agg (wL y))) H
 | _,_,_=>False
theorem old_agg (l:List AV) (h:oldL 0 l=true):old 0 (.agg l)=true:=by rw[old];exact h
theorem noY_agg (l:List AV) (h:noYL l=true):noY (.agg l)=true:=by rw[noY];exact h
theorem old_1 (l:List AV) (h:oldL 0 l=true):oldL 0 [.agg l]=true:=by simp[oldL,old,h]
theorem noY_1 (l:List AV) (h:noYL l=true):noYL [.agg l]=true:=by simp[noYL,noY,h]
theorem word_ok:ValidF Tryz.prog gl0 153 cWord:=by
 refine valid_flat (enters_of (by kernel_rfl)) gl0_noY fun args H Q hc => ?_
 unfold cWord at hc
 split at hc
 ·rename_i n
  obtain ⟨⟨h0,h1⟩,hq⟩:=hc
  obtain ⟨x,rfl⟩:∃x:Nat,n=x:=⟨n.toNat,by omega⟩
  obtain ⟨hv,hb',h⟩:=word_run x (by omega) (Q:=fun o H' _=>H'=[]∧(∃v,o=.ret v∧old 0 v=true∧noY v=true)∧Q o H) ⟨rfl,⟨_,rfl,old_agg _ (old_wrd 0 _),noY_agg _ (noY_wrd _)⟩,hq _ ⟨rfl⟩⟩
  exact ⟨rfl,rfl,_,1000,envFor18 sm0_ok _ _ _,rfl,h⟩
 ·exact hc.elim
theorem value_ok:ValidF Tryz.prog gl0 155 cValue:=by
 refine valid_flat (enters_of (by kernel_rfl)) gl0_noY fun args H Q hc => ?_
 unfold cValue at hc
 split at hc
 ·rename_i l
  obtain ⟨x,⟨h0,h1⟩,hq⟩:=hc
  obtain ⟨hv,hb',h⟩:=value_run l x h0 h1 (Q:=fun o H' _=>H'=[]∧(∃v,o=.ret v∧old 0 v=true∧noY v=true)∧Q o H) ⟨rfl,⟨_,rfl,rfl,rfl⟩,hq _ ⟨rfl⟩⟩
  subst h0
  exact ⟨old_1 _ (old_wrd 0 _),noY_1 _ (noY_wrd _),_,1000,envFor18 sm0_ok _ _ _,rfl,h⟩
 ·exact hc.elim
theorem turn_ok:ValidF Tryz.prog gl0 157 cTurn:=by
 refine valid_flat (enters_of (by kernel_rfl)) gl0_noY fun args H Q hc => ?_
 unfold cTurn at hc
 split at hc
 ·rename_i l k
  obtain ⟨x,⟨h0,h1,h2,h3⟩,hq⟩:=hc
  obtain ⟨k,rfl⟩:∃n:Nat,k=n:=⟨k.toNat,by omega⟩
  have e:=turn_bits (x:=x) (k:=k) h1 (by omega) (by omega)
  obtain ⟨hv,hb',h⟩:=turned_run l x k h0 (by omega) (Q:=fun o H' _=>H'=[]∧(∃v,o=.ret v∧old 0 v=true∧noY v=true)∧Q o H) ⟨rfl,⟨_,rfl,old_agg _ (old_wrd 0 _),noY_agg _ (noY_wrd _)⟩,by rw[e];exact hq _ ⟨rfl⟩⟩
  subst h0
  exact ⟨by simp[oldL,old,old_wL],by simp[noYL,noY,noY_wL],_,1000,envFor18 sm0_ok _ _ _,rfl,h⟩
 ·exact hc.elim
theorem move_ok:ValidF Tryz.prog gl0 158 cMove:=by
 refine valid_flat (enters_of (by kernel_rfl)) gl0_noY fun args H Q hc => ?_
 unfold cMove at hc
 split at hc
 ·rename_i l k
  obtain ⟨x,⟨h0,h1,h2,h3⟩,hq⟩:=hc
  obtain ⟨k,rfl⟩:∃n:Nat,k=n:=⟨k.toNat,by omega⟩
  have e:=mov_bits (x:=x) (k:=k) h1 (by omega)
  obtain ⟨hv,hb',h⟩:=moved_run l x k h0 (by omega) (Q:=fun o H' _=>H'=[]∧(∃v,o=.ret v∧old 0 v=true∧noY v=true)∧Q o H) ⟨rfl,⟨_,rfl,old_agg _ (old_wrd 0 _),noY_agg _ (noY_wrd _)⟩,by rw[e];exact hq _ ⟨rfl⟩⟩
  subst h0
  exact ⟨by simp[oldL,old,old_wL],by simp[noYL,noY,noY_wL],_,1000,envFor18 sm0_ok _ _ _,rfl,h⟩
 ·exact hc.elim
theorem xorB_ok:ValidF Tryz.prog gl0 159 cXorB:=by
 refine valid_flat (enters_of (by kernel_rfl)) gl0_noY fun args H Q hc => ?_
 unfold cXorB at hc
 split at hc
 ·rename_i l m
  obtain ⟨x,y,⟨h0,h1⟩,hq⟩:=hc
  obtain ⟨hv,hb',h⟩:=xor_run l m x y h0 h1 (Q:=fun o H' _=>H'=[]∧(∃v,o=.ret v∧old 0 v=true∧noY v=true)∧Q o H) ⟨rfl,⟨_,rfl,old_agg _ (old_wrd 0 _),noY_agg _ (noY_wrd _)⟩,hq _ ⟨rfl⟩⟩
  subst h0;subst h1
  exact ⟨by simp[oldL,old,old_wL],by simp[noYL,noY,noY_wL],_,1000,envFor18 sm0_ok _ _ _,rfl,h⟩
 ·exact hc.elim
theorem andB_ok:ValidF Tryz.prog gl0 160 cAndB:=by
 refine valid_flat (enters_of (by kernel_rfl)) gl0_noY fun args H Q hc => ?_
 unfold cAndB at hc
 split at hc
 ·rename_i l m
  obtain ⟨x,y,⟨h0,h1⟩,hq⟩:=hc
  obtain ⟨hv,hb',h⟩:=and_run l m x y h0 h1 (Q:=fun o H' _=>H'=[]∧(∃v,o=.ret v∧old 0 v=true∧noY v=true)∧Q o H) ⟨rfl,⟨_,rfl,old_agg _ (old_wrd 0 _),noY_agg _ (noY_wrd _)⟩,hq _ ⟨rfl⟩⟩
  subst h0;subst h1
  exact ⟨by simp[oldL,old,old_wL],by simp[noYL,noY,noY_wL],_,1000,envFor18 sm0_ok _ _ _,rfl,h⟩
 ·exact hc.elim
theorem notB_ok:ValidF Tryz.prog gl0 161 cNotB:=by
 refine valid_flat (enters_of (by kernel_rfl)) gl0_noY fun args H Q hc => ?_
 unfold cNotB at hc
 split at hc
 ·rename_i l
  obtain ⟨x,⟨h0⟩,hq⟩:=hc
  obtain ⟨hv,hb',h⟩:=not_run l x h0 (Q:=fun o H' _=>H'=[]∧(∃v,o=.ret v∧old 0 v=true∧noY v=true)∧Q o H) ⟨rfl,⟨_,rfl,old_agg _ (old_wrd 0 _),noY_agg _ (noY_wrd _)⟩,by rw[not_bits];exact hq _ ⟨rfl⟩⟩
  subst h0
  exact ⟨old_1 _ (old_wrd 0 _),noY_1 _ (noY_wrd _),_,1000,envFor18 sm0_ok _ _ _,rfl,h⟩
 ·exact hc.elim
end Go.Proofs.YtjenieljapmehaaGreatDoor

set_option linter.unusedSimpArgs false
set_option linter.unusedVariables false
set_option linter.unusedSectionVars false
namespace Go.Proofs.YtjenieljapmehaaGreatDoor
open Go.RowKit
set_option maxRecDepth 1000000

noncomputable def e18h (sm:SM) (hz:Nat→Bool) (inv:Nat→Option (S→List (List LInv))) (hv:Nat→Option Pa) (hb:Nat→Option Bool):Env:=
 { fn:=fun f=>lookF f tabA,sm:=sm,gl:=gl0,inv:=inv,hv:=hv,hb:=hb,hz:=hz }
theorem envFor18h {sm:SM} (h:∀f g,sm f=some g→ValidF Tryz.prog gl0 f g) (hz:Nat→Bool) (inv:Nat→Option (S→List (List LInv))) (hv:Nat→Option Pa) (hb:Nat→Option Bool):EnvFor Tryz.prog (e18h sm hz inv hv hb):=
 ⟨mixed18,names18,tabA_ok,h⟩
def cells6M (l:List Nat):List AV:=l.map fun (n:Nat)=>AV.int .i64 (n:Int)
def allP (l:List Nat) (p i:Nat):Bool:=(l.take i).all fun q=>p%q !=0
def prK:Nat→List Nat
 | 0=>[]
 | c+1=>if allP (prK c) (c+2) (prK c).length then prK c++[c+2] else prK c
def inv_87a (s:S):List (List LInv):=[[
  { α:=Nat,pre:=fun x=>Lf (x=0),st:=fun _=>⟨mkT [(0,s.tm.get 0),(3,.nils),(4,.int .i64 2)],[]⟩,mu:=fun _=>1000 },
  { α:=Nat×List Nat,pre:=fun x=>Lf (1≤x.1∧x.1≤310∧x.2=prK x.1),st:=fun x=>⟨mkT [(0,s.tm.get 0),(3,.sl 0 x.2.length 0 x.2.length 1),(4,.int .i64 (x.1+2:Nat))],[⟨.grow,true,cells6M x.2⟩]⟩,mu:=fun x=>311-x.1 }]]
def inv_87b (s:S):List (List LInv):=match s.tm.get 3,s.tm.get 4,s.hp with
 | .sl id t o n z,.int k p,[⟨bk,f,cs⟩]=>[[
  { α:=Nat×Bool,pre:=fun x=>Lf (x.1≤n∧x.2=allP (wsM cs) p.toNat x.1),st:=fun x=>⟨mkT [(0,s.tm.get 0),(3,.sl id t o n z),(4,.int k p),(5,.bool x.2),(6,.int .i64 (x.1:Nat))],[⟨bk,f,cs⟩]⟩,mu:=fun x=>n-x.1 }]]
 | t3,t4,hp=>[[{ α:=Nat,pre:=fun x=>Lf (x=0),st:=fun _=>⟨mkT [(0,s.tm.get 0),(3,t3),(4,t4),(5,.bool true),(6,.int .i64 0)],hp⟩,mu:=fun _=>0 }]]
noncomputable def env_87 (hv:Nat→Option Pa) (hb:Nat→Option Bool):Env:=e18h sm0 (fun k=>Nat.beq k 86045) (fun i=>bif Nat.beq i 21000 then some inv_87a else bif Nat.beq i 21002 then some inv_87b else none) hv hb
noncomputable def goal_87 (hv:Nat→Option Pa) (hb:Nat→Option Bool) (Q:Out→List Blk→Gh→Prop):Prop:=
 callx (env_87 hv hb) (wpx (env_87 hv hb) 1000) 21 [.int .i64 64] [] {} Q
theorem vc_87 (Q:Out→List Blk→Gh→Prop):goal_87 (lookV [(86024,.int .i64),(86029,.int .i64),(86031,.int .i64),(86035,.int .i64),(86037,.int .i64),(86039,.int .i64),(86040,.int .i64),(86033,.int .i64),(86034,.int
 .i64),(86044,.int .i64),(86027,.int .i64),(86028,.int .i64)]) (lookB []) Q=(((∃x_0:Nat,Lf (x_0=0)∧eqqQ (AV.int .i64 64)∧AV.nils=AV.nils∧eqqQ (AV.int .i64 2)∧True)∨∃x_0:Nat×List Nat,Lf (1≤x_0.1∧x_0.1 ≤
 310∧x_0.2=prK x_0.1)∧False)∧(∀x_0:Nat,Lf (x_0=0)→exI .i64 0 fun n_1=>bif decide (n_1<64) then (∃x_2:Nat,Lf (x_2=0)∧eqqQ (AV.int .i64 64)∧AV.nils=AV.nils∧eqqQ (AV.bool true)∧eqqQ (AV.int .i64 2)∧eqqQ
 (AV.int .i64 0)∧True)∧∀x_2:Nat,Lf (x_2=0)→exI .i64 0 fun n_3=>exI .i64 0 fun n_4=>bif decide (n_3<n_4) then exI .i64 2 fun n_5=>exI .i64 0 fun n_6=>False else exI .i64 2 fun n_5=>exI .i64 2 fun n_6=>exW .i64 (n_6
 + 1) fun n_7=>(True∧(0:Nat)=(0:Nat))∧((∃y_8:Nat,Lf (y_8=0)∧(1000:Nat)<(1000:Nat)∧False)∨∃y_8:Nat×List Nat,Lf (1≤y_8.1∧y_8.1≤310∧y_8.2=prK y_8.1)∧311-y_8.1<1000∧[AV.int .i64 n_5] =
 cells6M y_8.2∧eqqQ (AV.int .i64 64)∧AV.sl 0 1 0 1 1=AV.sl 0 y_8.2.length 0 y_8.2.length 1∧AV.int .i64 n_7=AV.int .i64 ((y_8.1+2:Nat):Int)∧True) else Q (.ret .nils) [] {})∧∀x_0:Nat×List Nat,Lf (1≤x_0.1∧x_0.1 ≤
 310∧x_0.2=prK x_0.1)→ckQ (Nat.beq (cells6M x_0.2).length x_0.2.length) (exI .i64 (x_0.2.length:Int) fun n_1=>bif decide (n_1<64) then (∃x_2:Nat×Bool,Lf (x_2.1≤x_0.2.length∧x_2.2=allP (wsM (cells6M x_0.2)) ((x_0.1 +
 2:Nat):Int).toNat x_2.1)∧eqqQ (cells6M x_0.2)∧eqqQ (AV.int .i64 64)∧eqqQ (AV.sl 0 x_0.2.length 0 x_0.2.length 1)∧AV.bool true=AV.bool x_2.2∧eqqQ (AV.int .i64 ((x_0.1+2:Nat):Int))∧AV.int .i64 0=AV.int .i64 (x_2.1 :
 Int)∧True)∧∀x_2:Nat×Bool,Lf (x_2.1≤x_0.2.length∧x_2.2=allP (wsM (cells6M x_0.2)) ((x_0.1+2:Nat):Int).toNat x_2.1)→exI .i64 (x_2.1:Int) fun n_3=>ckQ (Nat.beq (cells6M x_0.2).length x_0.2.length) (exI .i64
 (x_0.2.length:Int) fun n_4=>bif decide (n_3<n_4) then exI .i64 ((x_0.1+2:Nat):Int) fun n_5=>exI .i64 (x_2.1:Int) fun n_6=>ckQ (decide (0≤n_6)&&Nat.blt n_6.toNat x_0.2.length&&Nat.beq (cells6M x_0.2).length
 x_0.2.length&&true) (ckQ (Nat.beq (cells6M x_0.2).length x_0.2.length&&Nat.blt (0+n_6.toNat*1) x_0.2.length) (exV .i64 ((((cells6M x_0.2).drop (0+n_6.toNat*1)).take 1).getD 0 AV.undef) fun n_7=>ckQ (n_7 !=0&&true) (exI
 .i64 (n_5.tmod n_7) fun n_8=>bif n_8==0 then exI .i64 (x_2.1:Int) fun n_9=>exW .i64 (n_9+1) fun n_10=>(True∧(0:Nat)=(0:Nat))∧∃y_11:Nat×Bool,Lf (y_11.1≤x_0.2.length∧y_11.2=allP (wsM (cells6M x_0.2)) ((x_0.1
 + 2:Nat):Int).toNat y_11.1)∧x_0.2.length-y_11.1<x_0.2.length-x_2.1∧eqqQ (cells6M x_0.2)∧eqqQ (AV.int .i64 64)∧eqqQ (AV.sl 0 x_0.2.length 0 x_0.2.length 1)∧AV.bool false=AV.bool y_11.2∧eqqQ (AV.int .i64 ((x_0.1+2 :
 Nat):Int))∧AV.int .i64 n_10=AV.int .i64 (y_11.1:Int)∧True else exI .i64 (x_2.1:Int) fun n_9=>exW .i64 (n_9+1) fun n_10=>(True∧(0:Nat)=(0:Nat))∧∃y_11:Nat×Bool,Lf (y_11.1≤x_0.2.length∧y_11.2=allP (wsM
 (cells6M x_0.2)) ((x_0.1+2:Nat):Int).toNat y_11.1)∧x_0.2.length-y_11.1<x_0.2.length-x_2.1∧eqqQ (cells6M x_0.2)∧eqqQ (AV.int .i64 64)∧eqqQ (AV.sl 0 x_0.2.length 0 x_0.2.length 1)∧AV.bool x_2.2=AV.bool y_11.2∧eqqQ
 (AV.int .i64 ((x_0.1+2:Nat):Int))∧AV.int .i64 n_10=AV.int .i64 (y_11.1:Int)∧True))) else bif x_2.2 then exI .i64 ((x_0.1+2:Nat):Int) fun n_5=>ckQ (Nat.beq (cells6M x_0.2).length x_0.2.length&&true&&Nat.beq (0 +
 x_0.2.length*1) x_0.2.length&&Nat.ble (x_0.2.length+1) 1099511627776&&Nat.ble ((x_0.2.length+1)*8) 1099511627776) (exI .i64 ((x_0.1+2:Nat):Int) fun n_6=>exW .i64 (n_6+1) fun n_7=>(True∧(0:Nat)=(0:Nat))∧((∃
 y_8:Nat,Lf (y_8=0)∧1000<311-x_0.1∧False)∨∃y_8:Nat×List Nat,Lf (1≤y_8.1∧y_8.1≤310∧y_8.2=prK y_8.1)∧311-y_8.1<311-x_0.1∧cells6M x_0.2++[AV.int .i64 n_5]=cells6M y_8.2∧eqqQ (AV.int .i64 64) ∧
 AV.sl 0 (x_0.2.length+1) 0 (x_0.2.length+1) 1=AV.sl 0 y_8.2.length 0 y_8.2.length 1∧AV.int .i64 n_7=AV.int .i64 ((y_8.1+2:Nat):Int)∧True)) else exI .i64 ((x_0.1+2:Nat):Int) fun n_5=>exW .i64 (n_5+1) fun n_6=>
 (True∧(0:Nat)=(0:Nat))∧((∃y_7:Nat,Lf (y_7=0)∧1000<311-x_0.1∧False)∨∃y_7:Nat×List Nat,Lf (1≤y_7.1∧y_7.1≤310∧y_7.2=prK y_7.1)∧311-y_7.1<311-x_0.1∧cells6M x_0.2=cells6M y_7.2∧eqqQ
 (AV.int .i64 64)∧AV.sl 0 x_0.2.length 0 x_0.2.length 1=AV.sl 0 y_7.2.length 0 y_7.2.length 1∧AV.int .i64 n_6=AV.int .i64 ((y_7.1+2:Nat):Int)∧True)) else Q (.ret (.sl 0 x_0.2.length 0 x_0.2.length 1)) [Blk.mk BK.grow true
 (cells6M x_0.2)] {})):=by kernel_rfl

end Go.Proofs.YtjenieljapmehaaGreatDoor

set_option linter.unusedSimpArgs false
set_option linter.unusedVariables false
set_option linter.unusedSectionVars false
namespace Go.Proofs.YtjenieljapmehaaGreatDoor
open Go.RowKit
set_option maxRecDepth 1000000

theorem c6_len (l:List Nat):(cells6M l).length=l.length:=by rw[cells6M,List.length_map]
theorem c6_app (l r:List Nat):cells6M l++cells6M r=cells6M (l++r):=by rw[cells6M,cells6M,cells6M,List.map_append]
theorem c6_snoc (l:List Nat) (x:Nat):cells6M l++[AV.int .i64 (x:Int)]=cells6M (l++[x]):=c6_app l [x]
theorem eq_c6:∀l:List Nat,eqAVL (cells6M l) (cells6M l)=true
 | []=>rfl
 | x::l=>by
  have:=eq_c6 l
  rw[cells6M] at this
  simp[cells6M,eqAVL,eqAV,this]
theorem c6_sub (l:List Nat) (k n:Nat):List.take n (List.drop k (cells6M l))=cells6M (List.take n (List.drop k l)):=by
 rw[cells6M,cells6M,List.map_take,List.map_drop]
theorem ws_c6:∀l:List Nat,wsM (cells6M l)=l
 | []=>rfl
 | x::l=>by
  have:=ws_c6 l
  rw[wsM,cells6M,List.map_cons,List.map_cons]
  rw[wsM,cells6M] at this
  rw[this]
  rfl
theorem ld6B {w:List Nat} {n:Int} {j:Nat} (hn:n=j) (hj:j<w.length) {K:Int→Prop} (h:K (w.getD j 0:Nat)) :
  ∃m,List.getD (List.take 1 (List.drop (0+n.toNat*1) (cells6M w))) 0 AV.undef=AV.int .i64 m∧K m:=by
 refine ⟨_, ?_,h⟩
 subst hn
 rw[show 0+(j:Int).toNat*1=j by omega,List.getD_eq_getElem?_getD,List.getElem?_take_of_lt (by omega),List.getElem?_drop,cells6M,List.getElem?_map,Nat.add_zero,List.getElem?_eq_getElem hj]
 rw[List.getD_eq_getElem?_getD,List.getElem?_eq_getElem hj]
 rfl
theorem ld6 {w:List Nat} {n:Int} {j m:Nat} (hm:m=w.length) (hn:n=j) (hj:j<w.length) {K:Int→Prop} (h:K (w.getD j 0:Nat)) :
  bif ((decide (0≤n)&&Nat.blt n.toNat m)&&Nat.beq (cells6M w).length m)&&true then (bif Nat.beq (cells6M w).length m&&Nat.blt (0+n.toNat*1) m then (∃m,List.getD (List.take 1 (List.drop (0+n.toNat*1) (cells6M w))) 0 AV.undef=AV.int .i64 m∧K m) else False) else False:=by
 subst hm
 refine ckI (by rw[c6_len];simp;omega) (ckI (by rw[c6_len];simp;omega) (ld6B hn hj h))
theorem pr_mono:∀ {a b:Nat},a≤b→(prK a).length≤(prK b).length
 | a,0,h=>by rw[show a=0 by omega];exact Nat.le_refl _
 | a,b+1,h=>by
  rcases Nat.lt_or_ge a (b+1) with g | g
  ·refine Nat.le_trans (pr_mono (show a≤b by omega)) ?_
   rw[prK]
   split
   ·rw[List.length_append];omega
   ·exact Nat.le_refl _
  ·rw[show a=b+1 by omega];exact Nat.le_refl _
def primL:List Nat:=[2,3,5,7,11,13,17,19,23,29,31,37,41,43,47,53,59,61,67,71,73,79,83,89,97,101,103,107,109,113,127,131,137,139,149,151,157,163,167,173,179,181,191,193,197,199,211,223,227,229,233,239,241,251,257,263,269,271,277,281,283,293,307,311]
theorem pr310:prK 310=primL:=by decide +kernel
theorem pr309:(prK 309).length=63:=by decide +kernel
theorem pr_two:∀c:Nat,∀q∈prK c,2≤q
 | 0,q,h=>by cases h
 | c+1,q,h=>by
  rw[prK] at h
  split at h
  ·rw[List.mem_append,List.mem_singleton] at h
   rcases h with h | rfl
   ·exact pr_two c q h
   ·omega
  ·exact pr_two c q h
theorem all_succ {l:List Nat} {p i:Nat} (hi:i<l.length):allP l p (i+1)=(allP l p i&&(p%l.getD i 0 !=0)):=by
 rw[allP,List.take_add_one,List.getElem?_eq_getElem hi,List.all_append,List.getD_eq_getElem?_getD,List.getElem?_eq_getElem hi]
 simp[allP]
theorem primes_run (Q:Out→List Blk→Gh→Prop) (hq:Q (.ret (.sl 0 64 0 64 1)) [⟨.grow,true,cells6M primL⟩] {}):∃hv hb,goal_87 hv hb Q:=by
 obtain ⟨hv',hb',e'⟩:∃hv hb,goal_87 hv hb Q=_:=⟨_,_,vc_87 Q⟩
 refine ⟨hv',hb',e'.mpr ?_⟩
 clear e'
 refine ⟨.inl ⟨0,⟨rfl⟩,rfl,rfl,rfl,trivial⟩, ?_, ?_⟩
 ·rintro _ ⟨rfl⟩
  refine ⟨_,rfl,splitD (fun _=>⟨⟨0,⟨rfl⟩,rfl,rfl,rfl,rfl,rfl,trivial⟩, ?_⟩) (fun h=>absurd (show (0:Int)<64 by decide) h)⟩
  rintro _ ⟨rfl⟩
  refine ⟨_,rfl,_,rfl,splitD (fun h=>absurd h (by decide)) (fun _=>⟨_,rfl,_,rfl,wrapI (by decide) (by decide) ⟨⟨trivial,rfl⟩,.inr ⟨(1,[2]),⟨Nat.le_refl _,by decide,by decide⟩,by decide,rfl,rfl,rfl,rfl,trivial⟩⟩⟩)⟩
 rintro ⟨c,l⟩ ⟨h1,h2,h3⟩
 dsimp only at h1 h2 h3
 dsimp only
 have hl:(cells6M l).length=l.length:=c6_len l
 refine ckI (by rw[hl,nbeq]) ⟨_,rfl,splitD (fun h4 => ?_) (fun h4 => ?_)⟩
 ·have hc:c<310:=by
   rcases Nat.lt_or_ge c 310 with g | g
   ·exact g
   ·rw[show c=310 by omega,pr310] at h3
    rw[h3] at h4
    exact absurd h4 (by decide)
  have el:l=prK c:=h3
  rw[ws_c6,Int.toNat_natCast]
  refine ⟨⟨(0,true),⟨Nat.zero_le _,by simp[allP]⟩,rfl,rfl,rfl,rfl,rfl,rfl,trivial⟩, ?_⟩
  rintro ⟨i,b⟩ ⟨h5,h6⟩
  dsimp only at h5 h6
  dsimp only
  refine ⟨_,rfl,ckI (by rw[hl,nbeq]) ⟨_,rfl,splitD (fun h7 => ?_) (fun h7 => ?_)⟩⟩
  ·have hi:i<l.length:=by omega
   have hq2:2≤l.getD i 0:=by
    rw[List.getD_eq_getElem?_getD,List.getElem?_eq_getElem hi]
    exact pr_two c _ (by rw[←el];exact List.getElem_mem hi)
   have ha:=all_succ (l:=l) (p:=c+2) hi
   refine ⟨_,rfl,_,rfl,ld6 rfl rfl hi ?_⟩
   generalize l.getD i 0=q at hq2 ha
   have tm:Int.tmod ((c+2:Nat):Int) (q:Int)=(((c+2)%q:Nat):Int):=by rw[Int.tmod_eq_emod_of_nonneg (by omega)];exact (Int.natCast_emod _ _).symm
   refine ckI (by rw[Bool.and_true,bne_iff_ne];omega) ⟨_,congrArg _ tm,splitE (fun h8 => ?_) (fun h8 => ?_)⟩
   ·have h9:(c+2)%q=0:=by omega
    exact ⟨_,rfl,wrapI (by omega) (by omega) ⟨⟨trivial,rfl⟩,(i+1,false),⟨hi,by rw[ha,h9];simp⟩,by show l.length-(i+1)<l.length-i;omega,rfl,rfl,rfl,rfl,rfl,rfl,trivial⟩⟩
   ·have h9:(c+2)%q≠0:=by omega
    exact ⟨_,rfl,wrapI (by omega) (by omega) ⟨⟨trivial,rfl⟩,(i+1,b),⟨hi,by show b=_;rw[ha,h6];simp[h9]⟩,by show l.length-(i+1)<l.length-i;omega,rfl,rfl,rfl,rfl,rfl,rfl,trivial⟩⟩
  ·have hi:i=l.length:=by omega
   subst hi
   cases hb:b with
   | true=>
    have hp:prK (c+1)=l++[c+2]:=by rw[prK,←el,←h6,hb];rfl
    refine ⟨_,rfl,ckI (by rw[hl];simp;omega) ⟨_,rfl,wrapI (by omega) (by omega) ⟨⟨trivial,rfl⟩,.inr ⟨(c+1,l++[c+2]),⟨by show 1≤c+1;omega,hc,hp.symm⟩,by show 311-(c+1)<311-c;omega,c6_snoc l (c+2),rfl,by rw[List.length_append];rfl,congrArg _ (by show ((c+2:Nat):Int)+1=((c+1+2:Nat):Int);omega),trivial⟩⟩⟩⟩
   | false=>
    have hp:prK (c+1)=l:=by rw[prK,←el,←h6,hb];rfl
    refine ⟨_,rfl,wrapI (by omega) (by omega) ⟨⟨trivial,rfl⟩,.inr ⟨(c+1,l),⟨by show 1≤c+1;omega,hc,hp.symm⟩,by show 311-(c+1)<311-c;omega,rfl,rfl,rfl,congrArg _ (by show ((c+2:Nat):Int)+1=((c+1+2:Nat):Int);omega),trivial⟩⟩⟩
 ·have hc:c=310:=by
   rcases Nat.lt_or_ge c 310 with g | g
   ·have:=pr_mono (show c≤309 by omega)
    rw[pr309,←h3] at this
    omega
   ·omega
  rw[hc,pr310] at h3
  rw[h3]
  exact hq
def cPrim:Con
 | [.int .i64 n],H,K=>Lf (n=64)∧K (.ret (.lst 0 (cells6M primL) 64 1)) H
 | _,_,_=>False
theorem prim_ok:ValidF Tryz.prog gl0 21 cPrim:=by
 refine valid_frz (enters_of (by kernel_rfl)) gl0_noY 9 id (fun a=>wk_refl a) fun args H Q hc => ?_
 unfold cPrim at hc
 split at hc
 ·obtain ⟨⟨rfl⟩,hq⟩:=hc
  obtain ⟨hv,hb',h⟩:=primes_run (Q:=fun o H' _=>∃v,o=.ret v∧Q (.ret (id (frzV 0 H' 9 v))) H) ⟨_,rfl,hq⟩
  exact ⟨rfl,rfl,_,1000,envFor18h sm0_ok _ _ _ _,rfl,h⟩
 ·exact hc.elim
abbrev cel6 (v:W8):List AV:=[.int .i64 (v.a:Int),.int .i64 (v.b:Int),.int .i64 (v.c:Int),.int .i64 (v.d:Int),.int .i64 (v.e:Int),.int .i64 (v.f:Int),.int .i64 (v.g:Int),.int .i64 (v.h:Int)]
end Go.Proofs.YtjenieljapmehaaGreatDoor

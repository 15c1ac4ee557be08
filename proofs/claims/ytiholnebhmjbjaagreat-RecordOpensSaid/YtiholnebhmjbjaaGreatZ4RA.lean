/-
  Chapter 4: the reference's sum.
-/
import Derived.Test.YtiholnebhmjbjaaGreatZ4V
set_option linter.unusedSimpArgs false
set_option linter.unusedVariables false
namespace Go.Proofs.YtiholnebhmjbjaaGreat
open Go.RowKit
set_option maxRecDepth 1000000

theorem getN {l:List Nat} {j m:Nat} (hj:j<l.length) (hm:m=j) {K:Int→Prop} (hk:K ((l.getD j 0:Nat):Int)):∃n:Int,(cellsNM l).getD m AV.undef=AV.int .i64 n∧K n:=by
 subst hm
 refine ⟨_, ?_,hk⟩
 simp[cellsNM,List.getD_eq_getElem?_getD,hj]
theorem val_app (a b:List Nat):valNM (a++b)=valNM a+256^a.length*valNM b:=by
 induction a with
 | nil=>simp[valNM]
 | cons x a ih=>
  rw[List.cons_append,valNM,ih,valNM,List.length_cons,Nat.pow_succ,Nat.mul_comm (256^a.length) 256,Nat.mul_assoc,Nat.mul_add]
  omega
theorem val_drop (a:List Nat) (i:Nat):valNM (a.drop i)=a.getD i 0+256*valNM (a.drop (i+1)):=by
 by_cases h:i<a.length
 ·rw[List.drop_eq_getElem_cons h,valNM,List.getD_eq_getElem?_getD,List.getElem?_eq_getElem h];rfl
 ·rw[List.drop_of_length_le (by omega),List.drop_of_length_le (by omega),List.getD_eq_getElem?_getD,List.getElem?_eq_none (by omega)];rfl
abbrev X33:=Nat×Nat×List Nat
def pre33 (a b:List Nat) (p:X33):Prop:=p.2.2.length=p.1∧p.2.1≤1∧p.1+p.2.1≤max a.length b.length+1∧(∀j,p.2.2.getD j 0≤255)∧valNM p.2.2+256^p.1*(p.2.1+valNM (a.drop p.1)+valNM (b.drop p.1))=valNM a+valNM b∧(p.1≤max a.length b.length∨256^max a.length b.length≤valNM p.2.2)
def inv_33a (ta tb:Nat) (a b:List Nat):LInv where
 α:=X33
 pre p:=Lf (p=(0,0,[]))
 st p:=⟨mkT [(0,.lst ta (cellsNM a) a.length 1),(1,.lst tb (cellsNM b) b.length 1),(5,.nils),(6,.int .i64 (p.2.1:Nat)),(7,.int .i64 (p.1:Nat))],[]⟩
 mu p:=3*(max a.length b.length)+9
def inv_33b (ta tb:Nat) (a b:List Nat):LInv where
 α:=X33
 pre p:=Lf (pre33 a b p)
 st p:=⟨mkT [(0,.lst ta (cellsNM a) a.length 1),(1,.lst tb (cellsNM b) b.length 1),(5,.sl 0 p.1 0 p.1 1),(6,.int .i64 (p.2.1:Nat)),(7,.int .i64 (p.1:Nat))],[⟨.grow,true,cellsNM p.2.2⟩]⟩
 mu p:=2*(max a.length b.length+1-p.1)+p.2.1
noncomputable def env_33 (hv:Nat→Option Pa) (hb:Nat→Option Bool) (ta tb:Nat) (a b:List Nat):Env := { e04 sm0 (fun i=>bif Nat.beq i 88000 then some (fun _=>[[inv_33a ta tb a b,inv_33b ta tb a b]]) else none) hv hb with hz:=fun k=>Nat.beq k 360495 }
noncomputable def goal_33 (hv:Nat→Option Pa) (hb:Nat→Option Bool) (ta tb:Nat) (a b:List Nat) (Q:Out→List Blk→Gh→Prop):Prop:=
 callx (env_33 hv hb ta tb a b) (wpx (env_33 hv hb ta tb a b) 1000) 88 [.lst ta (cellsNM a) a.length 1,.lst tb (cellsNM b) b.length 1] [] {} Q
abbrev q4RA_33_0 (a:List Nat) (n_2:Int) (x_0:Nat×Nat×List Nat) (b:List Nat) (ta:Nat) (tb:Nat):Prop:=
AV.int .i64 (a.length:Int)=AV.int .i64 n_2∧bif decide ((x_0.1:Int)<n_2) then ckQ (Nat.blt (x_0.1:Int).toNat a.length&&true) (ckQ (Nat.blt ((x_0.1:Int).toNat*1) (cellsNM a).length) (exV .i64 ((cellsNM a).getD ((x_0.1 :
 Int).toNat*1) AV.undef) fun n_3=>exW .i64 ((x_0.2.1:Int)+n_3) fun n_4=>exI .i64 (b.length:Int) fun n_5=>bif decide ((x_0.1:Int)<n_5) then ckQ (Nat.blt (x_0.1:Int).toNat b.length&&true) (ckQ (Nat.blt ((x_0.1 :
 Int).toNat*1) (cellsNM b).length) (exV .i64 ((cellsNM b).getD ((x_0.1:Int).toNat*1) AV.undef) fun n_6=>exW .i64 (n_4+n_6) fun n_7=>exI .i64 (n_7.tmod 256) fun n_8=>ckQ (Nat.beq (cellsNM x_0.2.2).length x_0.1&&true &&
 Nat.beq (0+x_0.1*1) x_0.1&&Nat.ble (x_0.1+1) 1099511627776&&Nat.ble ((x_0.1+1)*8) 1099511627776) (exW .i64 (n_7.tdiv 256) fun n_9=>exW .i64 ((x_0.1:Int)+1) fun n_10=>(True∧(0:Nat)=(0:Nat))∧((∃y_11:Nat ×
 Nat×List Nat,Lf (y_11=Prod.mk (0:Nat) (Prod.mk (0:Nat) []))∧3*Max.max a.length b.length+9<2*(Max.max a.length b.length+1-x_0.1)+x_0.2.1∧False)∨∃y_11:Nat×Nat×List Nat,Lf (pre33 a b y_11)∧2*(Max.max
 a.length b.length+1-y_11.1)+y_11.2.1<2*(Max.max a.length b.length+1-x_0.1)+x_0.2.1∧cellsNM x_0.2.2++[AV.int .i64 n_8]=cellsNM y_11.2.2∧eqqQ (AV.lst ta (cellsNM a) a.length 1)∧eqqQ (AV.lst tb (cellsNM b) b.length
 1)∧AV.int .i64 n_10=AV.int .i64 (y_11.1:Int)∧AV.sl 0 (x_0.1+1) 0 (x_0.1+1) 1=AV.sl 0 y_11.1 0 y_11.1 1∧AV.int .i64 n_9=AV.int .i64 (y_11.2.1:Int)∧True)))) else exI .i64 (n_4.tmod 256) fun n_6=>ckQ (Nat.beq (cellsNM
 x_0.2.2).length x_0.1&&true&&Nat.beq (0+x_0.1*1) x_0.1&&Nat.ble (x_0.1+1) 1099511627776&&Nat.ble ((x_0.1+1)*8) 1099511627776) (exW .i64 (n_4.tdiv 256) fun n_7=>exW .i64 ((x_0.1:Int)+1) fun n_8=>(True∧(0:Nat) =
 (0:Nat))∧((∃y_9:Nat×Nat×List Nat,Lf (y_9=Prod.mk (0:Nat) (Prod.mk (0:Nat) []))∧3*Max.max a.length b.length+9<2*(Max.max a.length b.length+1-x_0.1)+x_0.2.1∧False)∨∃y_9:Nat×Nat×List Nat,Lf (pre33
 a b y_9)∧2*(Max.max a.length b.length+1-y_9.1)+y_9.2.1<2*(Max.max a.length b.length+1-x_0.1)+x_0.2.1∧cellsNM x_0.2.2++[AV.int .i64 n_6]=cellsNM y_9.2.2∧eqqQ (AV.lst ta (cellsNM a) a.length 1)∧eqqQ (AV.lst tb
 (cellsNM b) b.length 1)∧AV.int .i64 n_8=AV.int .i64 (y_9.1:Int)∧AV.sl 0 (x_0.1+1) 0 (x_0.1+1) 1=AV.sl 0 y_9.1 0 y_9.1 1∧AV.int .i64 n_7=AV.int .i64 (y_9.2.1:Int)∧True)))) else exI .i64 (b.length:Int) fun n_3=>bif
 decide ((x_0.1:Int)<n_3) then ckQ (Nat.blt (x_0.1:Int).toNat b.length&&true) (ckQ (Nat.blt ((x_0.1:Int).toNat*1) (cellsNM b).length) (exV .i64 ((cellsNM b).getD ((x_0.1:Int).toNat*1) AV.undef) fun n_4=>exW .i64 ((x_0.2.1
 : Int)+n_4) fun n_5=>exI .i64 (n_5.tmod 256) fun n_6=>ckQ (Nat.beq (cellsNM x_0.2.2).length x_0.1&&true&&Nat.beq (0+x_0.1*1) x_0.1&&Nat.ble (x_0.1+1) 1099511627776&&Nat.ble ((x_0.1+1)*8) 1099511627776) (exW .i64
 (n_5.tdiv 256) fun n_7=>exW .i64 ((x_0.1:Int)+1) fun n_8=>(True∧(0:Nat)=(0:Nat))∧((∃y_9:Nat×Nat×List Nat,Lf (y_9=Prod.mk (0:Nat) (Prod.mk (0:Nat) []))∧3*Max.max a.length b.length+9<2*(Max.max
 a.length b.length+1-x_0.1)+x_0.2.1∧False)∨∃y_9:Nat×Nat×List Nat,Lf (pre33 a b y_9)∧2*(Max.max a.length b.length+1-y_9.1)+y_9.2.1<2*(Max.max a.length b.length+1-x_0.1)+x_0.2.1∧cellsNM x_0.2.2 ++
 [AV.int .i64 n_6]=cellsNM y_9.2.2∧eqqQ (AV.lst ta (cellsNM a) a.length 1)∧eqqQ (AV.lst tb (cellsNM b) b.length 1)∧AV.int .i64 n_8=AV.int .i64 (y_9.1:Int)∧AV.sl 0 (x_0.1+1) 0 (x_0.1+1) 1=AV.sl 0 y_9.1 0 y_9.1 1∧AV.int
 .i64 n_7=AV.int .i64 (y_9.2.1:Int)∧True)))) else exI .i64 ((x_0.2.1:Int).tmod 256) fun n_4=>ckQ (Nat.beq (cellsNM x_0.2.2).length x_0.1&&true&&Nat.beq (0+x_0.1*1) x_0.1&&Nat.ble (x_0.1+1) 1099511627776&&Nat.ble
 ((x_0.1+1)*8) 1099511627776) (exW .i64 ((x_0.2.1:Int).tdiv 256) fun n_5=>exW .i64 ((x_0.1:Int)+1) fun n_6=>(True∧(0:Nat)=(0:Nat))∧((∃y_7:Nat×Nat×List Nat,Lf (y_7=Prod.mk (0:Nat) (Prod.mk (0:Nat) [])) ∧
 3*Max.max a.length b.length+9<2*(Max.max a.length b.length+1-x_0.1)+x_0.2.1∧False)∨∃y_7:Nat×Nat×List Nat,Lf (pre33 a b y_7)∧2*(Max.max a.length b.length+1-y_7.1)+y_7.2.1<2*(Max.max a.length b.length
 + 1-x_0.1)+x_0.2.1∧cellsNM x_0.2.2++[AV.int .i64 n_4]=cellsNM y_7.2.2∧eqqQ (AV.lst ta (cellsNM a) a.length 1)∧eqqQ (AV.lst tb (cellsNM b) b.length 1)∧AV.int .i64 n_6=AV.int .i64 (y_7.1:Int)∧AV.sl 0 (x_0.1+1) 0
 (x_0.1+1) 1=AV.sl 0 y_7.1 0 y_7.1 1∧AV.int .i64 n_5=AV.int .i64 (y_7.2.1:Int)∧True))
abbrev q4RA_33_1 (a:List Nat) (n_2:Int) (x_0:Nat×Nat×List Nat) (b:List Nat) (ta:Nat) (tb:Nat):Prop:=
AV.int .i64 (a.length:Int)=AV.int .i64 n_2∧bif decide ((x_0.1:Int)<n_2) then ckQ (Nat.blt (x_0.1:Int).toNat a.length&&true) (ckQ (Nat.blt ((x_0.1:Int).toNat*1) (cellsNM a).length) (exV .i64 ((cellsNM a).getD ((x_0.1 :
 Int).toNat*1) AV.undef) fun n_3=>exW .i64 ((x_0.2.1:Int)+n_3) fun n_4=>exI .i64 (b.length:Int) fun n_5=>bif decide ((x_0.1:Int)<n_5) then ckQ (Nat.blt (x_0.1:Int).toNat b.length&&true) (ckQ (Nat.blt ((x_0.1 :
 Int).toNat*1) (cellsNM b).length) (exV .i64 ((cellsNM b).getD ((x_0.1:Int).toNat*1) AV.undef) fun n_6=>exW .i64 (n_4+n_6) fun n_7=>exI .i64 (n_7.tmod 256) fun n_8=>exW .i64 (n_7.tdiv 256) fun n_9=>exW .i64 ((x_0.1:Int) +
 1) fun n_10=>(True∧(0:Nat)=(0:Nat))∧((∃y_11:Nat×Nat×List Nat,Lf (y_11=Prod.mk (0:Nat) (Prod.mk (0:Nat) []))∧3*Max.max a.length b.length+9<3*Max.max a.length b.length+9∧False)∨∃y_11:Nat×Nat ×
 List Nat,Lf (pre33 a b y_11)∧2*(Max.max a.length b.length+1-y_11.1)+y_11.2.1<3*Max.max a.length b.length+9∧[AV.int .i64 n_8]=cellsNM y_11.2.2∧eqqQ (AV.lst ta (cellsNM a) a.length 1)∧eqqQ (AV.lst tb (cellsNM b)
 b.length 1)∧AV.int .i64 n_10=AV.int .i64 (y_11.1:Int)∧AV.sl 0 1 0 1 1=AV.sl 0 y_11.1 0 y_11.1 1∧AV.int .i64 n_9=AV.int .i64 (y_11.2.1:Int)∧True))) else exI .i64 (n_4.tmod 256) fun n_6=>exW .i64 (n_4.tdiv 256) fun n_7=>
 exW .i64 ((x_0.1:Int)+1) fun n_8=>(True∧(0:Nat)=(0:Nat))∧((∃y_9:Nat×Nat×List Nat,Lf (y_9=Prod.mk (0:Nat) (Prod.mk (0:Nat) []))∧3*Max.max a.length b.length+9<3*Max.max a.length b.length+9∧False) ∨
 ∃y_9:Nat×Nat×List Nat,Lf (pre33 a b y_9)∧2*(Max.max a.length b.length+1-y_9.1)+y_9.2.1<3*Max.max a.length b.length+9∧[AV.int .i64 n_6]=cellsNM y_9.2.2∧eqqQ (AV.lst ta (cellsNM a) a.length 1)∧eqqQ (AV.lst tb
 (cellsNM b) b.length 1)∧AV.int .i64 n_8=AV.int .i64 (y_9.1:Int)∧AV.sl 0 1 0 1 1=AV.sl 0 y_9.1 0 y_9.1 1∧AV.int .i64 n_7=AV.int .i64 (y_9.2.1:Int)∧True))) else exI .i64 (b.length:Int) fun n_3=>bif decide ((x_0.1:Int)
 < n_3) then ckQ (Nat.blt (x_0.1:Int).toNat b.length&&true) (ckQ (Nat.blt ((x_0.1:Int).toNat*1) (cellsNM b).length) (exV .i64 ((cellsNM b).getD ((x_0.1:Int).toNat*1) AV.undef) fun n_4=>exW .i64 ((x_0.2.1:Int)+n_4) fun n_5
 => exI .i64 (n_5.tmod 256) fun n_6=>exW .i64 (n_5.tdiv 256) fun n_7=>exW .i64 ((x_0.1:Int)+1) fun n_8=>(True∧(0:Nat)=(0:Nat))∧((∃y_9:Nat×Nat×List Nat,Lf (y_9=Prod.mk (0:Nat) (Prod.mk (0:Nat) []))∧3 *
 Max.max a.length b.length+9<3*Max.max a.length b.length+9∧False)∨∃y_9:Nat×Nat×List Nat,Lf (pre33 a b y_9)∧2*(Max.max a.length b.length+1-y_9.1)+y_9.2.1<3*Max.max a.length b.length+9∧[AV.int .i64 n_6] =
 cellsNM y_9.2.2∧eqqQ (AV.lst ta (cellsNM a) a.length 1)∧eqqQ (AV.lst tb (cellsNM b) b.length 1)∧AV.int .i64 n_8=AV.int .i64 (y_9.1:Int)∧AV.sl 0 1 0 1 1=AV.sl 0 y_9.1 0 y_9.1 1∧AV.int .i64 n_7=AV.int .i64 (y_9.2.1:Int) ∧
 True))) else exI .i64 ((x_0.2.1:Int).tmod 256) fun n_4=>exW .i64 ((x_0.2.1:Int).tdiv 256) fun n_5=>exW .i64 ((x_0.1:Int)+1) fun n_6=>(True∧(0:Nat)=(0:Nat))∧((∃y_7:Nat×Nat×List Nat,Lf (y_7=Prod.mk (0:Nat)
 (Prod.mk (0:Nat) []))∧3*Max.max a.length b.length+9<3*Max.max a.length b.length+9∧False)∨∃y_7:Nat×Nat×List Nat,Lf (pre33 a b y_7)∧2*(Max.max a.length b.length+1-y_7.1)+y_7.2.1<3*Max.max a.length
 b.length+9∧[AV.int .i64 n_4]=cellsNM y_7.2.2∧eqqQ (AV.lst ta (cellsNM a) a.length 1)∧eqqQ (AV.lst tb (cellsNM b) b.length 1)∧AV.int .i64 n_6=AV.int .i64 (y_7.1:Int)∧AV.sl 0 1 0 1 1=AV.sl 0 y_7.1 0 y_7.1 1∧AV.int .i64
 n_5=AV.int .i64 (y_7.2.1:Int)∧True)
theorem vc_33 (ta:Nat) (tb:Nat) (a:List Nat) (b:List Nat) (Q:Out→List Blk→Gh→Prop):goal_33 (lookV [(360458,.int .i64),(360474,.int .i64),(360480,.int .i64),(360481,.int .i64),(360484,.int .i64),(360490,.int
 .i64),(360491,.int .i64),(360494,.int .i64),(360498,.int .i64),(360471,.int .i64),(360463,.int .i64)]) (lookB []) ta tb a b Q=(((∃x_0:Nat×Nat×List Nat,Lf (x_0=Prod.mk (0:Nat) (Prod.mk (0:Nat) []))∧eqqQ (AV.lst
 ta (cellsNM a) a.length 1)∧eqqQ (AV.lst tb (cellsNM b) b.length 1)∧AV.int .i64 0=AV.int .i64 (x_0.1:Int)∧AV.nils=AV.nils∧AV.int .i64 0=AV.int .i64 (x_0.2.1:Int)∧True)∨∃x_0:Nat×Nat×List Nat,Lf (pre33 a b x_0) ∧
 False)∧(∀x_0:Nat×Nat×List Nat,Lf (x_0=Prod.mk (0:Nat) (Prod.mk (0:Nat) []))→exI .i64 (a.length:Int) (fun n_1=>bif decide ((x_0.1:Int)<n_1) then ∃n_2:Int,q4RA_33_1 a n_2 x_0 b ta tb else exI .i64 (b.length :
 Int) (fun n_2=>bif decide ((x_0.1:Int)<n_2) then ∃n_3:Int,q4RA_33_1 a n_3 x_0 b ta tb else bif decide ((x_0.2.1:Int)>0) then ∃n_3:Int,q4RA_33_1 a n_3 x_0 b ta tb else Q (.ret .nils) [] {})))∧∀x_0:Nat×Nat×List
 Nat,Lf (pre33 a b x_0)→exI .i64 (a.length:Int) (fun n_1=>bif decide ((x_0.1:Int)<n_1) then ∃n_2:Int,q4RA_33_0 a n_2 x_0 b ta tb else exI .i64 (b.length:Int) (fun n_2=>bif decide ((x_0.1:Int)<n_2) then ∃n_3:Int,
 q4RA_33_0 a n_3 x_0 b ta tb else bif decide ((x_0.2.1:Int)>0) then ∃n_3:Int,q4RA_33_0 a n_3 x_0 b ta tb else Q (.ret (.sl 0 x_0.1 0 x_0.1 1)) [Blk.mk BK.grow true (cellsNM x_0.2.2)] {}))):=by kernel_rfl

theorem step33 {a b:List Nat} (ha:∀j,a.getD j 0≤255) (hb:∀j,b.getD j 0≤255) {i c:Nat} {l:List Nat} (h:pre33 a b (i,c,l)) (hi:i<a.length∨i<b.length∨0<c) (t:Nat) (ht:t=c+a.getD i 0+b.getD i 0) :
  pre33 a b (i+1,t/256,l++[t%256])∧2*(max a.length b.length+1-(i+1))+t/256<2*(max a.length b.length+1-i)+c:=by
 obtain ⟨h1,h2,h3,h4,h5,g6⟩:=h
 dsimp only at h1 h2 h3 h4 h5 g6
 have hai:=ha i
 have hbi:=hb i
 have z:i<max a.length b.length∨(c=1∧a.getD i 0=0∧b.getD i 0=0):=by
  by_cases h6:i<max a.length b.length
  ·exact .inl h6
  ·refine .inr ⟨by omega, ?_, ?_⟩
   ·rw[List.getD_eq_getElem?_getD,List.getElem?_eq_none (by omega)];rfl
   ·rw[List.getD_eq_getElem?_getD,List.getElem?_eq_none (by omega)];rfl
 refine ⟨⟨by simp[h1],by dsimp only;omega,by dsimp only;omega,fun j => ?_, ?_, ?_⟩,by omega⟩
 ·dsimp only
  rw[List.getD_eq_getElem?_getD,List.getElem?_append]
  split
  ·have:=h4 j
   rwa [List.getD_eq_getElem?_getD] at this
  ·by_cases h7:j-l.length=0
   ·rw[h7]
    show t%256≤255
    omega
   ·rw[List.getElem?_eq_none (by simp;omega)];exact Nat.zero_le _
 ·dsimp only
  rw[val_app,h1,←h5,val_drop a i,val_drop b i,Nat.pow_succ,Nat.mul_assoc]
  have e1:valNM [t%256]=t%256:=by simp[valNM]
  rw[e1,Nat.add_assoc,←Nat.mul_add]
  congr 2
  omega
 ·dsimp only
  rcases z with z | ⟨z1,z2,z3⟩
  ·exact .inl (by omega)
  ·by_cases h7:i<max a.length b.length
   ·exact .inl (by omega)
   ·refine .inr ?_
    have e0:i=max a.length b.length:=by omega
    have e1:t%256=1:=by omega
    rw[val_app,h1,e1,e0]
    have e2:valNM [1]=1:=by simp[valNM]
    rw[e2,Nat.mul_one]
    omega
theorem fin33 {a b l:List Nat} {ta tb i c mu0:Nat} (h:pre33 a b (i,c,l)) (t:Nat) (hp:pre33 a b (i+1,t/256,l++[t%256])) (hi:i≤100000) (ht:t≤1000) (hmu:2*(max a.length b.length+1-(i+1))+t/256<mu0) (T:Int) (hT:T=(t:Int)) {A:Prop} :
  ∃x:Int,AV.int .i64 (IntKind.wrap .i64 (Int.tdiv T 256))=AV.int .i64 x∧∃z:Int,AV.int .i64 (IntKind.wrap .i64 ((i:Int)+1))=AV.int .i64 z∧(True∧(0:Nat)=0)∧(A∨∃y:X33,Lf (pre33 a b y)∧2*(max a.length b.length+1-y.1)+y.2.1<mu0 ∧
   cellsNM l++[AV.int .i64 (Int.tmod T 256)]=cellsNM y.2.2∧AV.lst ta (cellsNM a) a.length 1=AV.lst ta (cellsNM a) a.length 1∧AV.lst tb (cellsNM b) b.length 1=AV.lst tb (cellsNM b) b.length 1∧AV.int .i64 z=AV.int .i64 (y.1:Int)∧AV.sl 0 (i+1) 0 (i+1) 1=AV.sl 0 y.1 0 y.1 1∧AV.int .i64 x=AV.int .i64 (y.2.1:Int)∧True):=by
 have e1:Int.tdiv T 256=((t/256:Nat):Int):=by rw[hT,Int.tdiv_eq_ediv_of_nonneg (by omega)];omega
 have e2:Int.tmod T 256=((t%256:Nat):Int):=by rw[hT,Int.tmod_eq_emod_of_nonneg (by omega)];omega
 rw[e1,e2]
 refine wrapI (by omega) (by omega) (wrapI (by omega) (by omega) ⟨⟨trivial,rfl⟩,.inr ⟨(i+1,t/256,l++[t%256]),⟨hp⟩,hmu, ?_,rfl,rfl,rfl,rfl,rfl,trivial⟩⟩)
 simp[cellsNM]
theorem sum_run (ta tb:Nat) (a b:List Nat) (ha:∀j,a.getD j 0≤255) (hb:∀j,b.getD j 0≤255) (hla:a.length≤100000) (hlb:b.length≤100000) (Q:Out→List Blk→Gh→Prop)
  (hq0:a=[]→b=[]→Q (.ret .nils) [] {})
  (hq:∀l,valNM l=valNM a+valNM b→(∀j,l.getD j 0≤255)→l.length≤max a.length b.length+1→(l.length≤max a.length b.length∨256^max a.length b.length≤valNM l)→Q (.ret (.sl 0 l.length 0 l.length 1)) [⟨.grow,true,cellsNM l⟩] {}):∃hv hb,goal_33 hv hb ta tb a b Q:=by
 obtain ⟨hv,hb',e⟩:∃hv hb,goal_33 hv hb ta tb a b Q=_:=⟨_,_,vc_33 ta tb a b Q⟩
 refine ⟨hv,hb',e.mpr ?_⟩
 unfold q4RA_33_0 q4RA_33_1
 clear e
 have w64:∀x:Int,0≤x→x≤1000000000→IntKind.wrap .i64 x=x:=fun x h1 h2=>by rw[IntKind.wrap_i64];omega
 have tq:∀x:Nat,Int.tdiv (x:Int) 256=((x/256:Nat):Int):=fun x=>by rw[Int.tdiv_eq_ediv_of_nonneg (by omega)];omega
 have tm:∀x:Nat,Int.tmod (x:Int) 256=((x%256:Nat):Int):=fun x=>by rw[Int.tmod_eq_emod_of_nonneg (by omega)];omega
 have p0:pre33 a b (0,0,[]):=⟨rfl,by dsimp only;omega,by dsimp only;omega,fun j=>by simp,by simp[valNM],.inl (Nat.zero_le _)⟩
 have zl:∀ (l:List Nat) (i:Nat),¬ i<l.length→l.getD i 0=0:=fun l i h=>by rw[List.getD_eq_getElem?_getD,List.getElem?_eq_none (by omega)];rfl
 have m0:((0:Nat):Int)=0:=rfl
 refine ⟨.inl ⟨(0,0,[]),⟨rfl⟩,rfl,rfl,rfl,rfl,rfl,trivial⟩, ?_, ?_⟩
 ·rintro _ ⟨rfl⟩
  have hai:=ha 0
  have hbi:=hb 0
  dsimp only
  repeat' (first | (with_reducible refine getN (j:=0) (by omega) (by simp) ?_) | (with_reducible refine wrapI (by omega) (by omega) ?_) | ((fail_if_success (with_reducible refine wrapI ?_ ?_ ?_));(with_reducible refine ⟨_,rfl, ?_⟩)) | (with_reducible refine ckI (by simp[cellsN_len];omega) ?_) | ((with_reducible refine splitD (fun _ => ?_) (fun _ => ?_))<;>(try (exfalso;omega))))
  all_goals first
   | exact fin33 p0 _ (step33 ha hb p0 (by omega) (0+a.getD 0 0+b.getD 0 0) rfl).1 (by omega) (by omega) (by have:=(step33 ha hb p0 (by omega) (0+a.getD 0 0+b.getD 0 0) rfl).2;omega) _ (by rw[m0];omega)
   | (have z1:=zl a 0 (by omega);exact fin33 p0 _ (step33 ha hb p0 (by omega) (0+a.getD 0 0+b.getD 0 0) rfl).1 (by omega) (by omega) (by have:=(step33 ha hb p0 (by omega) (0+a.getD 0 0+b.getD 0 0) rfl).2;omega) _ (by rw[m0];omega))
   | (have z2:=zl b 0 (by omega);exact fin33 p0 _ (step33 ha hb p0 (by omega) (0+a.getD 0 0+b.getD 0 0) rfl).1 (by omega) (by omega) (by have:=(step33 ha hb p0 (by omega) (0+a.getD 0 0+b.getD 0 0) rfl).2;omega) _ (by rw[m0];omega))
   | exact hq0 (List.length_eq_zero_iff.1 (by omega)) (List.length_eq_zero_iff.1 (by omega))
 ·rintro ⟨i,c,l⟩ h
  obtain ⟨h⟩:=h
  have h':=h
  obtain ⟨h1,h2,h3,h4,h5,g6⟩:=h'
  have hai:=ha i
  have hbi:=hb i
  dsimp only at *
  have hci:(i:Int).toNat=i:=Int.toNat_natCast i
  repeat' (first | (with_reducible refine getN (j:=i) (by omega) (by simp) ?_) | (with_reducible refine wrapI (by omega) (by omega) ?_) | ((fail_if_success (with_reducible refine wrapI ?_ ?_ ?_));(with_reducible refine ⟨_,rfl, ?_⟩)) | (with_reducible refine ckI (by simp[cellsN_len];omega) ?_) | ((with_reducible refine splitD (fun _ => ?_) (fun _ => ?_))<;>(try (exfalso;omega))))
  all_goals first
   | exact fin33 h _ (step33 ha hb h (by omega) (c+a.getD i 0+b.getD i 0) rfl).1 (by omega) (by omega) (step33 ha hb h (by omega) (c+a.getD i 0+b.getD i 0) rfl).2 _ (by omega)
   | (have z1:=zl a i (by omega);exact fin33 h _ (step33 ha hb h (by omega) (c+a.getD i 0+b.getD i 0) rfl).1 (by omega) (by omega) (step33 ha hb h (by omega) (c+a.getD i 0+b.getD i 0) rfl).2 _ (by omega))
   | (have z2:=zl b i (by omega);exact fin33 h _ (step33 ha hb h (by omega) (c+a.getD i 0+b.getD i 0) rfl).1 (by omega) (by omega) (step33 ha hb h (by omega) (c+a.getD i 0+b.getD i 0) rfl).2 _ (by omega))
   | (have z1:=zl a i (by omega);have z2:=zl b i (by omega);exact fin33 h _ (step33 ha hb h (by omega) (c+a.getD i 0+b.getD i 0) rfl).1 (by omega) (by omega) (step33 ha hb h (by omega) (c+a.getD i 0+b.getD i 0) rfl).2 _ (by omega))
   | (obtain rfl:c=0:=by omega
      rw[List.drop_of_length_le (by omega),List.drop_of_length_le (by omega),show 0+valNM []+valNM []=0 from rfl,Nat.mul_zero,Nat.add_zero] at h5
      have hh:=hq l h5 h4 (by omega) (by rw[h1];exact g6)
      rw[h1] at hh
      exact hh)
def numK (t:Nat) (cs:List AV) (n:Nat) (l:List Nat):Prop:=cs=cellsNM l∧n=l.length∧(∀j,l.getD j 0≤255)∧l.length≤100000
def cSum:Con
 | [.lst ta ca na 1,.lst tb cb nb 1],H,K=>∃a b:List Nat,Lf (numK ta ca na a∧numK tb cb nb b)∧∀l:List Nat,Lf (valNM l=valNM a+valNM b∧(∀j,l.getD j 0≤255)∧l.length≤max a.length b.length+1∧(l.length≤max a.length b.length∨256^max a.length b.length≤valNM l))→K (.ret (.lst 0 (cellsNM l) l.length 1)) H
 | _,_,_=>False
def plainBf:AV→Bool
 | .int _ _=>true | .bool _=>true | .str _=>true | .nils=>true | .nilp=>true | _=>false
theorem map_plainf (τ:Nat) (H:List Blk) (d:Nat):∀l:List AV,(∀x∈l,plainBf x=true)→l.map (fun x=>frzV τ H (d+1) x)=l
 | [],_=>rfl
 | x::l,h=>by
  have hx:frzV τ H (d+1) x=x:=by
   have:=h x (by simp)
   cases x<;>first | rfl | simp[plainBf] at this
  rw[List.map_cons,map_plainf τ H d l fun y hy=>h y (by simp[hy]),hx]
theorem frz_slf {τ:Nat} {H:List Blk} {d id tot off len sz:Nat} {b:Blk} {cs:List AV} (hb:H[id]? = some b) (h1:b.cs.length=tot) (h2:off+len*sz≤tot) (hk:b.k≠.ro) (hc:(b.cs.drop off).take (len*sz)=cs) (hp:∀x∈cs,plainBf x=true) :
  frzV τ H (d+2) (.sl id tot off len sz)=.lst τ cs len sz:=by
 have c1:b.cs.length.beq tot=true:=beq_t h1
 have c2:(off+len*sz).ble tot=true:=ble_t h2
 have c3:(b.k !=.ro)=true:=by simpa using hk
 rw[frzV]
 simp only[hb,c1,c2,c3,Bool.and_true,cond_true,hc,map_plainf τ H d cs hp]
theorem plain_cellsN (l:List Nat):∀x∈cellsNM l,plainBf x=true:=by
 intro x hx
 simp only[cellsNM,List.mem_map] at hx
 obtain ⟨n,_,rfl⟩:=hx
 rfl
theorem noT_cellsN (l:List Nat):noTL (cellsNM l)=true:=by
 induction l with
 | nil=>rfl
 | cons x l ih=>simpa [cellsNM,noTL,noT] using ih
theorem oldL_N (l:List Nat):oldL 0 (cellsNM l)=true:=by
 induction l with
 | nil=>rfl
 | cons x l ih=>simpa [cellsNM,oldL,old] using ih
theorem noY_N (l:List Nat):noYL (cellsNM l)=true:=by
 induction l with
 | nil=>rfl
 | cons x l ih=>simpa [cellsNM,noYL,noY] using ih
theorem frz_num {H:List Blk} {l:List Nat} {z:AV} (hz:z=.sl 0 l.length 0 l.length 1):nlR [1] (frzV 0 (⟨.grow,true,cellsNM l⟩::H) 9 z)=.lst 0 (cellsNM l) l.length 1:=by
 rw[hz,frz_slf (cs:=cellsNM l) rfl (cellsN_len l) (by omega) (by simp) (by rw[List.drop_zero];exact List.take_of_length_le (by rw[cellsN_len];omega)) (plain_cellsN l)]
 rfl
theorem sum_raw:ValidF Tryz.prog gl0 88 cSum:=by
 refine valid_frz (enters_of (by kernel_rfl)) gl0_noY 9 (nlR [1]) (wk_nlR _) fun args H Q hc => ?_
 unfold cSum at hc
 split at hc
 ·rename_i ta ca na tb cb nb
  obtain ⟨a,b,⟨⟨rfl,rfl,ha,hla⟩,⟨rfl,rfl,hb,hlb⟩⟩,hq⟩:=hc
  obtain ⟨hv,hb',h⟩:=sum_run ta tb a b ha hb hla hlb (fun o H' _=>∃v,o=.ret v∧Q (.ret (nlR [1] (frzV 0 H' 9 v))) H)
   (fun e1 e2=>⟨_,rfl,by subst e1;subst e2;exact hq [] ⟨rfl,fun j=>by simp,by simp,.inl (by simp)⟩⟩)
   (fun l h1 h2 h3 h4=>⟨_,rfl,by rw[frz_num rfl];exact hq l ⟨h1,h2,h3,h4⟩⟩)
  refine ⟨by simp[oldL,old,oldL_N],by simp[noYL,noY,noY_N],_,1000, ?_,rfl,h⟩
  exact ⟨mixed04,names04,tabA_ok,sm0_ok⟩
 ·exact hc.elim
def cSumV:Con:=fun args H Q=>lendL [1,1] H args fun a=>cSum a H Q
theorem sum_ok:ValidF Tryz.prog gl0 88 cSumV:=valid_view sum_raw gl0_noY [1,1] fun args H Q hc=>by
 unfold cSum at hc
 split at hc
 ·obtain ⟨a,b,h,hq⟩:=hc
  exact ⟨a,b,h,fun l hl=>⟨rfl,⟨_,rfl,by simp[noT,noT_cellsN]⟩,hq l hl⟩⟩
 ·exact hc.elim
end Go.Proofs.YtiholnebhmjbjaaGreat

/-
  Chapter 4: the reference's minus.
-/
import Derived.Test.YtiholnebhmjbjaaGreatZ4RB
set_option linter.unusedSimpArgs false
set_option linter.unusedVariables false
namespace Go.Proofs.YtiholnebhmjbjaaGreat
open Go.RowKit
set_option maxRecDepth 1000000

def pre57 (a b:List Nat) (p:X33):Prop:=p.2.2.length=p.1∧p.2.1≤1∧p.1≤a.length∧(∀j,p.2.2.getD j 0≤255)∧valNM p.2.2+valNM (b.take p.1)=valNM (a.take p.1)+256^p.1*p.2.1
def inv_57a (ta tb:Nat) (a b:List Nat):LInv where
 α:=X33
 pre p:=Lf (p=(0,0,[]))
 st p:=⟨mkT [(0,.lst ta (cellsNM a) a.length 1),(1,.lst tb (cellsNM b) b.length 1),(5,.nils),(6,.int .i64 (p.2.1:Nat)),(7,.int .i64 (p.1:Nat))],[]⟩
 mu p:=a.length+1
def inv_57b (ta tb:Nat) (a b:List Nat):LInv where
 α:=X33
 pre p:=Lf (pre57 a b p)
 st p:=⟨mkT [(0,.lst ta (cellsNM a) a.length 1),(1,.lst tb (cellsNM b) b.length 1),(5,.sl 0 p.1 0 p.1 1),(6,.int .i64 (p.2.1:Nat)),(7,.int .i64 (p.1:Nat))],[⟨.grow,true,cellsNM p.2.2⟩]⟩
 mu p:=a.length-p.1
noncomputable def env_57 (hv:Nat→Option Pa) (hb:Nat→Option Bool) (ta tb:Nat) (a b:List Nat):Env := { e04 sm0 (fun i=>bif Nat.beq i 111000 then some (fun _=>[[inv_57a ta tb a b,inv_57b ta tb a b]]) else none) hv hb with hz:=fun k=>Nat.beq k 454693 }
noncomputable def goal_57 (hv:Nat→Option Pa) (hb:Nat→Option Bool) (ta tb:Nat) (a b:List Nat) (Q:Out→List Blk→Gh→Prop):Prop:=
 callx (env_57 hv hb ta tb a b) (wpx (env_57 hv hb ta tb a b) 1000) 111 [.lst ta (cellsNM a) a.length 1,.lst tb (cellsNM b) b.length 1] [] {} Q
abbrev q4RC_57_0 (n_6:Int) (x_0:Nat×Nat×List Nat) (a:List Nat) (b:List Nat) (ta:Nat) (tb:Nat):Prop:=
bif decide (n_6<0) then exW .i64 (n_6+256) fun n_7=>ckQ (Nat.beq (cellsNM x_0.2.2).length x_0.1&&true&&Nat.beq (0+x_0.1*1) x_0.1&&Nat.ble (x_0.1+1) 1099511627776&&Nat.ble ((x_0.1+1)*8) 1099511627776) (exW .i64
 ((x_0.1:Int)+1) fun n_8=>(True∧(0:Nat)=(0:Nat))∧((∃y_9:Nat×Nat×List Nat,Lf (y_9=Prod.mk (0:Nat) (Prod.mk (0:Nat) []))∧a.length+1<a.length-x_0.1∧False)∨∃y_9:Nat×Nat×List Nat,Lf (pre57 a b
 y_9)∧a.length-y_9.1<a.length-x_0.1∧cellsNM x_0.2.2++[AV.int .i64 n_7]=cellsNM y_9.2.2∧eqqQ (AV.lst ta (cellsNM a) a.length 1)∧eqqQ (AV.lst tb (cellsNM b) b.length 1)∧AV.int .i64 n_8=AV.int .i64 (y_9.1:Int)∧AV.sl 0
 (x_0.1+1) 0 (x_0.1+1) 1=AV.sl 0 y_9.1 0 y_9.1 1∧AV.int .i64 1=AV.int .i64 (y_9.2.1:Int)∧True)) else ckQ (Nat.beq (cellsNM x_0.2.2).length x_0.1&&true&&Nat.beq (0+x_0.1*1) x_0.1&&Nat.ble (x_0.1+1) 1099511627776 &&
 Nat.ble ((x_0.1+1)*8) 1099511627776) (exW .i64 ((x_0.1:Int)+1) fun n_7=>(True∧(0:Nat)=(0:Nat))∧((∃y_8:Nat×Nat×List Nat,Lf (y_8=Prod.mk (0:Nat) (Prod.mk (0:Nat) []))∧a.length+1<a.length-x_0.1 ∧
 False)∨∃y_8:Nat×Nat×List Nat,Lf (pre57 a b y_8)∧a.length-y_8.1<a.length-x_0.1∧cellsNM x_0.2.2++[AV.int .i64 n_6]=cellsNM y_8.2.2∧eqqQ (AV.lst ta (cellsNM a) a.length 1)∧eqqQ (AV.lst tb (cellsNM b) b.length 1) ∧
 AV.int .i64 n_7=AV.int .i64 (y_8.1:Int)∧AV.sl 0 (x_0.1+1) 0 (x_0.1+1) 1=AV.sl 0 y_8.1 0 y_8.1 1∧AV.int .i64 0=AV.int .i64 (y_8.2.1:Int)∧True))
abbrev q4RC_57_1 (n_6:Int) (x_0:Nat×Nat×List Nat) (a:List Nat) (b:List Nat) (ta:Nat) (tb:Nat):Prop:=
bif decide (n_6<0) then exW .i64 (n_6+256) fun n_7=>exW .i64 ((x_0.1:Int)+1) fun n_8=>(True∧(0:Nat)=(0:Nat))∧((∃y_9:Nat×Nat×List Nat,Lf (y_9=Prod.mk (0:Nat) (Prod.mk (0:Nat) []))∧a.length+1<a.length
 + 1∧False)∨∃y_9:Nat×Nat×List Nat,Lf (pre57 a b y_9)∧a.length-y_9.1<a.length+1∧[AV.int .i64 n_7]=cellsNM y_9.2.2∧eqqQ (AV.lst ta (cellsNM a) a.length 1)∧eqqQ (AV.lst tb (cellsNM b) b.length 1)∧AV.int .i64 n_8 =
 AV.int .i64 (y_9.1:Int)∧AV.sl 0 1 0 1 1=AV.sl 0 y_9.1 0 y_9.1 1∧AV.int .i64 1=AV.int .i64 (y_9.2.1:Int)∧True) else exW .i64 ((x_0.1:Int)+1) fun n_7=>(True∧(0:Nat)=(0:Nat))∧((∃y_8:Nat×Nat×List Nat,Lf
 (y_8=Prod.mk (0:Nat) (Prod.mk (0:Nat) []))∧a.length+1<a.length+1∧False)∨∃y_8:Nat×Nat×List Nat,Lf (pre57 a b y_8)∧a.length-y_8.1<a.length+1∧[AV.int .i64 n_6]=cellsNM y_8.2.2∧eqqQ (AV.lst ta (cellsNM
 a) a.length 1)∧eqqQ (AV.lst tb (cellsNM b) b.length 1)∧AV.int .i64 n_7=AV.int .i64 (y_8.1:Int)∧AV.sl 0 1 0 1 1=AV.sl 0 y_8.1 0 y_8.1 1∧AV.int .i64 0=AV.int .i64 (y_8.2.1:Int)∧True)
abbrev zRC2 (x_0:Nat×Nat×List Nat):Nat:=(x_0.1:Int).toNat
abbrev zRC0 (x_0:Nat×Nat×List Nat) (a:List Nat):Bool:=Nat.blt ((x_0.1:Int).toNat*1) (cellsNM a).length
abbrev zRC1 (a:List Nat) (x_0:Nat×Nat×List Nat):AV:=(cellsNM a).getD ((x_0.1:Int).toNat*1) AV.undef
theorem vc_57 (ta:Nat) (tb:Nat) (a:List Nat) (b:List Nat) (Q:Out→List Blk→Gh→Prop):goal_57 (lookV [(454667,.int .i64),(454674,.int .i64),(454676,.int .i64),(454679,.int .i64),(454685,.int .i64),(454686,.int
 .i64),(454690,.int .i64),(454670,.int .i64)]) (lookB []) ta tb a b Q=(((∃x_0:Nat×Nat×List Nat,Lf (x_0=Prod.mk (0:Nat) (Prod.mk (0:Nat) []))∧eqqQ (AV.lst ta (cellsNM a) a.length 1)∧eqqQ (AV.lst tb (cellsNM b)
 b.length 1)∧AV.int .i64 0=AV.int .i64 (x_0.1:Int)∧AV.nils=AV.nils∧AV.int .i64 0=AV.int .i64 (x_0.2.1:Int)∧True)∨∃x_0:Nat×Nat×List Nat,Lf (pre57 a b x_0)∧False)∧(∀x_0:Nat×Nat×List Nat,Lf (x_0 =
 Prod.mk (0:Nat) (Prod.mk (0:Nat) []))→exI .i64 (a.length:Int) (fun n_1=>bif decide ((x_0.1:Int)<n_1) then ckQ (Nat.blt (zRC2 x_0) a.length&&true) (ckQ (zRC0 x_0 a) (exV .i64 (zRC1 a x_0) (fun n_2=>exW .i64 (n_2-(x_0.2.1
 : Int)) (fun n_3=>exI .i64 (b.length:Int) (fun n_4=>bif decide ((x_0.1:Int)<n_4) then ckQ (Nat.blt (zRC2 x_0) b.length&&true) (ckQ (zRC0 x_0 b) (exV .i64 (zRC1 b x_0) (fun n_5=>exW .i64 (n_3-n_5) (fun n_6=>q4RC_57_1 n_6
 x_0 a b ta tb)))) else q4RC_57_1 n_3 x_0 a b ta tb))))) else Q (.ret .nils) [] {}))∧∀x_0:Nat×Nat×List Nat,Lf (pre57 a b x_0)→exI .i64 (a.length:Int) (fun n_1=>bif decide ((x_0.1:Int)<n_1) then ckQ (Nat.blt (zRC2 x_0)
 a.length&&true) (ckQ (zRC0 x_0 a) (exV .i64 (zRC1 a x_0) (fun n_2=>exW .i64 (n_2-(x_0.2.1:Int)) (fun n_3=>exI .i64 (b.length:Int) (fun n_4=>bif decide ((x_0.1:Int)<n_4) then ckQ (Nat.blt (zRC2 x_0) b.length&&true) (ckQ
 (zRC0 x_0 b) (exV .i64 (zRC1 b x_0) (fun n_5=>exW .i64 (n_3-n_5) (fun n_6=>q4RC_57_0 n_6 x_0 a b ta tb)))) else q4RC_57_0 n_3 x_0 a b ta tb))))) else Q (.ret (.sl 0 x_0.1 0 x_0.1 1)) [Blk.mk BK.grow true (cellsNM x_0.2.2)] {})):=by
 kernel_rfl

theorem val_take (a:List Nat) (i:Nat):valNM (a.take (i+1))=valNM (a.take i)+256^i*a.getD i 0:=by
 by_cases h:i<a.length
 ·rw[take_snocD a 0 h,val_app,List.length_take,Nat.min_eq_left (by omega)]
  simp[valNM]
 ·rw[List.take_of_length_le (by omega),List.take_of_length_le (by omega),List.getD_eq_getElem?_getD,List.getElem?_eq_none (by omega)]
  simp
theorem step57 {a b:List Nat} (ha:∀j,a.getD j 0≤255) (hb:∀j,b.getD j 0≤255) {i c:Nat} {l:List Nat} (h:pre57 a b (i,c,l)) (hi:i<a.length) (d c':Nat) (hd:d+c+b.getD i 0=a.getD i 0+256*c') (hc:c'≤1) (hd2:d≤255) :
  pre57 a b (i+1,c',l++[d]):=by
 obtain ⟨h1,h2,h3,h4,h5⟩:=h
 dsimp only at h1 h2 h3 h4 h5
 refine ⟨by simp[h1],hc,hi,fun j => ?_, ?_⟩
 ·dsimp only
  rw[List.getD_eq_getElem?_getD,List.getElem?_append]
  split
  ·have:=h4 j
   rwa [List.getD_eq_getElem?_getD] at this
  ·by_cases h7:j-l.length=0
   ·rw[h7]
    exact hd2
   ·rw[List.getElem?_eq_none (by simp;omega)];exact Nat.zero_le _
 ·dsimp only
  rw[val_app,h1,val_take,val_take,Nat.pow_succ]
  have e1:valNM [d]=d:=by simp[valNM]
  rw[e1,Nat.mul_assoc]
  have e2:256^i*d+256^i*c+256^i*b.getD i 0=256^i*a.getD i 0+256^i*(256*c'):=by
   rw[←Nat.mul_add,←Nat.mul_add,←Nat.mul_add,hd]
  omega
theorem minus_end {a b l:List Nat} {c:Nat} (ha:∀j,a.getD j 0≤255) (hb:∀j,b.getD j 0≤255) (h:pre57 a b (a.length,c,l)) (hle:valNM b≤valNM a):valNM l=valNM a-valNM b∧l.length=a.length∧∀j,l.getD j 0≤255:=by
 obtain ⟨h1,h2,h3,h4,h5⟩:=h
 dsimp only at h1 h2 h3 h4 h5
 obtain ⟨S,s1,s2⟩:=val_split a.length a ha
 obtain ⟨T,t1,t2⟩:=val_split a.length l h4
 rw[List.drop_of_length_le (by omega)] at s1 t1
 simp only[valNM,Nat.mul_zero,Nat.add_zero] at s1 t1
 have hb2:valNM b=valNM (b.take a.length)+256^(b.take a.length).length*valNM (b.drop a.length):=by rw[←val_app,List.take_append_drop]
 rw[List.take_length] at h5
 refine ⟨?_,h1,h4⟩
 have hb3:valNM (b.drop a.length)=0∨((b.take a.length).length=a.length∧1≤valNM (b.drop a.length)):=by
  by_cases h6:b.length≤a.length
  ·left;rw[List.drop_of_length_le h6];rfl
  ·by_cases h7:valNM (b.drop a.length)=0
   ·exact .inl h7
   ·right;rw[List.length_take];omega
 have hc:c=0∨c=1:=by omega
 rcases hb3 with h6 | ⟨h6,h7⟩
 ·rw[h6,Nat.mul_zero,Nat.add_zero] at hb2
  rcases hc with rfl | rfl
  ·rw[Nat.mul_zero,Nat.add_zero] at h5;omega
  ·rw[Nat.mul_one] at h5;omega
 ·rw[h6] at hb2
  have h8:256^a.length*1≤256^a.length*valNM (b.drop a.length):=Nat.mul_le_mul_left _ h7
  omega
theorem fin57 {a b l:List Nat} {ta tb i c mu0:Nat} (ha:∀j,a.getD j 0≤255) (hb:∀j,b.getD j 0≤255) (h:pre57 a b (i,c,l)) (hi:i<a.length) (hmu:a.length-(i+1)<mu0) (D C:Int) (h1:0≤D∧D≤255) (h2:0≤C∧C≤1) (h3:D+c+(b.getD i 0:Nat)=(a.getD i 0:Nat)+256*C) {A:Prop} :
  (True∧(0:Nat)=0)∧(A∨∃y:X33,Lf (pre57 a b y)∧a.length-y.1<mu0 ∧
   cellsNM l++[AV.int .i64 D]=cellsNM y.2.2∧AV.lst ta (cellsNM a) a.length 1=AV.lst ta (cellsNM a) a.length 1∧AV.lst tb (cellsNM b) b.length 1=AV.lst tb (cellsNM b) b.length 1∧AV.int .i64 ((i:Int)+1)=AV.int .i64 (y.1:Int)∧AV.sl 0 (i+1) 0 (i+1) 1=AV.sl 0 y.1 0 y.1 1∧AV.int .i64 C=AV.int .i64 (y.2.1:Int)∧True):=by
 obtain ⟨d,rfl⟩:=Int.eq_ofNat_of_zero_le h1.1
 obtain ⟨c',rfl⟩:=Int.eq_ofNat_of_zero_le h2.1
 refine ⟨⟨trivial,rfl⟩,.inr ⟨(i+1,c',l++[d]),⟨step57 ha hb h hi d c' (by omega) (by omega) (by omega)⟩,hmu, ?_,rfl,rfl,rfl,rfl,rfl,trivial⟩⟩
 simp[cellsNM]
theorem minus_run (ta tb:Nat) (a b:List Nat) (ha:∀j,a.getD j 0≤255) (hb:∀j,b.getD j 0≤255) (hla:a.length≤100000) (hlb:b.length≤100000) (hle:valNM b≤valNM a) (Q:Out→List Blk→Gh→Prop)
  (hq0:a=[]→Q (.ret .nils) [] {})
  (hq:∀l,valNM l=valNM a-valNM b→l.length=a.length→(∀j,l.getD j 0≤255)→Q (.ret (.sl 0 l.length 0 l.length 1)) [⟨.grow,true,cellsNM l⟩] {}):∃hv hb,goal_57 hv hb ta tb a b Q:=by
 obtain ⟨hv,hb',e⟩:∃hv hb,goal_57 hv hb ta tb a b Q=_:=⟨_,_,vc_57 ta tb a b Q⟩
 refine ⟨hv,hb',e.mpr ?_⟩
 delta zRC2 zRC0 zRC1
 unfold q4RC_57_0 q4RC_57_1
 clear e
 have p0:pre57 a b (0,0,[]):=⟨rfl,by dsimp only;omega,by dsimp only;omega,fun j=>by simp,by simp[valNM]⟩
 have zl:∀ (i:Nat),¬ i<b.length→b.getD i 0=0:=fun i h=>by rw[List.getD_eq_getElem?_getD,List.getElem?_eq_none (by omega)];rfl
 have m0:((0:Nat):Int)=0:=rfl
 refine ⟨.inl ⟨(0,0,[]),⟨rfl⟩,rfl,rfl,rfl,rfl,rfl,trivial⟩, ?_, ?_⟩
 ·rintro _ ⟨rfl⟩
  have hai:=ha 0
  have hbi:=hb 0
  have z2:=zl 0
  dsimp only
  repeat' (first | (with_reducible refine getN (j:=0) (by omega) (by simp) ?_) | (with_reducible refine wrapI (by omega) (by omega) ?_) | ((fail_if_success (with_reducible refine wrapI ?_ ?_ ?_));(with_reducible refine ⟨_,rfl, ?_⟩)) | (with_reducible refine ckI (by simp[cellsN_len];omega) ?_) | ((with_reducible refine splitD (fun _ => ?_) (fun _ => ?_))<;>(try (exfalso;omega))))
  all_goals first
   | exact fin57 ha hb p0 (by omega) (by omega) _ _ ⟨by omega,by omega⟩ ⟨by omega,by omega⟩ (by omega)
   | exact hq0 (List.length_eq_zero_iff.1 (by omega))
 ·rintro ⟨i,c,l⟩ h
  obtain ⟨h⟩:=h
  have h':=h
  obtain ⟨h1,h2,h3,h4,h5⟩:=h'
  have hai:=ha i
  have hbi:=hb i
  have z2:=zl i
  dsimp only at *
  repeat' (first | (with_reducible refine getN (j:=i) (by omega) (by simp) ?_) | (with_reducible refine wrapI (by omega) (by omega) ?_) | ((fail_if_success (with_reducible refine wrapI ?_ ?_ ?_));(with_reducible refine ⟨_,rfl, ?_⟩)) | (with_reducible refine ckI (by simp[cellsN_len];omega) ?_) | ((with_reducible refine splitD (fun _ => ?_) (fun _ => ?_))<;>(try (exfalso;omega))))
  all_goals first
   | exact fin57 ha hb h (by omega) (by omega) _ _ ⟨by omega,by omega⟩ ⟨by omega,by omega⟩ (by omega)
   | (obtain rfl:i=a.length:=by omega
      obtain ⟨r1,r2,r3⟩:=minus_end ha hb h hle
      have hh:=hq l r1 r2 r3
      rw[r2] at hh
      exact hh)
def cMinus:Con
 | [.lst ta ca na 1,.lst tb cb nb 1],H,K=>∃a b:List Nat,Lf (numK ta ca na a∧numK tb cb nb b∧valNM b≤valNM a)∧∀l:List Nat,Lf (valNM l=valNM a-valNM b∧l.length=a.length∧(∀j,l.getD j 0≤255))→K (.ret (.lst 0 (cellsNM l) l.length 1)) H
 | _,_,_=>False
theorem minus_raw:ValidF Tryz.prog gl0 111 cMinus:=by
 refine valid_frz (enters_of (by kernel_rfl)) gl0_noY 9 (nlR [1]) (wk_nlR _) fun args H Q hc => ?_
 unfold cMinus at hc
 split at hc
 ·rename_i ta ca na tb cb nb
  obtain ⟨a,b,⟨⟨rfl,rfl,ha,hla⟩,⟨rfl,rfl,hb,hlb⟩,hle⟩,hq⟩:=hc
  obtain ⟨hv,hb',h⟩:=minus_run ta tb a b ha hb hla hlb hle (fun o H' _=>∃v,o=.ret v∧Q (.ret (nlR [1] (frzV 0 H' 9 v))) H)
   (fun e1=>⟨_,rfl,by subst e1;exact hq [] ⟨by simp only[valNM] at hle ⊢;omega,rfl,fun j=>by simp⟩⟩)
   (fun l h1 h2 h3=>⟨_,rfl,by rw[frz_num rfl];exact hq l ⟨h1,h2,h3⟩⟩)
  refine ⟨by simp[oldL,old,oldL_N],by simp[noYL,noY,noY_N],_,1000, ?_,rfl,h⟩
  exact ⟨mixed04,names04,tabA_ok,sm0_ok⟩
 ·exact hc.elim
def cMinusV:Con:=fun args H Q=>lendL [1,1] H args fun a=>cMinus a H Q
theorem minus_ok:ValidF Tryz.prog gl0 111 cMinusV:=valid_view minus_raw gl0_noY [1,1] fun args H Q hc=>by
 unfold cMinus at hc
 split at hc
 ·obtain ⟨a,b,h,hq⟩:=hc
  exact ⟨a,b,h,fun l hl=>⟨rfl,⟨_,rfl,by simp[noT,noT_cellsN]⟩,hq l hl⟩⟩
 ·exact hc.elim
end Go.Proofs.YtiholnebhmjbjaaGreat

/-
  Chapter 4: the reference's list and less.
-/
import Derived.Test.YtiholnebhmjbjaaGreatZ4RA
set_option linter.unusedSimpArgs false
set_option linter.unusedVariables false
namespace Go.Proofs.YtiholnebhmjbjaaGreat
open Go.RowKit
set_option maxRecDepth 1000000

def numsM (s:List UInt8):List Nat:=s.map UInt8.toNat
def inv_56 (ta tb:Nat) (a b:List Nat):LInv where
 α:=Nat
 pre k:=Lf (k≤max a.length b.length∧valNM (a.drop k)=valNM (b.drop k))
 st k:=⟨mkT [(0,.lst ta (cellsNM a) a.length 1),(1,.lst tb (cellsNM b) b.length 1),(5,.int .i64 ((k:Nat)-1:Int))],[]⟩
 mu k:=k
noncomputable def env_56 (hv:Nat→Option Pa) (hb:Nat→Option Bool) (ta tb:Nat) (a b:List Nat):Env:=e04 sm0 (fun i=>bif Nat.beq i 110000 then some (fun _=>[[inv_56 ta tb a b]]) else none) hv hb
noncomputable def goal_56 (hv:Nat→Option Pa) (hb:Nat→Option Bool) (ta tb:Nat) (a b:List Nat) (Q:Out→List Blk→Gh→Prop):Prop:=
 callx (env_56 hv hb ta tb a b) (wpx (env_56 hv hb ta tb a b) 1000) 110 [.lst ta (cellsNM a) a.length 1,.lst tb (cellsNM b) b.length 1] [] {} Q
abbrev q4RB_56_0 (x_4:Nat) (n_14:Int) (a:List Nat) (b:List Nat) (ta:Nat) (tb:Nat):Prop:=
AV.int .i64 ((x_4:Int)-1)=AV.int .i64 n_14∧exW .i64 (n_14-1) fun n_15=>(True∧(0:Nat)=(0:Nat))∧∃y_16:Nat,Lf (y_16≤Max.max a.length b.length∧valNM (a.drop y_16)=valNM (b.drop y_16))∧y_16<x_4∧eqqQ (AV.lst
 ta (cellsNM a) a.length 1)∧eqqQ (AV.lst tb (cellsNM b) b.length 1)∧AV.int .i64 n_15=AV.int .i64 ((y_16:Int)-1)∧True
theorem vc_56 (ta:Nat) (tb:Nat) (a:List Nat) (b:List Nat) (Q:Out→List Blk→Gh→Prop):goal_56 (lookV [(450569,.int .i64),(450571,.int .i64),(450572,.int .i64),(450573,.int .i64),(450574,.int .i64),(450578,.int
 .i64),(450580,.int .i64),(450583,.int .i64),(450585,.int .i64),(450586,.int .i64),(450588,.int .i64),(450591,.int .i64),(450593,.int .i64),(450576,.int .i64),(450577,.int .i64)]) (lookB []) ta tb a b Q=(exI .i64
 (a.length:Int) (fun n_0=>exI .i64 (b.length:Int) (fun n_1=>exI .i64 (imax n_0 n_1) (fun n_2=>exW .i64 (n_2-1) (fun n_3=>(∃x_4:Nat,Lf (x_4≤Max.max a.length b.length∧valNM (a.drop x_4)=valNM (b.drop x_4))∧eqqQ
 (AV.lst ta (cellsNM a) a.length 1)∧eqqQ (AV.lst tb (cellsNM b) b.length 1)∧AV.int .i64 n_3=AV.int .i64 ((x_4:Int)-1)∧True)∧∀x_4:Nat,Lf (x_4≤Max.max a.length b.length∧valNM (a.drop x_4)=valNM (b.drop x_4))→exI .i64
 ((x_4:Int)-1) (fun n_5=>bif decide (n_5≥0) then exI .i64 ((x_4:Int)-1) (fun n_6=>exI .i64 (a.length:Int) (fun n_7=>bif decide (n_6<n_7) then exI .i64 ((x_4:Int)-1) (fun n_8=>ckQ (decide (0≤n_8)&&Nat.blt
 n_8.toNat a.length&&true) (ckQ (Nat.blt (n_8.toNat*1) (cellsNM a).length) (exV .i64 ((cellsNM a).getD (n_8.toNat*1) AV.undef) (fun n_9=>exI .i64 ((x_4:Int)-1) (fun n_10=>exI .i64 (b.length:Int) (fun n_11=>bif decide (n_10
 < n_11) then exI .i64 ((x_4:Int)-1) (fun n_12=>ckQ (decide (0≤n_12)&&Nat.blt n_12.toNat b.length&&true) (ckQ (Nat.blt (n_12.toNat*1) (cellsNM b).length) (exV .i64 ((cellsNM b).getD (n_12.toNat*1) AV.undef) (fun n_13=>bif
 n_9 !=n_13 then bif decide (n_9<n_13) then Q (.ret (.bool true)) [] {} else Q (.ret (.bool false)) [] {} else ∃n_14:Int,q4RB_56_0 x_4 n_14 a b ta tb)))) else bif n_9 !=0 then bif decide (n_9<0) then Q (.ret (.bool true)) [] {}
 else Q (.ret (.bool false)) [] {} else ∃n_12:Int,q4RB_56_0 x_4 n_12 a b ta tb)))))) else exI .i64 ((x_4:Int)-1) (fun n_8=>exI .i64 (b.length:Int) (fun n_9=>bif decide (n_8<n_9) then exI .i64 ((x_4:Int)-1) (fun n_10=>
 ckQ (decide (0≤n_10)&&Nat.blt n_10.toNat b.length&&true) (ckQ (Nat.blt (n_10.toNat*1) (cellsNM b).length) (exV .i64 ((cellsNM b).getD (n_10.toNat*1) AV.undef) (fun n_11=>bif 0 !=n_11 then bif decide (0<n_11) then Q (.ret
 (.bool true)) [] {} else Q (.ret (.bool false)) [] {} else ∃n_12:Int,q4RB_56_0 x_4 n_12 a b ta tb)))) else ∃n_10:Int,q4RB_56_0 x_4 n_10 a b ta tb)))) else Q (.ret (.bool false)) [] {})))))):=by kernel_rfl

theorem val_split:∀ (n:Nat) (L:List Nat),(∀j,L.getD j 0≤255)→∃S,valNM L=S+256^n*valNM (L.drop n)∧S<256^n
 | 0,L,_=>⟨0,by simp,by decide⟩
 | n+1,[],_=>⟨0,by simp[valNM],Nat.pow_pos (by decide)⟩
 | n+1,x::L,hb=>by
  have hx:=hb 0
  rw[List.getD_cons_zero] at hx
  obtain ⟨S,h1,h2⟩:=val_split n L (fun j=>by have:=hb (j+1);rwa [List.getD_cons_succ] at this)
  refine ⟨x+256*S, ?_, ?_⟩
  ·rw[valNM,h1,List.drop_succ_cons,Nat.pow_succ,Nat.mul_comm (256^n) 256,Nat.mul_assoc,Nat.mul_add]
   omega
  ·rw[Nat.pow_succ];omega
theorem less_at {a b:List Nat} (ha:∀j,a.getD j 0≤255) (hb:∀j,b.getD j 0≤255) {k:Nat} (h:valNM (a.drop (k+1))=valNM (b.drop (k+1))) (hne:a.getD k 0<b.getD k 0):valNM a<valNM b:=by
 obtain ⟨S,h1,h2⟩:=val_split k a ha
 obtain ⟨T,h3,h4⟩:=val_split k b hb
 rw[val_drop] at h1 h3
 rw[h1,h3,h]
 generalize valNM (b.drop (k+1))=D
 generalize a.getD k 0=x at *
 generalize b.getD k 0=y at *
 have:256^k*(x+256*D)+256^k≤256^k*(y+256*D):=by
  rw[←Nat.mul_succ]
  exact Nat.mul_le_mul_left _ (by omega)
 omega
theorem imax_nat (a b:Nat):imax (a:Int) (b:Int)=((max a b:Nat):Int):=by
 unfold imax
 split<;>omega
theorem less_run (ta tb:Nat) (a b:List Nat) (ha:∀j,a.getD j 0≤255) (hb:∀j,b.getD j 0≤255) (hla:a.length≤100000) (hlb:b.length≤100000) (Q:Out→List Blk→Gh→Prop)
  (hT:valNM a<valNM b→Q (.ret (.bool true)) [] {}) (hF:¬ valNM a<valNM b→Q (.ret (.bool false)) [] {}):∃hv hb,goal_56 hv hb ta tb a b Q:=by
 obtain ⟨hv,hb',e⟩:∃hv hb,goal_56 hv hb ta tb a b Q=_:=⟨_,_,vc_56 ta tb a b Q⟩
 refine ⟨hv,hb',e.mpr ?_⟩
 unfold q4RB_56_0
 clear e
 refine ⟨_,rfl,_,rfl,_,rfl, ?_⟩
 rw[imax_nat]
 refine wrapI (by omega) (by omega) ⟨⟨max a.length b.length,⟨Nat.le_refl _,by rw[List.drop_of_length_le (by omega),List.drop_of_length_le (by omega)]⟩,rfl,rfl,rfl,trivial⟩, ?_⟩
 rintro k ⟨h1,h2⟩
 cases k with
 | zero=>
  refine ⟨_,rfl,splitD (fun h=>by exfalso;omega) (fun _=>hF ?_)⟩
  rw[List.drop_zero,List.drop_zero] at h2
  omega
 | succ j=>
  have e1:((j+1:Nat):Int)-1=(j:Int):=by omega
  have za:¬ j<a.length→a.getD j 0=0:=fun h=>by rw[List.getD_eq_getElem?_getD,List.getElem?_eq_none (by omega)];rfl
  have zb:¬ j<b.length→b.getD j 0=0:=fun h=>by rw[List.getD_eq_getElem?_getD,List.getElem?_eq_none (by omega)];rfl
  have va:=val_drop a j
  have vb:=val_drop b j
  have L1:=less_at (k:=j) ha hb h2
  have L2:=less_at (k:=j) hb ha h2.symm
  rw[e1]
  repeat' (first | (with_reducible refine getN (j:=j) (by omega) (by simp) ?_) | (with_reducible refine wrapI (by omega) (by omega) ?_) | ((fail_if_success (with_reducible refine wrapI ?_ ?_ ?_));(with_reducible refine ⟨_,rfl, ?_⟩)) | (with_reducible refine ckI (by simp[cellsN_len];omega) ?_) | ((with_reducible refine splitD (fun _ => ?_) (fun _ => ?_))<;>(try (exfalso;omega))) | ((with_reducible refine splitNE (fun _ => ?_) (fun _ => ?_))<;>(try (exfalso;omega))))
  all_goals first
   | exact hT (L1 (by omega))
   | exact hF (by have:=L2 (by omega);omega)
   | exact ⟨⟨trivial,rfl⟩,j,⟨by omega,by omega⟩,by omega,rfl,rfl,rfl,trivial⟩
def cLess:Con
 | [.lst ta ca na 1,.lst tb cb nb 1],H,K=>∃a b:List Nat,Lf (numK ta ca na a∧numK tb cb nb b)∧∀r:Bool,Lf (r=decide (valNM a<valNM b))→K (.ret (.bool r)) H
 | _,_,_=>False
theorem less_raw:ValidF Tryz.prog gl0 110 cLess:=by
 refine valid_frz (enters_of (by kernel_rfl)) gl0_noY 9 (nlR [1]) (wk_nlR _) fun args H Q hc => ?_
 unfold cLess at hc
 split at hc
 ·rename_i ta ca na tb cb nb
  obtain ⟨a,b,⟨⟨rfl,rfl,ha,hla⟩,⟨rfl,rfl,hb,hlb⟩⟩,hq⟩:=hc
  obtain ⟨hv,hb',h⟩:=less_run ta tb a b ha hb hla hlb (fun o H' _=>∃v,o=.ret v∧Q (.ret (nlR [1] (frzV 0 H' 9 v))) H)
   (fun h=>⟨_,rfl,hq true ⟨(decide_eq_true h).symm⟩⟩) (fun h=>⟨_,rfl,hq false ⟨(decide_eq_false h).symm⟩⟩)
  exact ⟨by simp[oldL,old,oldL_N],by simp[noYL,noY,noY_N],_,1000,envFor04 sm0_ok _ _ _,rfl,h⟩
 ·exact hc.elim
def cLessV:Con:=fun args H Q=>lendL [1,1] H args fun a=>cLess a H Q
theorem less_ok:ValidF Tryz.prog gl0 110 cLessV:=valid_view less_raw gl0_noY [1,1] fun args H Q hc=>by
 unfold cLess at hc
 split at hc
 ·obtain ⟨a,b,h,hq⟩:=hc
  exact ⟨a,b,h,fun r hr=>⟨rfl,⟨_,rfl,rfl⟩,hq r hr⟩⟩
 ·exact hc.elim
end Go.Proofs.YtiholnebhmjbjaaGreat

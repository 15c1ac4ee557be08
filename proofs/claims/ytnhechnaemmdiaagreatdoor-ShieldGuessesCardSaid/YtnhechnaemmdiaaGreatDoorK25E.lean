/-
  Chapter 25: keys and hidden numbers.
-/
import Derived.Test.YtnhechnaemmdiaaGreatDoorK25D
set_option linter.unusedSimpArgs false
set_option linter.unusedVariables false
set_option linter.unusedSectionVars false
namespace Go.Proofs.YtnhechnaemmdiaaGreatDoor
open Go.RowKit
set_option maxRecDepth 1000000

def incM (xs:List Int):Nat→Bool
 | 0=>true
 | i+1=>incM xs i&&(decide (1≤xs.getD i 0)&&decide (xs.getD i 0≤255)&&(Nat.beq i 0||decide (xs.getD (i-1) 0<xs.getD i 0)))
def lastM (xs:List Int) (i:Nat):Int:=if i=0 then 0 else xs.getD (i-1) 0
def lensM (a b c:List UInt8) (n:Nat):Bool:=Nat.beq a.length 32&&Nat.beq b.length 12&&Nat.beq c.length 32&&Nat.ble n 16
def namesM (a b c:List UInt8) (xs:List Int):Bool:=lensM a b c xs.length&&incM xs xs.length
def inv_51 (a b c:List UInt8) (xs:List Int) (s:S):List (List LInv):=[[
 { α:=Nat,pre:=fun i=>Lf (i≤xs.length),st:=fun i=>⟨mkT [(1,s.tm.get 1),(5,.bool (lensM a b c xs.length&&incM xs i)),(29,s.tm.get 29),(30,s.tm.get 30),(31,.int .i64 (i:Nat))],s.hp⟩,mu:=fun i=>xs.length-i }]]
def inv_56 (xs:List Int) (s:S):List (List LInv):=[[
 { α:=Nat,pre:=fun i=>Lf (i≤xs.length∧incM xs i=true),st:=fun i=>⟨mkT [(1,s.tm.get 1),(5,.int .i64 (lastM xs i)),(6,.int .i64 (i:Nat))],s.hp⟩,mu:=fun i=>xs.length-i }]]
noncomputable def goal_51 (hv:Nat→Option Pa) (hb:Nat→Option Bool) (tg:Nat) (a b c:List UInt8) (xs:List Int) (Q:Out→List Blk→Gh→Prop):Prop:=
 callx (e04 smI (fun i=>bif Nat.beq i 51000 then some (inv_51 a b c xs) else none) hv hb) (wpx (e04 smI (fun i=>bif Nat.beq i 51000 then some (inv_51 a b c xs) else none) hv hb) 1000) 51 [.agg [.str a,.str b,.str c],.lst tg (cellsI xs) xs.length 1] [] {} Q
def vc_51_1 (tg:Nat) (a:List UInt8) (b:List UInt8) (c:List UInt8) (xs:List Int) (Q:Out→List Blk→Gh→Prop):Prop:=
exI .i64 (xs.length:Int) fun n_0=>(∃x_1:Nat,Lf (x_1≤xs.length)∧eqqQ [AV.str a,.str b,.str c]∧eqqQ (AV.lst tg (cellsI xs) xs.length 1)∧AV.int .i64 0=AV.int .i64 (x_1:Int)∧AV.bool false=AV.bool (lensM a b c xs.length
 && incM xs x_1)∧eqqQ (AV.lst tg (cellsI xs) xs.length 1)∧eqqQ (AV.int .i64 n_0)∧True)∧∀x_1:Nat,Lf (x_1≤xs.length)→bif decide ((x_1:Int)<n_0) then exI .i64 (x_1:Int) fun n_2=>ckQ (Nat.blt (x_1:Int).toNat xs.length
 && true) (ckQ (Nat.blt ((x_1:Int).toNat*1) (cellsI xs).length) (exV .i64 ((cellsI xs).getD ((x_1:Int).toNat*1) AV.undef) fun n_3=>bif lensM a b c xs.length&&incM xs x_1 then bif decide (1≤n_3)&&decide (n_3≤255) then bif
 n_2==0 then exW .i64 ((x_1:Int)+1) fun n_4=>(True∧(0:Nat)=(0:Nat))∧∃y_5:Nat,Lf (y_5≤xs.length)∧xs.length-y_5<xs.length-x_1∧eqqQ [AV.str a,.str b,.str c]∧eqqQ (AV.lst tg (cellsI xs) xs.length 1) ∧
 AV.int .i64 n_4=AV.int .i64 (y_5:Int)∧AV.bool true=AV.bool (lensM a b c xs.length&&incM xs y_5)∧eqqQ (AV.lst tg (cellsI xs) xs.length 1)∧eqqQ (AV.int .i64 n_0)∧True else exW .i64 (n_2-1) fun n_4=>ckQ (decide (0≤n_4)
 && Nat.blt n_4.toNat xs.length&&true) (ckQ (Nat.blt (n_4.toNat*1) (cellsI xs).length) (exV .i64 ((cellsI xs).getD (n_4.toNat*1) AV.undef) fun n_5=>bif decide (n_3>n_5) then exW .i64 ((x_1:Int)+1) fun n_6=>(True∧(0:Nat)
 = (0:Nat))∧∃y_7:Nat,Lf (y_7≤xs.length)∧xs.length-y_7<xs.length-x_1∧eqqQ [AV.str a,.str b,.str c]∧eqqQ (AV.lst tg (cellsI xs) xs.length 1)∧AV.int .i64 n_6=AV.int .i64 (y_7:Int)∧AV.bool true=AV.bool (lensM a
 b c xs.length&&incM xs y_7)∧eqqQ (AV.lst tg (cellsI xs) xs.length 1)∧eqqQ (AV.int .i64 n_0)∧True else exW .i64 ((x_1:Int)+1) fun n_6=>(True∧(0:Nat)=(0:Nat))∧∃y_7:Nat,Lf (y_7≤xs.length)∧xs.length-y_7 <
 xs.length-x_1∧eqqQ [AV.str a,.str b,.str c]∧eqqQ (AV.lst tg (cellsI xs) xs.length 1)∧AV.int .i64 n_6=AV.int .i64 (y_7:Int)∧AV.bool false=AV.bool (lensM a b c xs.length&&incM xs y_7)∧eqqQ (AV.lst tg (cellsI xs)
 xs.length 1)∧eqqQ (AV.int .i64 n_0)∧True)) else exW .i64 ((x_1:Int)+1) fun n_4=>(True∧(0:Nat)=(0:Nat))∧∃y_5:Nat,Lf (y_5≤xs.length)∧xs.length-y_5<xs.length-x_1∧eqqQ [AV.str a,.str b,.str c]∧eqqQ
 (AV.lst tg (cellsI xs) xs.length 1)∧AV.int .i64 n_4=AV.int .i64 (y_5:Int)∧AV.bool false=AV.bool (lensM a b c xs.length&&incM xs y_5)∧eqqQ (AV.lst tg (cellsI xs) xs.length 1)∧eqqQ (AV.int .i64 n_0)∧True else exW .i64 ((x_1
 : Int)+1) fun n_4=>(True∧(0:Nat)=(0:Nat))∧∃y_5:Nat,Lf (y_5≤xs.length)∧xs.length-y_5<xs.length-x_1∧eqqQ [AV.str a,.str b,.str c]∧eqqQ (AV.lst tg (cellsI xs) xs.length 1)∧AV.int .i64 n_4=AV.int .i64 (y_5
 : Int)∧AV.bool false=AV.bool (lensM a b c xs.length&&incM xs y_5)∧eqqQ (AV.lst tg (cellsI xs) xs.length 1)∧eqqQ (AV.int .i64 n_0)∧True)) else bif lensM a b c xs.length&&incM xs x_1 then Q (.ret (.bool true)) [] {} else Q
 (.ret (.bool false)) [] {}
theorem vc_51 (tg:Nat) (a:List UInt8) (b:List UInt8) (c:List UInt8) (xs:List Int) (Q:Out→List Blk→Gh→Prop):goal_51 (lookV [(208906,.int .i64),(208911,.int .i64),(208917,.int .i64),(208922,.int .i64),(208926,.int
 .i64),(208929,.int .i64),(208931,.int .i64),(208950,.int .i64),(208944,.int .i64),(208946,.int .i64)]) (lookB []) tg a b c xs Q=(exI .i64 (a.length:Int) fun n_0=>bif n_0==32 then exI .i64 (b.length:Int) fun n_1=>bif
 n_1==12 then exI .i64 (c.length:Int) fun n_2=>bif n_2==32 then exI .i64 (xs.length:Int) fun n_3=>bif decide (n_3≤16) then exI .i64 (xs.length:Int) fun n_4=>(∃x_5:Nat,Lf (x_5≤xs.length)∧eqqQ [AV.str a,.str b,.str
 c]∧eqqQ (AV.lst tg (cellsI xs) xs.length 1)∧AV.int .i64 0=AV.int .i64 (x_5:Int)∧AV.bool true=AV.bool (lensM a b c xs.length&&incM xs x_5)∧eqqQ (AV.lst tg (cellsI xs) xs.length 1)∧eqqQ (AV.int .i64 n_4)∧True)∧∀x_5 :
 Nat,Lf (x_5≤xs.length)→bif decide ((x_5:Int)<n_4) then exI .i64 (x_5:Int) fun n_6=>ckQ (Nat.blt (x_5:Int).toNat xs.length&&true) (ckQ (Nat.blt ((x_5:Int).toNat*1) (cellsI xs).length) (exV .i64 ((cellsI xs).getD ((x_5 :
 Int).toNat*1) AV.undef) fun n_7=>bif lensM a b c xs.length&&incM xs x_5 then bif decide (1≤n_7)&&decide (n_7≤255) then bif n_6==0 then exW .i64 ((x_5:Int)+1) fun n_8=>(True∧(0:Nat)=(0:Nat))∧∃y_9:Nat,Lf
 (y_9≤xs.length)∧xs.length-y_9<xs.length-x_5∧eqqQ [AV.str a,.str b,.str c]∧eqqQ (AV.lst tg (cellsI xs) xs.length 1)∧AV.int .i64 n_8=AV.int .i64 (y_9:Int)∧AV.bool true=AV.bool (lensM a b c xs.length&&incM xs y_9)
 ∧ eqqQ (AV.lst tg (cellsI xs) xs.length 1)∧eqqQ (AV.int .i64 n_4)∧True else exW .i64 (n_6-1) fun n_8=>ckQ (decide (0≤n_8)&&Nat.blt n_8.toNat xs.length&&true) (ckQ (Nat.blt (n_8.toNat*1) (cellsI xs).length) (exV .i64
 ((cellsI xs).getD (n_8.toNat*1) AV.undef) fun n_9=>bif decide (n_7>n_9) then exW .i64 ((x_5:Int)+1) fun n_10=>(True∧(0:Nat)=(0:Nat))∧∃y_11:Nat,Lf (y_11≤xs.length)∧xs.length-y_11<xs.length-x_5∧eqqQ
 [AV.str a,.str b,.str c]∧eqqQ (AV.lst tg (cellsI xs) xs.length 1)∧AV.int .i64 n_10=AV.int .i64 (y_11:Int)∧AV.bool true=AV.bool (lensM a b c xs.length&&incM xs y_11)∧eqqQ (AV.lst tg (cellsI xs) xs.length 1)∧eqqQ (AV.int
 .i64 n_4)∧True else exW .i64 ((x_5:Int)+1) fun n_10=>(True∧(0:Nat)=(0:Nat))∧∃y_11:Nat,Lf (y_11≤xs.length)∧xs.length-y_11<xs.length-x_5∧eqqQ [AV.str a,.str b,.str c]∧eqqQ (AV.lst tg (cellsI xs)
 xs.length 1)∧AV.int .i64 n_10=AV.int .i64 (y_11:Int)∧AV.bool false=AV.bool (lensM a b c xs.length&&incM xs y_11)∧eqqQ (AV.lst tg (cellsI xs) xs.length 1)∧eqqQ (AV.int .i64 n_4)∧True)) else exW .i64 ((x_5:Int)+1) fun
 n_8=>(True∧(0:Nat)=(0:Nat))∧∃y_9:Nat,Lf (y_9≤xs.length)∧xs.length-y_9<xs.length-x_5∧eqqQ [AV.str a,.str b,.str c]∧eqqQ (AV.lst tg (cellsI xs) xs.length 1)∧AV.int .i64 n_8=AV.int .i64 (y_9:Int) ∧
 AV.bool false=AV.bool (lensM a b c xs.length&&incM xs y_9)∧eqqQ (AV.lst tg (cellsI xs) xs.length 1)∧eqqQ (AV.int .i64 n_4)∧True else exW .i64 ((x_5:Int)+1) fun n_8=>(True∧(0:Nat)=(0:Nat))∧∃y_9:Nat,Lf (y_9 ≤
 xs.length)∧xs.length-y_9<xs.length-x_5∧eqqQ [AV.str a,.str b,.str c]∧eqqQ (AV.lst tg (cellsI xs) xs.length 1)∧AV.int .i64 n_8=AV.int .i64 (y_9:Int)∧AV.bool false=AV.bool (lensM a b c xs.length&&incM xs y_9)∧eqqQ
 (AV.lst tg (cellsI xs) xs.length 1)∧eqqQ (AV.int .i64 n_4)∧True)) else bif lensM a b c xs.length&&incM xs x_5 then Q (.ret (.bool true)) [] {} else Q (.ret (.bool false)) [] {} else vc_51_1 tg a b c xs Q else vc_51_1 tg a b c xs Q
 else vc_51_1 tg a b c xs Q else vc_51_1 tg a b c xs Q):=by kernel_rfl

noncomputable def goal_56 (hv:Nat→Option Pa) (hb:Nat→Option Bool) (tg:Nat) (a b c:List UInt8) (xs:List Int) (Q:Out→List Blk→Gh→Prop):Prop:=
 callx (e04 sm0 (fun i=>bif Nat.beq i 56000 then some (inv_56 xs) else none) hv hb) (wpx (e04 sm0 (fun i=>bif Nat.beq i 56000 then some (inv_56 xs) else none) hv hb) 1000) 56 [.agg [.str a,.str b,.str c],.lst tg (cellsI xs) xs.length 1] [] {} Q
theorem vc_56 (tg:Nat) (a:List UInt8) (b:List UInt8) (c:List UInt8) (xs:List Int) (Q:Out→List Blk→Gh→Prop):goal_56 (lookV [(229385,.int .i64),(229390,.int .i64),(229396,.int .i64),(229401,.int .i64),(229404,.int
 .i64),(229406,.int .i64),(229411,.int .i64),(229413,.int .i64),(229414,.int .i64),(229418,.int .i64),(229420,.int .i64),(229424,.int .i64),(229426,.int .i64),(229408,.int .i64),(229409,.int .i64)]) (lookB []) tg a b c
 xs Q=(exI .i64 (a.length:Int) fun n_0=>bif n_0 !=32 then Q (.ret (.bool false)) [] {} else exI .i64 (b.length:Int) fun n_1=>bif n_1 !=12 then Q (.ret (.bool false)) [] {} else exI .i64 (c.length:Int) fun n_2=>bif n_2 !=32
 then Q (.ret (.bool false)) [] {} else exI .i64 (xs.length:Int) fun n_3=>bif decide (n_3>16) then Q (.ret (.bool false)) [] {} else (∃x_4:Nat,Lf (x_4≤xs.length∧incM xs x_4=true)∧eqqQ [AV.str a,.str b,.str c]∧eqqQ
 (AV.lst tg (cellsI xs) xs.length 1)∧AV.int .i64 0=AV.int .i64 (lastM xs x_4)∧AV.int .i64 0=AV.int .i64 (x_4:Int)∧True)∧∀x_4:Nat,Lf (x_4≤xs.length∧incM xs x_4=true)→exI .i64 (x_4:Int) fun n_5=>exI .i64
 (xs.length:Int) fun n_6=>bif decide (n_5<n_6) then exI .i64 (x_4:Int) fun n_7=>ckQ (decide (0≤n_7)&&Nat.blt n_7.toNat xs.length&&true) (ckQ (Nat.blt (n_7.toNat*1) (cellsI xs).length) (exV .i64 ((cellsI xs).getD (n_7.toNat
 * 1) AV.undef) fun n_8=>exI .i64 (lastM xs x_4) fun n_9=>bif decide (n_8≤n_9) then Q (.ret (.bool false)) [] {} else exI .i64 (x_4:Int) fun n_10=>ckQ (decide (0≤n_10)&&Nat.blt n_10.toNat xs.length&&true) (ckQ (Nat.blt
 (n_10.toNat*1) (cellsI xs).length) (exV .i64 ((cellsI xs).getD (n_10.toNat*1) AV.undef) fun n_11=>bif decide (n_11>255) then Q (.ret (.bool false)) [] {} else exI .i64 (x_4:Int) fun n_12=>ckQ (decide (0≤n_12)&&Nat.blt
 n_12.toNat xs.length&&true) (ckQ (Nat.blt (n_12.toNat*1) (cellsI xs).length) (exV .i64 ((cellsI xs).getD (n_12.toNat*1) AV.undef) fun n_13=>exI .i64 (x_4:Int) fun n_14=>exW .i64 (n_14+1) fun n_15=>(True∧(0:Nat)=(0 :
 Nat))∧∃y_16:Nat,Lf (y_16≤xs.length∧incM xs y_16=true)∧xs.length-y_16<xs.length-x_4∧eqqQ [AV.str a,.str b,.str c]∧eqqQ (AV.lst tg (cellsI xs) xs.length 1)∧AV.int .i64 n_13=AV.int .i64 (lastM xs y_16)∧AV.int
 .i64 n_15=AV.int .i64 (y_16:Int)∧True)))))) else Q (.ret (.bool true)) [] {}):=by kernel_rfl

theorem incM_le {xs:List Int}:∀ {n i:Nat},i≤n→incM xs n=true→incM xs i=true
 | 0,i,h,hn=>by
  obtain rfl:i=0:=by omega
  rfl
 | n+1,i,h,hn=>by
  by_cases e:i=n+1
  ·rw[e];exact hn
  ·rw[incM,Bool.and_eq_true] at hn
   exact incM_le (by omega) hn.1
theorem getI0 {xs:List Int} {i m:Nat} (hi:i<xs.length) (hm:m=i) {K:Int→Prop} (hk:K (xs.getD i 0)):∃n:Int,List.getD (cellsI xs) m AV.undef=AV.int .i64 n∧K n:=getI hi hm hk
theorem rnames_run (tg:Nat) (a b c:List UInt8) (xs:List Int) (hx:xs.length≤9223372036854775807) (Q:Out→List Blk→Gh→Prop) (hq:Q (.ret (.bool (namesM a b c xs))) [] {}):∃hv hb,goal_56 hv hb tg a b c xs Q:=by
 obtain ⟨hv,hb',e⟩:∃hv hb,goal_56 hv hb tg a b c xs Q=_:=⟨_,_,vc_56 tg a b c xs Q⟩
 refine ⟨hv,hb',e.mpr ?_⟩
 clear e
 have yes:namesM a b c xs=true→Q (.ret (.bool true)) [] {}:=fun h=>by rwa [h] at hq
 have no:namesM a b c xs=false→Q (.ret (.bool false)) [] {}:=fun h=>by rwa [h] at hq
 have nl:lensM a b c xs.length=false→Q (.ret (.bool false)) [] {}:=fun h=>no (by rw[namesM,h];rfl)
 have hl:¬ (a.length=32∧b.length=12∧c.length=32∧xs.length≤16)→lensM a b c xs.length=false:=fun h=>Bool.eq_false_iff.2 (by
  unfold lensM
  rw[ne_eq,Bool.and_eq_true,Bool.and_eq_true,Bool.and_eq_true,nbeq,nbeq,nbeq,Nat.ble_eq]
  omega)
 have hcl:=cellsI_len xs
 refine ⟨_,rfl,splitNE (fun h=>nl (hl (by omega))) (fun h1=>⟨_,rfl,splitNE (fun h=>nl (hl (by omega))) (fun h2=>⟨_,rfl,splitNE (fun h=>nl (hl (by omega))) (fun h3=>⟨_,rfl,splitD (fun h=>nl (hl (by omega))) (fun h4 => ?_)⟩)⟩)⟩)⟩
 have hyes:lensM a b c xs.length=true:=by
  unfold lensM
  rw[Bool.and_eq_true,Bool.and_eq_true,Bool.and_eq_true,nbeq,nbeq,nbeq,Nat.ble_eq]
  omega
 refine ⟨⟨0,⟨by omega,rfl⟩,rfl,rfl,rfl,rfl,trivial⟩, ?_⟩
 rintro i ⟨g1,g2⟩
 refine ⟨_,rfl,_,rfl,splitD (fun g3 => ?_) (fun g3 => ?_)⟩
 ·have hi:i<xs.length:=by omega
  have bad:∀ (h:¬ (lastM xs i<xs.getD i 0∧xs.getD i 0≤255)),Q (.ret (.bool false)) [] {}:=fun h=>no (by
   rw[namesM,hyes,Bool.true_and]
   refine Bool.eq_false_iff.2 fun hf=>h ?_
   have hf1:=incM_le (i:=i+1) (by omega) hf
   rw[incM,Bool.and_eq_true,Bool.and_eq_true,Bool.and_eq_true,Bool.or_eq_true,nbeq,decide_eq_true_eq,decide_eq_true_eq,decide_eq_true_eq] at hf1
   unfold lastM
   split<;>omega)
  refine ⟨_,rfl,ckI (by simp;omega) (ckI (by rw[hcl];simp;omega) (getI0 (i:=i) hi (by simp) ⟨_,rfl,splitD (fun h=>bad (by omega)) (fun h5=>⟨_,rfl,ckI (by simp;omega) (ckI (by rw[hcl];simp;omega) (getI0 (i:=i) hi (by simp) (splitD (fun h=>bad (by omega)) (fun h6 => ?_))))⟩)⟩))⟩
  refine ⟨_,rfl,ckI (by simp;omega) (ckI (by rw[hcl];simp;omega) (getI0 (i:=i) hi (by simp) ⟨_,rfl,wrapI (by omega) (by omega) ⟨⟨trivial,rfl⟩,i+1,⟨by omega, ?_⟩,by omega,rfl,rfl,rfl,rfl,trivial⟩⟩))⟩
  rw[incM,g2,Bool.true_and,Bool.and_eq_true,Bool.and_eq_true,Bool.or_eq_true,nbeq,decide_eq_true_eq,decide_eq_true_eq,decide_eq_true_eq]
  have h5':lastM xs i<xs.getD i 0:=by omega
  unfold lastM at h5'
  split at h5'
  ·exact ⟨⟨by omega,by omega⟩,.inl (by assumption)⟩
  ·rename_i hne
   have g4:=incM_le (n:=i) (i:=(i-1)+1) (by omega) g2
   rw[incM,Bool.and_eq_true,Bool.and_eq_true,Bool.and_eq_true,decide_eq_true_eq,decide_eq_true_eq] at g4
   exact ⟨⟨by omega,by omega⟩,.inr h5'⟩
 ·have:i=xs.length:=by omega
  subst this
  exact yes (by rw[namesM,hyes,g2];rfl)
theorem flat_cI (xs:List Int):oldL 2 (cellsI xs)=true∧noYL (cellsI xs)=true:=by
 unfold cellsI
 induction xs with
 | nil=>exact ⟨rfl,rfl⟩
 | cons x xs ih=>simp[oldL,noYL,old,noY,ih.1,ih.2]
theorem names_run (tg:Nat) (a b c:List UInt8) (xs:List Int) (hx:xs.length≤9223372036854775807) (Q:Out→List Blk→Gh→Prop) (hq:Q (.ret (.bool (namesM a b c xs))) [] {}):∃hv hb,goal_51 hv hb tg a b c xs Q:=by
 obtain ⟨hv,hb',e⟩:∃hv hb,goal_51 hv hb tg a b c xs Q=_:=⟨_,_,vc_51 tg a b c xs Q⟩
 refine ⟨hv,hb',e.mpr ?_⟩
 clear e
 have yes:namesM a b c xs=true→Q (.ret (.bool true)) [] {}:=fun h=>by rwa [h] at hq
 have no:namesM a b c xs=false→Q (.ret (.bool false)) [] {}:=fun h=>by rwa [h] at hq
 have hcl:=cellsI_len xs
 have one:∀ (h:¬ (a.length=32∧b.length=12∧c.length=32∧xs.length≤16)),vc_51_1 tg a b c xs Q:=fun h=>by
  have hl:lensM a b c xs.length=false:=Bool.eq_false_iff.2 (by
   unfold lensM
   rw[ne_eq,Bool.and_eq_true,Bool.and_eq_true,Bool.and_eq_true,nbeq,nbeq,nbeq,Nat.ble_eq]
   omega)
  unfold vc_51_1
  refine ⟨_,rfl,⟨0,⟨by omega⟩,rfl,rfl,rfl,by rw[hl];rfl,rfl,rfl,trivial⟩, ?_⟩
  rintro i ⟨g1⟩
  refine splitD (fun g3 => ?_) (fun g3 => ?_)
  ·have hi:i<xs.length:=by omega
   refine ⟨_,rfl,ckI (by simp;omega) (ckI (by rw[hcl];simp;omega) (getI0 (i:=i) hi (by simp) ?_))⟩
   cases hf:lensM a b c xs.length&&incM xs i
   ·rw[cond_false]
    exact wrapI (by omega) (by omega) ⟨⟨trivial,rfl⟩,i+1,⟨by omega⟩,by omega,rfl,rfl,rfl,by rw[incM,←Bool.and_assoc,hf];rfl,rfl,rfl,trivial⟩
   ·rw[cond_true]
    cases hr:decide (1≤xs.getD i 0)&&decide (xs.getD i 0≤255)
    ·rw[cond_false]
     exact wrapI (by omega) (by omega) ⟨⟨trivial,rfl⟩,i+1,⟨by omega⟩,by omega,rfl,rfl,rfl,by rw[incM,←Bool.and_assoc,hf,hr];rfl,rfl,rfl,trivial⟩
    ·rw[cond_true]
     refine splitE (fun h => ?_) (fun h => ?_)
     ·have h0:i=0:=by omega
      exact wrapI (by omega) (by omega) ⟨⟨trivial,rfl⟩,i+1,⟨by omega⟩,by omega,rfl,rfl,rfl,by rw[incM,←Bool.and_assoc,hf,hr,h0];rfl,rfl,rfl,trivial⟩
     ·have hb0:Nat.beq i 0=false:=Bool.eq_false_iff.2 (by rw[ne_eq,nbeq];omega)
      refine wrapI (by omega) (by omega) (ckI (by simp;omega) (ckI (by rw[hcl];simp;omega) (getI0 (i:=i-1) (by omega) (by simp) (splitD (fun h2 => ?_) (fun h2 => ?_)))))
      ·exact wrapI (by omega) (by omega) ⟨⟨trivial,rfl⟩,i+1,⟨by omega⟩,by omega,rfl,rfl,rfl,by rw[incM,←Bool.and_assoc,hf,hr,hb0,decide_eq_true (by omega:xs.getD (i-1) 0<xs.getD i 0)];rfl,rfl,rfl,trivial⟩
      ·exact wrapI (by omega) (by omega) ⟨⟨trivial,rfl⟩,i+1,⟨by omega⟩,by omega,rfl,rfl,rfl,by rw[incM,←Bool.and_assoc,hf,hr,hb0,decide_eq_false (by omega:¬ xs.getD (i-1) 0<xs.getD i 0)];rfl,rfl,rfl,trivial⟩
  ·obtain rfl:i=xs.length:=by omega
   cases hf:lensM a b c xs.length&&incM xs xs.length
   ·exact no hf
   ·exact yes hf
 refine ⟨_,rfl,splitE (fun h1=>⟨_,rfl,splitE (fun h2=>⟨_,rfl,splitE (fun h3=>⟨_,rfl,splitD (fun h4 => ?_) (fun h=>one (by omega))⟩) (fun h=>one (by omega))⟩) (fun h=>one (by omega))⟩) (fun h=>one (by omega))⟩
 have hl:lensM a b c xs.length=true:=by
  unfold lensM
  rw[Bool.and_eq_true,Bool.and_eq_true,Bool.and_eq_true,nbeq,nbeq,nbeq,Nat.ble_eq]
  omega
 refine ⟨_,rfl,⟨0,⟨by omega⟩,rfl,rfl,rfl,by rw[hl];rfl,rfl,rfl,trivial⟩, ?_⟩
 rintro i ⟨g1⟩
 refine splitD (fun g3 => ?_) (fun g3 => ?_)
 ·have hi:i<xs.length:=by omega
  refine ⟨_,rfl,ckI (by simp;omega) (ckI (by rw[hcl];simp;omega) (getI0 (i:=i) hi (by simp) ?_))⟩
  cases hf:lensM a b c xs.length&&incM xs i
  ·rw[cond_false]
   exact wrapI (by omega) (by omega) ⟨⟨trivial,rfl⟩,i+1,⟨by omega⟩,by omega,rfl,rfl,rfl,by rw[incM,←Bool.and_assoc,hf];rfl,rfl,rfl,trivial⟩
  ·rw[cond_true]
   cases hr:decide (1≤xs.getD i 0)&&decide (xs.getD i 0≤255)
   ·rw[cond_false]
    exact wrapI (by omega) (by omega) ⟨⟨trivial,rfl⟩,i+1,⟨by omega⟩,by omega,rfl,rfl,rfl,by rw[incM,←Bool.and_assoc,hf,hr];rfl,rfl,rfl,trivial⟩
   ·rw[cond_true]
    refine splitE (fun h => ?_) (fun h => ?_)
    ·have h0:i=0:=by omega
     exact wrapI (by omega) (by omega) ⟨⟨trivial,rfl⟩,i+1,⟨by omega⟩,by omega,rfl,rfl,rfl,by rw[incM,←Bool.and_assoc,hf,hr,h0];rfl,rfl,rfl,trivial⟩
    ·have hb0:Nat.beq i 0=false:=Bool.eq_false_iff.2 (by rw[ne_eq,nbeq];omega)
     refine wrapI (by omega) (by omega) (ckI (by simp;omega) (ckI (by rw[hcl];simp;omega) (getI0 (i:=i-1) (by omega) (by simp) (splitD (fun h2 => ?_) (fun h2 => ?_)))))
     ·exact wrapI (by omega) (by omega) ⟨⟨trivial,rfl⟩,i+1,⟨by omega⟩,by omega,rfl,rfl,rfl,by rw[incM,←Bool.and_assoc,hf,hr,hb0,decide_eq_true (by omega:xs.getD (i-1) 0<xs.getD i 0)];rfl,rfl,rfl,trivial⟩
     ·exact wrapI (by omega) (by omega) ⟨⟨trivial,rfl⟩,i+1,⟨by omega⟩,by omega,rfl,rfl,rfl,by rw[incM,←Bool.and_assoc,hf,hr,hb0,decide_eq_false (by omega:¬ xs.getD (i-1) 0<xs.getD i 0)];rfl,rfl,rfl,trivial⟩
 ·obtain rfl:i=xs.length:=by omega
  cases hf:lensM a b c xs.length&&incM xs xs.length
  ·exact no hf
  ·exact yes hf
def cNames:Con
 | [.agg [.str a,.str b,.str c],.lst _ l n 1],H,K=>∃xs:List Int,Lf (l=cellsI xs∧n=xs.length∧xs.length≤9223372036854775807)∧∀r:Bool,Lf (r=namesM a b c xs)→K (.ret (.bool r)) H
 | _,_,_=>False
theorem names_ok:ValidF Tryz.prog gl0 51 cNames:=by
 refine valid_flat (enters_of (by kernel_rfl)) gl0_noY fun args H Q hc => ?_
 unfold cNames at hc
 split at hc
 ·rename_i a b c tg l n
  obtain ⟨xs,⟨rfl,rfl,h1⟩,hq⟩:=hc
  obtain ⟨hv,hb',h⟩:=names_run tg a b c xs h1 (Q:=fun o H' _=>H'=[]∧(∃v,o=.ret v∧old 0 v=true∧noY v=true)∧Q o H) ⟨rfl,⟨_,rfl,rfl,rfl⟩,hq _ ⟨rfl⟩⟩
  exact ⟨by simp[oldL,old,(flat_cI _).1],by simp[noYL,noY,(flat_cI _).2],_,1000,envFor04 smI_ok _ _ _,rfl,h⟩
 ·exact hc.elim
theorem rnames_ok:ValidF Tryz.prog gl0 56 cNames:=by
 refine valid_flat (enters_of (by kernel_rfl)) gl0_noY fun args H Q hc => ?_
 unfold cNames at hc
 split at hc
 ·rename_i a b c tg l n
  obtain ⟨xs,⟨rfl,rfl,h1⟩,hq⟩:=hc
  obtain ⟨hv,hb',h⟩:=rnames_run tg a b c xs h1 (Q:=fun o H' _=>H'=[]∧(∃v,o=.ret v∧old 0 v=true∧noY v=true)∧Q o H) ⟨rfl,⟨_,rfl,rfl,rfl⟩,hq _ ⟨rfl⟩⟩
  exact ⟨by simp[oldL,old,(flat_cI _).1],by simp[noYL,noY,(flat_cI _).2],_,1000,envFor04 sm0_ok _ _ _,rfl,h⟩
 ·exact hc.elim
end Go.Proofs.YtnhechnaemmdiaaGreatDoor

/-
  Chapter 21: mac, proved; Derive's residual.
-/
import Derived.Test.YtjenieljapmehaaDoorD21R
set_option linter.unusedSimpArgs false
set_option linter.unusedVariables false
set_option linter.unusedSectionVars false
namespace Go.Proofs.YtjenieljapmehaaDoor
open Go.RowKit
set_option maxRecDepth 1000000

theorem ckT {b:Bool} {A B:Prop} (h:b=true) (k:A):bif b then A else B:=by rw[h];exact k
theorem ckN {b:Bool} {A B:Prop} (h:b=false) (k:B):bif b then A else B:=by rw[h];exact k
theorem frzCS (H:List Blk) (l:List (List UInt8)):(cellsSM l).map (fun x=>frzV 1 H 8 x)=cellsSM l:=by
 simp only[cellsSM,List.map_map]
 exact List.map_congr_left fun x _=>rfl
theorem oneL_cs (l:List (List UInt8)):oneL (cellsSM l)=true:=by
 induction l with
 | nil=>rfl
 | cons x l ih=>simpa [cellsSM,oneL,one] using ih
def macSM (key:List UInt8) (l:List (List UInt8)):List UInt8:=
 sumSM [withM 92 (if 64<key.length then sumSM [key] else key),sumSM (withM 54 (if 64<key.length then sumSM [key] else key)::l)]
theorem mac_len (key:List UInt8) (l:List (List UInt8)):(macSM key l).length=32:=sumS_len _
theorem with_len {c:Nat} {key:List UInt8} (h:key.length≤64):(withM c key).length=64:=by rw[withM,List.length_map,pad_len h]
theorem mac_run (tg:Nat) (ks:List Nat) (key:List UInt8) (l:List (List UInt8)) (hks:ks=makM) (hk:key.length≤100000) (h3:l.length≤900) (h4:∀s∈l,s.length≤100000) (Q:Out→List Blk→Gh→Prop)
  (hq:Q (.ret (.str (macSM key l))) [] {}):∃hv hb,goal_35 hv hb tg ks key l Q:=by
 obtain ⟨hv',hb',e'⟩:∃hv hb,goal_35 hv hb tg ks key l Q=_:=⟨_,_,vc_35 tg ks key l Q⟩
 refine ⟨hv',hb',e'.mpr ?_⟩
 clear e'
 have hN:(cells32M ks).length=72:=by rw[hks,cells32_len];rfl
 have hT:List.take 72 (List.drop 0 (cells32M ks))=cells32M makM:=by
  rw[List.drop_zero,List.take_of_length_le (by omega),hks]
 have hE:(eqAVL (List.take 72 (List.drop 0 (cells32M ks))) (List.take 72 (List.drop 0 (cells32M ks)))&&((some ((cells32M ks).length+1))==some ((cells32M ks).length+1)))=true:=by
  rw[hT,eqAVL_32]
  simp
 have hA:(Nat.beq (cells32M ks).length (cells32M ks).length&&Nat.ble 72 (cells32M ks).length)=true:=by rw[hN];rfl
 have hL:∀a b:List UInt8,a.length≤100000→b.length≤100000→∀s∈[a,b],s.length≤100000:=fun a b ha hb s hs=>by
  simp only[List.mem_cons,List.not_mem_nil,or_false] at hs
  rcases hs with rfl | rfl<;>assumption
 have hO:((((cellsSM l).length.beq (l.length*1))&&oneL (cellsSM l))&&true&&Nat.ble (l.length*16) 1099511627776)=true:=by
  rw[oneL_cs]
  simp[cellsS_len]
  omega
 refine ⟨_,rfl,splitD (fun h => ?_) (fun h => ?_)⟩
 ·have hq':Q (.ret (.str (sumSM [withM 92 (sumSM [key]),sumSM (withM 54 (sumSM [key])::l)]))) [] {}:=by
   rw[macSM,if_pos (by omega)] at hq
   exact hq
  refine ckI hA ⟨⟨hT⟩,[key],⟨rfl,rfl,by simp,fun s hs=>by simp at hs;subst hs;exact hk⟩, ?_⟩
  rintro k ⟨ek⟩
  rw[←ek] at hq'
  have hk':k.length≤64:=by rw[ek,sumS_len];omega
  clear ek hq
  refine ckI hA (ckI hA ⟨92,⟨rfl,rfl,hk'⟩, ?_⟩)
  rintro x4 ⟨rfl⟩
  refine ckI hE (ckI hE ⟨54,⟨rfl,rfl,hk'⟩, ?_⟩)
  rintro x6 ⟨rfl⟩
  have hw1:=with_len (c:=92) hk'
  have hw2:=with_len (c:=54) hk'
  refine ckI hE (ckI hE (ckI hO ?_))
  cases l with
  | nil=>
   refine ckT rfl (ckI rfl (ckI hE (ckI hE ⟨⟨hT⟩,[withM 54 k],⟨rfl,rfl,by simp,fun s hs=>by simp at hs;subst hs;omega⟩, ?_⟩)))
   rintro o8 ⟨rfl⟩
   refine ckI hE ⟨⟨hT⟩,[withM 92 k,sumSM [withM 54 k]],⟨rfl,rfl,by simp,hL _ _ (by omega) (by rw[sumS_len];omega)⟩, ?_⟩
   rintro o ⟨rfl⟩
   exact hq'
  | cons a l=>
   refine ckN rfl (ckI (by simp) (ckI (by simp at h3 ⊢;omega) (ckI hE (ckI hE ⟨⟨hT⟩,ckI (by simp[cellsS_len];omega) ⟨withM 54 k::a::l,⟨?_,by simp;omega,by simp at h3 ⊢;omega,fun s hs => ?_⟩, ?_⟩⟩))))
   ·rw[List.drop_zero,List.take_of_length_le (by simp[cellsS_len];omega)]
    exact frzCS _ (withM 54 k::a::l)
   ·simp only[List.mem_cons] at hs
    rcases hs with rfl | hs
    ·omega
    ·exact h4 s (by simpa using hs)
   rintro o8 ⟨rfl⟩
   refine ckI hE ⟨⟨hT⟩,[withM 92 k,sumSM (withM 54 k::a::l)],⟨rfl,rfl,by simp,hL _ _ (by omega) (by rw[sumS_len];omega)⟩, ?_⟩
   rintro o ⟨rfl⟩
   exact hq'
 ·have hq':Q (.ret (.str (sumSM [withM 92 key,sumSM (withM 54 key::l)]))) [] {}:=by
   rw[macSM,if_neg (by omega)] at hq
   exact hq
  have hk':key.length≤64:=by omega
  clear hq
  refine ckI hA (ckI hA ⟨92,⟨rfl,rfl,hk'⟩, ?_⟩)
  rintro x4 ⟨rfl⟩
  refine ckI hE (ckI hE ⟨54,⟨rfl,rfl,hk'⟩, ?_⟩)
  rintro x6 ⟨rfl⟩
  have hw1:=with_len (c:=92) hk'
  have hw2:=with_len (c:=54) hk'
  refine ckI hE (ckI hE (ckI hO ?_))
  cases l with
  | nil=>
   refine ckT rfl (ckI rfl (ckI hE (ckI hE ⟨⟨hT⟩,[withM 54 key],⟨rfl,rfl,by simp,fun s hs=>by simp at hs;subst hs;omega⟩, ?_⟩)))
   rintro o8 ⟨rfl⟩
   refine ckI hE ⟨⟨hT⟩,[withM 92 key,sumSM [withM 54 key]],⟨rfl,rfl,by simp,hL _ _ (by omega) (by rw[sumS_len];omega)⟩, ?_⟩
   rintro o ⟨rfl⟩
   exact hq'
  | cons a l=>
   refine ckN rfl (ckI (by simp) (ckI (by simp at h3 ⊢;omega) (ckI hE (ckI hE ⟨⟨hT⟩,ckI (by simp[cellsS_len];omega) ⟨withM 54 key::a::l,⟨?_,by simp;omega,by simp at h3 ⊢;omega,fun s hs => ?_⟩, ?_⟩⟩))))
   ·rw[List.drop_zero,List.take_of_length_le (by simp[cellsS_len];omega)]
    exact frzCS _ (withM 54 key::a::l)
   ·simp only[List.mem_cons] at hs
    rcases hs with rfl | hs
    ·omega
    ·exact h4 s (by simpa using hs)
   rintro o8 ⟨rfl⟩
   refine ckI hE ⟨⟨hT⟩,[withM 92 key,sumSM (withM 54 key::a::l)],⟨rfl,rfl,by simp,hL _ _ (by omega) (by rw[sumS_len];omega)⟩, ?_⟩
   rintro o ⟨rfl⟩
   exact hq'
def cMac:Con
 | [.agg cs,.str key,.lst _ ss n 1],H,K=>∃l:List (List UInt8),Lf (cs=cells32M makM∧key.length≤100000∧ss=cellsSM l∧n=l.length∧l.length≤900∧∀s∈l,s.length≤100000)∧∀o,Lf (o=macSM key l)→K (.ret (.str o)) H
 | _,_,_=>False
theorem mac_raw:ValidF Tryd.prog gl0 35 cMac:=by
 refine valid_flat (enters_of (by kernel_rfl)) gl0_noY fun args H Q hc => ?_
 unfold cMac at hc
 split at hc
 ·rename_i cs key tg ss n
  obtain ⟨l,⟨rfl,k1,rfl,rfl,k2,k3⟩,hq⟩:=hc
  obtain ⟨hv,hb',h⟩:=mac_run tg makM key l rfl k1 k2 k3 (Q:=fun o H' _=>H'=[]∧(∃v,o=.ret v∧old 0 v=true∧noY v=true)∧Q o H) ⟨rfl,⟨_,rfl,rfl,rfl⟩,hq _ ⟨rfl⟩⟩
  exact ⟨by simp[oldL,old,old32,cellsS_old],by simp[noYL,noY,noY32,cellsS_noY],_,1000,envFor18 smC1_ok _ hv hb',rfl,h⟩
 ·exact hc.elim
def cMacX:Con
 | [.agg cs,.str key,x],H,K=>Lf (cs=cells32M makM∧key.length≤100000)∧lendV H 1 x fun x'=>match x' with
  | .lst _ ss n 1=>∃l:List (List UInt8),Lf (ss=cellsSM l∧n=l.length∧l.length≤900∧∀s∈l,s.length≤100000)∧∀o,Lf (o=macSM key l)→K (.ret (.str o)) H
  | _=>False
 | _,_,_=>False
theorem macV_ok:ValidF Tryd.prog gl0 35 fun args H Q=>lendL [0,0,1] H args fun a=>cMac a H Q:=valid_view mac_raw gl0_noY [0,0,1] fun args H Q hc=>by
 unfold cMac at hc
 split at hc
 ·obtain ⟨l,h,hq⟩:=hc
  exact ⟨l,h,fun x hx=>⟨rfl,⟨_,rfl,rfl⟩,hq x hx⟩⟩
 ·exact hc.elim
theorem macX_ok:ValidF Tryd.prog gl0 35 cMacX:=by
 refine ⟨mac_raw.1,fun args H Q hc=>macV_ok.2 args H Q ?_⟩
 unfold cMacX at hc
 split at hc
 ·rename_i cs key x
  obtain ⟨⟨rfl,hk⟩,hc⟩:=hc
  have hz:∀H0:List Blk,(cells32M makM).map (fun x=>frzV 1 H0 8 x)=cells32M makM:=fun H0=>frz_nums _ _
  have h2:lendV _ 1 x fun x'=>cMac [.agg (cells32M makM),.str key,x'] _ _:=lendV_mono (fun x' h=>by
   split at h
   ·obtain ⟨l,⟨h1,h2,h3,h4⟩,h5⟩:=h
    exact ⟨l,⟨rfl,hk,h1,h2,h3,h4⟩,h5⟩
   ·exact h.elim) hc
  exact (id (congrArg (fun a=>lendV _ 1 x fun x'=>cMac [.agg a,.str key,x'] _ _) (hz _)).mpr h2:_)
 ·exact hc.elim
def smC2:SM:=lookS [(34,cMade),(35,cMacX)]
theorem smC2_ok:∀f g,smC2 f=some g→ValidF Tryd.prog gl0 f g:=lookS_ok _ (by simp only[List.mem_cons,List.not_mem_nil,or_false,forall_eq_or_imp,forall_eq];exact ⟨made_ok,macX_ok⟩)
abbrev zer72:List AV:=List.replicate 72 (AV.int .u32 0)
abbrev setK (ks:List Nat):List AV:=setRange zer72 0 (cells32M ks)
def stepM (key label:List UInt8):Nat→List UInt8×List UInt8
 | 0=>([],[])
 | n+1=>(macSM key [(stepM key label n).1,label,[UInt8.ofNat (n+1)]],(stepM key label n).2++macSM key [(stepM key label n).1,label,[UInt8.ofNat (n+1)]])
def inv_15 (key label:List UInt8) (s:S):List (List LInv):=[[{ α:=Nat,pre:=fun i=>Lf (i≤8),st:=fun i=>⟨mkT [(2,s.tm.get 2),(3,s.tm.get 3),(10,s.tm.get 10),(11,s.tm.get 11),(12,.str (stepM key label i).1),(13,.str (stepM key label i).2),(14,.int .i64 ((i+1:Nat):Int))],s.hp⟩,mu:=fun i=>8-i }]]
noncomputable def env_15 (hv:Nat→Option Pa) (hb:Nat→Option Bool) (key label:List UInt8):Env:=e18 smC2 (fun i=>bif Nat.beq i 15001 then some (inv_15 key label) else none) hv hb
noncomputable def goal_15 (hv:Nat→Option Pa) (hb:Nat→Option Bool) (key:List UInt8) (secret salt label:List UInt8) (n:Int) (Q:Out→List Blk→Gh→Prop):Prop:=
 callx (env_15 hv hb key label) (wpx (env_15 hv hb key label) 1000) 15 [.str secret,.str salt,.str label,.int .i64 n] [] {} Q
theorem vc_15 (key:List UInt8) (secret:List UInt8) (salt:List UInt8) (label:List UInt8) (n:Int) (Q:Out→List Blk→Gh→Prop):goal_15 (lookV [(135180,.int .i64),(61475,.int .i64),(61484,.int .i64),(61485,.int .u8),
 (61487,.str),(61492,.str),(61478,.int .i64),(61479,.int .i64),(61495,.str)]) (lookB [(1061444096,true)]) key secret salt label n Q=(exI .i64 (secret.length:Int) fun n_0=>bif decide (n_0>4096) then Q (.ret (.tup [.str [],
 .int .i64 3])) [] {} else exI .i64 (salt.length:Int) fun n_1=>bif decide (n_1>4096) then Q (.ret (.tup [.str [],.int .i64 3])) [] {} else exI .i64 (label.length:Int) fun n_2=>bif decide (n_2>4096) then Q (.ret (.tup [.str [],
 .int .i64 3])) [] {} else bif decide (n<0) then Q (.ret (.tup [.str [],.int .i64 2])) [] {} else bif decide (n>255) then Q (.ret (.tup [.str [],.int .i64 2])) [] {} else ∀ks_3:List Nat,Lf (ks_3=startM++kkM)→ckQ (Nat.beq
 (cells32M ks_3).length 72&&oneL (cells32M ks_3)&&true) (ckQ (Nat.beq (setK ks_3).length 72&&true) (Lf (((setK ks_3).drop 0).take 72=cells32M makM∧salt.length≤100000)∧∃l_4:List (List UInt8),Lf ([AV.str secret]=cellsSM
 l_4∧1=l_4.length∧l_4.length≤900∧∀s_5:List UInt8,Membership.mem l_4 s_5→s_5.length≤100000)∧∀o_5:List UInt8,Lf (o_5=macSM salt l_4)→(∃x_6:Nat,Lf (x_6≤8)∧eqqQ [AV.str secret,.str salt,.str label]∧ckQ
 (oldL 0 (cells32M ks_3)==oldL 0 (cells32M ks_3)) (eqqQ (setK ks_3)∧eqqQ [AV.str secret]∧eqqQ (AV.int .i64 n)∧eqqQ (AV.str o_5)∧AV.str []=AV.str (stepM key label x_6).2∧eqqQ (AV.str label)∧AV.str []=AV.str (stepM key label
 x_6).1∧eqqQ (AV.ptr 1 72 0)∧AV.int .i64 1=AV.int .i64 ((x_6+1:Nat):Int)∧True))∧∀x_6:Nat,Lf (x_6≤8)→exI .i64 ((stepM key label x_6).2.length:Int) fun n_7=>bif decide (n_7<n) then ckQ (Nat.beq (setK ks_3).length
 72&&true) (exI .i64 ((x_6+1:Nat):Int) fun n_8=>exW .u8 n_8 fun n_9=>exS (.str [toB (.int .u8 n_9)]) fun s_10=>Lf (((setK ks_3).drop 0).take 72=cells32M makM∧o_5.length≤100000)∧∃l_11:List (List UInt8),Lf ([AV.str
 (stepM key label x_6).1,.str label,.str s_10]=cellsSM l_11∧3=l_11.length∧l_11.length≤900∧∀s_12:List UInt8,Membership.mem l_11 s_12→s_12.length≤100000)∧∀o_12:List UInt8,Lf (o_12=macSM o_5 l_11)→ckQ (decide
 ((stepM key label x_6).2.length+o_12.length≤9223372036854775807)&&true) (exS (.str ((stepM key label x_6).2++o_12)) fun s_13=>exI .i64 ((x_6+1:Nat):Int) fun n_14=>exW .i64 (n_14+1) fun n_15=>((oldL 0 (cells32M ks_3)
 || oldL 3 (setK ks_3))&&true)=true∧(True∧(0:Nat)=(0:Nat))∧∃y_16:Nat,Lf (y_16≤8)∧8-y_16<8-x_6∧eqqQ [AV.str secret,.str salt,.str label]∧ckQ (oldL 0 (cells32M ks_3)==oldL 0 (cells32M ks_3)) (eqqQ (setK
 ks_3)∧eqqQ [AV.str secret]∧eqqQ (AV.int .i64 n)∧eqqQ (AV.str o_5)∧AV.str s_13=AV.str (stepM key label y_16).2∧eqqQ (AV.str label)∧AV.str o_12=AV.str (stepM key label y_16).1∧eqqQ (AV.ptr 1 72 0)∧AV.int .i64 n_15 =
 AV.int .i64 ((y_16+1:Nat):Int)∧True))) else ckQ (decide (0≤n)&&true&&Nat.ble n.toNat (stepM key label x_6).2.length) (exS (.str (((stepM key label x_6).2.drop 0).take (n.toNat-0))) fun s_8=>Q (.ret (.tup [.str s_8,.int
 .i64 0])) [] {})))):=by kernel_rfl

end Go.Proofs.YtjenieljapmehaaDoor

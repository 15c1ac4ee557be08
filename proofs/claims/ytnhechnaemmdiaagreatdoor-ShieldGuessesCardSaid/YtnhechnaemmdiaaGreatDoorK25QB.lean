/-
  Chapter 25: the start of a draft.
-/
import Derived.Test.YtnhechnaemmdiaaGreatDoorK25QA
set_option linter.unusedSimpArgs false
set_option linter.unusedVariables false
set_option linter.unusedSectionVars false
namespace Go.Proofs.YtnhechnaemmdiaaGreatDoor
open Go.RowKit
set_option maxRecDepth 1000000

def hidM (w:Nat):Nat→List Int
 | 0=>[]
 | i+1=>hidM w i++if w/2^i%2=1 then [1+(i:Int)] else []
def inv_26 (w:Nat) (s:S):List (List LInv):=[[
 { α:=Nat,pre:=fun i=>Lf (i≤16∧hidM w i=[]),st:=fun i=>⟨mkT [(1,s.tm.get 1),(2,s.tm.get 2),(3,.nils),(4,.int .i64 (i:Nat))],s.hp⟩,mu:=fun i=>16-i },
 { α:=Nat,pre:=fun i=>Lf (i≤16∧0<(hidM w i).length),st:=fun i=>⟨mkT [(1,s.tm.get 1),(2,s.tm.get 2),(3,.sl 2 (hidM w i).length 0 (hidM w i).length 1),(4,.int .i64 (i:Nat))],s.hp++[⟨.grow,true,cellsI (hidM w i)⟩]⟩,mu:=fun i=>16-i }]]
theorem noT_I5 (xs:List Int):noTL (cellsI xs)=true:=by
 unfold cellsI
 induction xs with
 | nil=>rfl
 | cons x xs ih=>simp[noTL,noT,ih]
theorem noT_T5:∀l:List Tr,noTL (trM l)=true
 | []=>rfl
 | x::l=>by simp[trM,noTL,noT,noT_T5 l]
theorem noT_sh (a b c:List UInt8) (xs:List Int) (l:List Tr) (nx rs rt:Int) (rk:Nat):noT (shV 0 0 a b c xs l nx rs rt rk)=true:=by
 simp[shV,noT,noTL,noT_I5,noT_T5]
def cNewV:Con:=fun args H Q=>lendL [0,1] H args fun a=>cNew a H Q
theorem newV_ok:ValidF Tryz.prog gl0 16 cNewV:=valid_view rnew_ok gl0_noY [0,1] fun args H Q h=>by
 unfold cNew at h ⊢
 split at h
 ·obtain ⟨xs,hx,hq⟩:=h
  exact ⟨xs,hx,fun a' b' c' xs' rt e he=>⟨rfl,⟨_,rfl,by simp[noT,noTL,noT_sh]⟩,hq a' b' c' xs' rt e he⟩⟩
 ·exact h.elim
def smSt:SM:=lookS [(79,cSized),(16,cNewV)]
theorem smSt_ok:∀f g,smSt f=some g→ValidF Tryz.prog gl0 f g:=lookS_ok _ (by simp only[List.mem_cons,List.not_mem_nil,or_false,forall_eq_or_imp,forall_eq];exact ⟨sized_ok,newV_ok⟩)
noncomputable def env_26 (hv:Nat→Option Pa) (hb:Nat→Option Bool) (w:Nat):Env := { e04 smSt (fun i=>bif Nat.beq i 26000 then some (inv_26 w) else none) hv hb with hz:=fun k=>Nat.beq k 106516 }
noncomputable def goal_26 (hv:Nat→Option Pa) (hb:Nat→Option Bool) (key:List UInt8) (w:Nat) (fi:Int) (st:List AV) (n:Nat) (ss:Int) (Q:Out→List Blk→Gh→Prop):Prop:=
 callx (env_26 hv hb w) (wpx (env_26 hv hb w) 1000) 26 [.agg [.str key,.int .u16 (w:Nat),.int .u16 fi,.lst 0 st n 1,.int .u32 ss]] [] {} Q
def vc_26_1 (key:List UInt8) (w:Nat) (fi:Int) (st:List AV) (n:Nat) (ss:Int):Prop:=(
((((AV.str key)::((AV.int .u16 (Nat.cast w:Int))::((AV.int .u16 fi)::((AV.lst (0:Nat) st n (1:Nat))::((AV.int .u32 ss)::[])))))=((AV.str key)::((AV.int .u16 (Nat.cast w:Int))::((AV.int .u16 fi)::((AV.lst (0:Nat) st n (1:Nat))::((AV.int .u32 ss)::[])))))) ∧
 ((((AV.str [])::((AV.str [])::((AV.str [])::(AV.nils::(AV.nils::((AV.int .i64 (0:Int))::((AV.int .i64 (0:Int))::((AV.int .i64 (0:Int))::((AV.int .u64 (0:Int))::[])))))))))=((AV.str [])::((AV.str [])::((AV.str [])::(AV.nils::(AV.nils::((AV.int .i64 (0:Int))::((AV.int .i64 (0:Int))::((AV.int .i64 (0:Int))::((AV.int .u64 (0:Int))::[])))))))))) ∧
 False)))
theorem vc_26 (key:List UInt8) (w:Nat) (fi:Int) (st:List AV) (n:Nat) (ss:Int) (Q:Out→List Blk→Gh→Prop):goal_26 (lookV [(106503,.int .i64),(106508,.int .u16),(106509,.int .i64),(106510,.int .u16),(106511,.int
 .u16),(106514,.int .i64),(106515,.int .i64),(106505,.int .i64),(106506,.int .i64),(106524,.str),(106528,.str)]) (lookB []) key w fi st n ss Q=(((∃x_0:Nat,Lf (x_0≤16∧hidM w x_0=[])∧eqqQ [AV.str key,.int .u16 (w :
 Int),.int .u16 fi,.lst 0 st n 1,.int .u32 ss]∧eqqQ [AV.str [],.str [],.str [],.nils,.nils,.int .i64 0,.int .i64 0,.int .i64 0,.int .u64 0]∧eqqQ (AV.ptr 0 5 0)∧AV.nils=AV.nils∧eqqQ (AV.ptr 1 9 0)∧AV.int .i64 0 =
 AV.int .i64 (x_0:Int)∧True)∨∃x_0:Nat,Lf (x_0≤16∧0<(hidM w x_0).length)∧vc_26_1 key w fi st n ss)∧(∀x_0:Nat,Lf (x_0≤16∧hidM w x_0=[])→exI .i64 (x_0:Int) fun n_1=>bif decide (n_1<16) then exI .u16 (w :
 Int) fun n_2=>exI .i64 (x_0:Int) fun n_3=>ckQ (decide (0≤n_3)&&true) (exI .u16 (Int.fdiv n_2 ((2:Int)^Min.min n_3.toNat 16)) fun n_4=>exW .u16 (((n_4%65536).toNat &&& 1:Nat):Int) fun n_5=>bif n_5==1 then exI .i64
 (x_0:Int) fun n_6=>exW .i64 (1+n_6) fun n_7=>exI .i64 (x_0:Int) fun n_8=>exW .i64 (n_8+1) fun n_9=>(True∧(0:Nat)=(0:Nat))∧((∃y_10:Nat,Lf (y_10≤16∧hidM w y_10=[])∧16-y_10<16-x_0∧vc_26_1 key w fi
 st n ss)∨∃y_10:Nat,Lf (y_10≤16∧0<(hidM w y_10).length)∧16-y_10<16-x_0∧eqqQ [AV.str key,.int .u16 (w:Int),.int .u16 fi,.lst 0 st n 1,.int .u32 ss]∧eqqQ [AV.str [],.str [],.str [],.nils,.nils,.int .i64 0,
 .int .i64 0,.int .i64 0,.int .u64 0]∧[AV.int .i64 n_7]=cellsI (hidM w y_10)∧eqqQ (AV.ptr 0 5 0)∧AV.sl 2 1 0 1 1=AV.sl 2 (hidM w y_10).length 0 (hidM w y_10).length 1∧eqqQ (AV.ptr 1 9 0)∧AV.int .i64 n_9=AV.int .i64 (y_10 :
 Int)∧True) else exI .i64 (x_0:Int) fun n_6=>exW .i64 (n_6+1) fun n_7=>(True∧(0:Nat)=(0:Nat))∧((∃y_8:Nat,Lf (y_8≤16∧hidM w y_8=[])∧16-y_8<16-x_0∧eqqQ [AV.str key,.int .u16 (w:Int),.int .u16 fi,
 .lst 0 st n 1,.int .u32 ss]∧eqqQ [AV.str [],.str [],.str [],.nils,.nils,.int .i64 0,.int .i64 0,.int .i64 0,.int .u64 0]∧eqqQ (AV.ptr 0 5 0)∧AV.nils=AV.nils∧eqqQ (AV.ptr 1 9 0)∧AV.int .i64 n_7=AV.int .i64 (y_8:Int)
 ∧ True)∨∃y_8:Nat,Lf (y_8≤16∧0<(hidM w y_8).length)∧16-y_8<16-x_0∧vc_26_1 key w fi st n ss)) else ckQ (decide (key.length+1≤9223372036854775807)&&true) (exS (.str (key++[UInt8.ofNat 115])) fun s_2=>ckQ
 (decide (key.length+1≤9223372036854775807)&&true) (exS (.str (key++[UInt8.ofNat 109])) fun s_3=>Lf ((0:Int)≤(32:Int)∧(32:Int)≤(100000:Int)∧key.length≤9223372036854775807)∧∀t_4:List UInt8,Lf (t_4=sizedM
 key (Int.toNat 32))→ckQ (eqAVL [.str key] [.str key]&&true) (ckQ (eqAVL [.str key] [.str key]&&true) (Lf ((0:Int)≤(12:Int)∧(12:Int)≤(100000:Int)∧s_2.length≤9223372036854775807)∧∀t_5:List UInt8,Lf (t_5=sizedM
 s_2 (Int.toNat 12))→ckQ (eqAVL [.str key] [.str key]&&true) (Lf ((0:Int)≤(32:Int)∧(32:Int)≤(100000:Int)∧s_3.length≤9223372036854775807)∧∀t_6:List UInt8,Lf (t_6=sizedM s_3 (Int.toNat 32))→∃xs_7:List Int,
 Lf (([]:List AV)=cellsI xs_7∧0=xs_7.length∧xs_7.length≤9223372036854775807)∧∀a'_8 b'_9 c'_10:List UInt8,∀xs'_11:List Int,∀rt_12 e_13:Int,Lf (newM t_4 t_5 t_6 xs_7=Prod.mk a'_8 (Prod.mk b'_9 (Prod.mk c'_10
 (Prod.mk xs'_11 (Prod.mk rt_12 e_13)))))→Q (.ret (.agg [.str a'_8,.str b'_9,.str c'_10,.lst 0 (cellsI xs'_11) xs'_11.length 1,.lst 0 (trM []) 0 3,.int .i64 0,.int .i64 0,.int .i64 rt_12,.int .u64 0])) [] {}))))))∧∀x_0:Nat,
 Lf (x_0≤16∧0<(hidM w x_0).length)→exI .i64 (x_0:Int) fun n_1=>bif decide (n_1<16) then exI .u16 (w:Int) fun n_2=>exI .i64 (x_0:Int) fun n_3=>ckQ (decide (0≤n_3)&&true) (exI .u16 (Int.fdiv n_2 ((2:Int)^Min.min
 n_3.toNat 16)) fun n_4=>exW .u16 (((n_4%65536).toNat &&& 1:Nat):Int) fun n_5=>bif n_5==1 then exI .i64 (x_0:Int) fun n_6=>exW .i64 (1+n_6) fun n_7=>ckQ (Nat.beq (cellsI (hidM w x_0)).length (hidM w x_0).length&&true
 && Nat.beq (0+(hidM w x_0).length*1) (hidM w x_0).length&&Nat.ble ((hidM w x_0).length+1) 1099511627776&&Nat.ble (((hidM w x_0).length+1)*8) 1099511627776) (exI .i64 (x_0:Int) fun n_8=>exW .i64 (n_8+1) fun n_9=>(True
 ∧ (0:Nat)=(0:Nat))∧((∃y_10:Nat,Lf (y_10≤16∧hidM w y_10=[])∧16-y_10<16-x_0∧vc_26_1 key w fi st n ss)∨∃y_10:Nat,Lf (y_10≤16∧0<(hidM w y_10).length)∧16-y_10<16-x_0∧eqqQ [AV.str key,.int .u16
 (w:Int),.int .u16 fi,.lst 0 st n 1,.int .u32 ss]∧eqqQ [AV.str [],.str [],.str [],.nils,.nils,.int .i64 0,.int .i64 0,.int .i64 0,.int .u64 0]∧cellsI (hidM w x_0)++[AV.int .i64 n_7]=cellsI (hidM w y_10)∧eqqQ (AV.ptr 0
 5 0)∧AV.sl 2 ((hidM w x_0).length+1) 0 ((hidM w x_0).length+1) 1=AV.sl 2 (hidM w y_10).length 0 (hidM w y_10).length 1∧eqqQ (AV.ptr 1 9 0)∧AV.int .i64 n_9=AV.int .i64 (y_10:Int)∧True)) else exI .i64 (x_0:Int) fun n_6=>
 exW .i64 (n_6+1) fun n_7=>(True∧(0:Nat)=(0:Nat))∧((∃y_8:Nat,Lf (y_8≤16∧hidM w y_8=[])∧16-y_8<16-x_0∧vc_26_1 key w fi st n ss)∨∃y_8:Nat,Lf (y_8≤16∧0<(hidM w y_8).length)∧16-y_8<16-x_0 ∧
 eqqQ [AV.str key,.int .u16 (w:Int),.int .u16 fi,.lst 0 st n 1,.int .u32 ss]∧eqqQ [AV.str [],.str [],.str [],.nils,.nils,.int .i64 0,.int .i64 0,.int .i64 0,.int .u64 0]∧cellsI (hidM w x_0)=cellsI (hidM w y_8)∧eqqQ
 (AV.ptr 0 5 0)∧AV.sl 2 (hidM w x_0).length 0 (hidM w x_0).length 1=AV.sl 2 (hidM w y_8).length 0 (hidM w y_8).length 1∧eqqQ (AV.ptr 1 9 0)∧AV.int .i64 n_7=AV.int .i64 (y_8:Int)∧True)) else ckQ (decide (key.length+1 ≤
 9223372036854775807)&&true) (exS (.str (key++[UInt8.ofNat 115])) fun s_2=>ckQ (decide (key.length+1≤9223372036854775807)&&true) (exS (.str (key++[UInt8.ofNat 109])) fun s_3=>Lf ((0:Int)≤(32:Int)∧(32:Int)≤(100000
 : Int)∧key.length≤9223372036854775807)∧∀t_4:List UInt8,Lf (t_4=sizedM key (Int.toNat 32))→ckQ (eqAVL [.str key] [.str key]&&true) (ckQ (eqAVL [.str key] [.str key]&&true) (Lf ((0:Int)≤(12:Int)∧(12:Int)≤(100000
 : Int)∧s_2.length≤9223372036854775807)∧∀t_5:List UInt8,Lf (t_5=sizedM s_2 (Int.toNat 12))→ckQ (eqAVL [.str key] [.str key]&&true) (Lf ((0:Int)≤(32:Int)∧(32:Int)≤(100000:Int)∧s_3.length≤9223372036854775807)
 ∧ ∀t_6:List UInt8,Lf (t_6=sizedM s_3 (Int.toNat 32))→ckQ (Nat.beq (cellsI (hidM w x_0)).length (hidM w x_0).length&&Nat.ble (0+(hidM w x_0).length*1) (hidM w x_0).length&&true) (∃xs_7:List Int,Lf (List.map (fun (x_8 :
 AV)=>frzV 1 [Blk.mk BK.exact true [.str key,.int .u16 (w:Int),.int .u16 fi,.lst 0 st n 1,.int .u32 ss],Blk.mk BK.exact true [.str [],.str [],.str [],.nils,.nils,.int .i64 0,.int .i64 0,.int .i64 0,.int .u64 0],Blk.mk
 BK.grow true (cellsI (hidM w x_0)),Blk.mk BK.exact true [.str [],.str [],.str [],.nils,.nils,.int .i64 0,.int .i64 0,.int .i64 0,.int .u64 0]] 8 x_8) (((cellsI (hidM w x_0)).drop 0).take ((hidM w x_0).length*1))=cellsI xs_7 ∧
 (hidM w x_0).length=xs_7.length∧xs_7.length≤9223372036854775807)∧∀a'_8 b'_9 c'_10:List UInt8,∀xs'_11:List Int,∀rt_12 e_13:Int,Lf (newM t_4 t_5 t_6 xs_7=Prod.mk a'_8 (Prod.mk b'_9 (Prod.mk c'_10 (Prod.mk xs'_11
 (Prod.mk rt_12 e_13)))))→Q (.ret (.agg [.str a'_8,.str b'_9,.str c'_10,.lst 0 (cellsI xs'_11) xs'_11.length 1,.lst 0 (trM []) 0 3,.int .i64 0,.int .i64 0,.int .i64 rt_12,.int .u64 0])) [] {}))))))):=by kernel_rfl

theorem hid_len (w:Nat):∀i,(hidM w i).length≤i
 | 0=>by simp[hidM]
 | i+1=>by
  have h:=hid_len w i
  rw[hidM,List.length_append]
  split<;>simp<;>omega
theorem hid_bd (w:Nat):∀i,∀x∈hidM w i,1≤x∧x≤i
 | 0,x,h=>by simp[hidM] at h
 | i+1,x,h=>by
  rw[hidM,List.mem_append] at h
  rcases h with h | h
  ·have:=hid_bd w i x h;omega
  ·split at h
   ·rw[List.mem_singleton] at h;omega
   ·simp at h
theorem inc_snoc (x:Int) (l:List Int):∀i,i≤l.length→incM (l++[x]) i=incM l i
 | 0,_=>rfl
 | i+1,h=>by
  have e1:(l++[x]).getD i 0=l.getD i 0:=by rw[List.getD_eq_getElem?_getD,List.getD_eq_getElem?_getD,List.getElem?_append_left (by omega)]
  have e2:(l++[x]).getD (i-1) 0=l.getD (i-1) 0:=by rw[List.getD_eq_getElem?_getD,List.getD_eq_getElem?_getD,List.getElem?_append_left (by omega)]
  rw[incM,incM,inc_snoc x l i (by omega),e1,e2]
theorem hid_inc (w:Nat):∀i,i≤255→incM (hidM w i) (hidM w i).length=true
 | 0,_=>rfl
 | i+1,hi=>by
  have h:=hid_inc w i (by omega)
  rw[hidM]
  split
  ·rw[List.length_append,List.length_singleton,incM,inc_snoc _ _ _ (Nat.le_refl _),h,Bool.true_and]
   have e1:(hidM w i++[1+(i:Int)]).getD (hidM w i).length 0=1+(i:Int):=by rw[List.getD_eq_getElem?_getD,List.getElem?_append_right (Nat.le_refl _),Nat.sub_self];rfl
   rw[e1,decide_eq_true (by omega),decide_eq_true (by omega),Bool.true_and,Bool.true_and,Bool.or_eq_true,nbeq,decide_eq_true_eq]
   by_cases h0:(hidM w i).length=0
   ·exact .inl h0
   ·right
    have hlt:(hidM w i).length-1<(hidM w i).length:=by omega
    have e2:(hidM w i++[1+(i:Int)]).getD ((hidM w i).length-1) 0=(hidM w i)[(hidM w i).length-1]:=by
     rw[List.getD_eq_getElem?_getD,List.getElem?_append_left hlt,List.getElem?_eq_getElem hlt];rfl
    have:=hid_bd w i _ (List.getElem_mem hlt)
    rw[e2];omega
  ·rw[List.append_nil];exact h
theorem start_names (a b c:List UInt8) (w:Nat):namesM (sizedM a 32) (sizedM b 12) (sizedM c 32) (hidM w 16)=true:=by
 have:=hid_len w 16
 rw[namesM,hid_inc w 16 (by omega),lensM,sized_len,sized_len,sized_len,Bool.and_true]
 simp[nbeq,Nat.ble_eq];omega
theorem cI_snoc (l:List Int) (x:Int):cellsI l++[AV.int .i64 x]=cellsI (l++[x]):=by
 rw[cellsI,cellsI,List.map_append];rfl
theorem start_run (key:List UInt8) (w:Nat) (hw:w<65536) (hk:key.length≤9223372036854775000) (fi:Int) (st:List AV) (n:Nat) (ss:Int) (Q:Out→List Blk→Gh→Prop)
  (hq:Q (.ret (shV 0 0 (sizedM key 32) (sizedM (key++[115]) 12) (sizedM (key++[109]) 32) (hidM w 16) [] 0 0 (-1) 0)) [] {}):∃hv hb,goal_26 hv hb key w fi st n ss Q:=by
 obtain ⟨hv,hb',e⟩:∃hv hb,goal_26 hv hb key w fi st n ss Q=_:=⟨_,_,vc_26 key w fi st n ss Q⟩
 refine ⟨hv,hb',e.mpr ?_⟩
 clear e
 have hnew:=start_names key (key++[115]) (key++[109]) w
 have bit:∀ {i:Nat} {P:Int→Prop},i<16→P ((w/2^i%2:Nat):Int)→∃n4:Int,AV.int .u16 (Int.fdiv (w:Int) ((2:Int)^(min (Int.toNat (i:Int)) 16)))=AV.int .u16 n4∧∃n5:Int,AV.int .u16 (IntKind.wrap .u16 ((Int.toNat (n4%65536) &&& 1:Nat):Int))=AV.int .u16 n5∧P n5:=fun {i} {P} hi h=>by
  rw[show min (Int.toNat (i:Int)) 16=i by omega,shrN]
  have hd:w/2^i≤w:=Nat.div_le_self _ _
  generalize w/2^i=q at hd h ⊢
  refine ⟨_,rfl,((q%2:Nat):Int), ?_,h⟩
  rw[show Int.toNat ((q:Int)%65536)=q by omega,Nat.and_one_is_mod,show IntKind.wrap .u16 ((q%2:Nat):Int)=((q%2:Nat):Int)%65536 from rfl,show ((q%2:Nat):Int)%65536=((q%2:Nat):Int) by omega]
 have succ1:∀ {i:Nat},w/2^i%2=1→hidM w (i+1)=hidM w i++[1+(i:Int)]:=fun h=>by rw[hidM,if_pos h]
 have succ0:∀ {i:Nat},¬ w/2^i%2=1→hidM w (i+1)=hidM w i:=fun h=>by rw[hidM,if_neg h,List.append_nil]
 have ckk:∀ {s:List UInt8} {A:Prop},A→bif eqAVL [AV.str s] [AV.str s]&&true then A else False:=fun h=>ckI (by simp[eqAVL,eqAV,eqB_rf5]) h
 refine ⟨.inl ⟨0,⟨by omega,rfl⟩,rfl,rfl,rfl,rfl,rfl,rfl,trivial⟩, ?_, ?_⟩
 ·rintro i ⟨g1,g2⟩
  refine ⟨_,rfl,splitD (fun h => ?_) (fun h => ?_)⟩
  ·refine ⟨_,rfl,_,rfl,ckI (by simp) (bit (by omega) (splitE (fun hb => ?_) (fun hb => ?_)))⟩
   ·have hh:=succ1 (i:=i) (by omega)
    rw[g2] at hh
    exact ⟨_,rfl,wrapI (by omega) (by omega) ⟨_,rfl,wrapI (by omega) (by omega) ⟨⟨trivial,rfl⟩,.inr ⟨i+1,⟨by omega,by rw[hh];simp⟩,by omega,rfl,rfl,by rw[hh];rfl,rfl,by rw[hh];rfl,rfl,rfl,trivial⟩⟩⟩⟩
   ·have hh:=succ0 (i:=i) (by omega)
    exact ⟨_,rfl,wrapI (by omega) (by omega) ⟨⟨trivial,rfl⟩,.inl ⟨i+1,⟨by omega,by rw[hh,g2]⟩,by omega,rfl,rfl,rfl,rfl,rfl,rfl,trivial⟩⟩⟩
  ·obtain rfl:i=16:=by omega
   generalize hidM w 16=X at *
   refine ckI (by simp;omega) ⟨_,rfl,ckI (by simp;omega) ⟨_,rfl,⟨by omega,by omega,by omega⟩, ?_⟩⟩
   rintro t4 ⟨rfl⟩
   refine ckk (ckk ⟨⟨by omega,by omega,by simp;omega⟩, ?_⟩)
   rintro t5 ⟨rfl⟩
   refine ckk ⟨⟨by omega,by omega,by simp;omega⟩, ?_⟩
   rintro t6 ⟨rfl⟩
   refine ⟨[],⟨rfl,rfl,by simp⟩, ?_⟩
   rintro a b c xs rt e ⟨he⟩
   subst g2
   rw[newM,if_pos (by exact hnew)] at he
   simp only[Prod.mk.injEq] at he
   obtain ⟨rfl,rfl,rfl,rfl,rfl,rfl⟩:=he
   exact hq
 ·rintro i ⟨g1,g2⟩
  have hcl:=cellsI_len (hidM w i)
  have hl:=hid_len w i
  refine ⟨_,rfl,splitD (fun h => ?_) (fun h => ?_)⟩
  ·refine ⟨_,rfl,_,rfl,ckI (by simp) (bit (by omega) (splitE (fun hb => ?_) (fun hb => ?_)))⟩
   ·have hh:=succ1 (i:=i) (by omega)
    exact ⟨_,rfl,wrapI (by omega) (by omega) (ckI (by rw[hcl];simp[nbeq];omega) ⟨_,rfl,wrapI (by omega) (by omega) ⟨⟨trivial,rfl⟩,.inr ⟨i+1,⟨by omega,by rw[hh];simp⟩,by omega,rfl,rfl,by rw[hh,cI_snoc],rfl,by rw[hh,List.length_append];rfl,rfl,rfl,trivial⟩⟩⟩)⟩
   ·have hh:=succ0 (i:=i) (by omega)
    exact ⟨_,rfl,wrapI (by omega) (by omega) ⟨⟨trivial,rfl⟩,.inr ⟨i+1,⟨by omega,by rw[hh];exact g2⟩,by omega,rfl,rfl,by rw[hh],rfl,by rw[hh],rfl,rfl,trivial⟩⟩⟩
  ·obtain rfl:i=16:=by omega
   generalize hidM w 16=X at *
   refine ckI (by simp;omega) ⟨_,rfl,ckI (by simp;omega) ⟨_,rfl,⟨by omega,by omega,by omega⟩, ?_⟩⟩
   rintro t4 ⟨rfl⟩
   refine ckk (ckk ⟨⟨by omega,by omega,by simp;omega⟩, ?_⟩)
   rintro t5 ⟨rfl⟩
   refine ckk ⟨⟨by omega,by omega,by simp;omega⟩, ?_⟩
   rintro t6 ⟨rfl⟩
   refine ckI (by rw[hcl];simp[nbeq]) ⟨X,⟨?_,rfl,by omega⟩, ?_⟩
   ·rw[List.drop_zero,List.take_of_length_le (by rw[hcl];omega)]
    exact map_pl5 1 _ 7 _ (pl_I5 _)
   rintro a b c xs rt e ⟨he⟩
   rw[newM,if_pos (by exact hnew)] at he
   simp only[Prod.mk.injEq] at he
   obtain ⟨rfl,rfl,rfl,rfl,rfl,rfl⟩:=he
   exact hq
def c16M (ks:List Int):List AV:=ks.map (AV.int .i16)
theorem fl_16 (ks:List Int):oldL 0 (c16M ks)=true∧noYL (c16M ks)=true:=by
 unfold c16M
 induction ks with
 | nil=>exact ⟨rfl,rfl⟩
 | cons x xs ih=>simp[oldL,noYL,old,noY,ih.1,ih.2]
def cStart:Con
 | [.agg [.str key,.int .u16 u,.int .u16 _,.lst 0 l n 1,.int .u32 _]],H,K=>∃ (w:Nat) (ks:List Int),Lf (u=(w:Int)∧l=c16M ks∧n=ks.length∧w<65536∧key.length≤140737488351232) ∧
   ∀ (a b c:List UInt8) (xs:List Int),Lf (a=sizedM key 32∧b=sizedM (key++[115]) 12∧c=sizedM (key++[109]) 32∧xs=hidM w 16)→K (.ret (shV 0 0 a b c xs [] 0 0 (-1) 0)) H
 | _,_,_=>False
theorem start_ok:ValidF Tryz.prog gl0 26 cStart:=by
 refine valid_flat (enters_of (by kernel_rfl)) gl0_noY fun args H Q hc => ?_
 unfold cStart at hc
 split at hc
 ·rename_i key u fi l n ss
  obtain ⟨w,ks,⟨rfl,rfl,rfl,h1,h2⟩,hq⟩:=hc
  obtain ⟨hv,hb',h⟩:=start_run key w h1 (by omega) fi (c16M ks) ks.length ss (Q:=fun o H' _=>H'=[]∧(∃v,o=.ret v∧old 0 v=true∧noY v=true)∧Q o H)
   ⟨rfl,⟨_,rfl,by simp[shV,old,oldL,flat_cI0,trM],by simp[shV,noY,noYL,(flat_cI _).2,trM]⟩,hq _ _ _ _ ⟨rfl,rfl,rfl,rfl⟩⟩
  exact ⟨by simp[oldL,old,(fl_16 ks).1],by simp[noYL,noY,(fl_16 ks).2],_,1000,⟨mixed04,names04,tabA_ok,smSt_ok⟩,rfl,h⟩
 ·exact hc.elim
end Go.Proofs.YtnhechnaemmdiaaGreatDoor

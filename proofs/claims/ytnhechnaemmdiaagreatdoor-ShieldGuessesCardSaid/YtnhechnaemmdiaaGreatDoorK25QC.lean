/-
  Chapter 25: the reference's windows (what they give, within bounds).
-/
import Derived.Test.YtnhechnaemmdiaaGreatDoorK25QB
set_option linter.unusedSimpArgs false
set_option linter.unusedVariables false
set_option linter.unusedSectionVars false
namespace Go.Proofs.YtnhechnaemmdiaaGreatDoor
open Go.RowKit
set_option maxRecDepth 1000000

def inv_72 (l:List Tr) (s:S):List (List LInv):=[[
 { α:=Nat,pre:=fun i=>Lf (i≤l.length),st:=fun i=>⟨mkT [(1,s.tm.get 1),(2,s.tm.get 2),(5,s.tm.get 5),(6,.int .i64 (i:Nat))],s.hp⟩,mu:=fun i=>l.length-i }]]
noncomputable def env_72 (hv:Nat→Option Pa) (hb:Nat→Option Bool) (l:List Tr):Env:=e04 sm0 (fun i=>bif Nat.beq i 72000 then some (inv_72 l) else none) hv hb
noncomputable def goal_72 (hv:Nat→Option Pa) (hb:Nat→Option Bool) (t1 t2:Nat) (a b c:List UInt8) (xs:List Int) (l:List Tr) (nx rs rt:Int) (rk:Nat) (ss:Int) (Q:Out→List Blk→Gh→Prop):Prop:=
 callx (env_72 hv hb l) (wpx (env_72 hv hb l) 1000) 72 [shV t1 t2 a b c xs l nx rs rt rk,.int .i64 ss] [] {} Q
theorem vc_72 (t1:Nat) (t2:Nat) (a:List UInt8) (b:List UInt8) (c:List UInt8) (xs:List Int) (l:List Tr) (nx:Int) (rs:Int) (rt:Int) (rk:Nat) (ss:Int) (Q:Out→List Blk→Gh→Prop):goal_72 (lookV [(294919,.int
 .i64),(294922,.int .i64),(294928,.int .i64),(294931,.int .i64),(294934,.int .i64),(294937,.int .i64),(294939,.agg [.int .i64,.int .i64,.int .u64]),(294924,.int .i64),(294925,.int .i64),(294942,.int .i64)]) (lookB []) t1
 t2 a b c xs l nx rs rt rk ss Q=((∃x_0:Nat,Lf (x_0≤l.length)∧eqqQ [AV.str a,.str b,.str c,.lst t1 (cellsI xs) xs.length 1,.lst t2 (trM l) l.length 3,.int .i64 nx,.int .i64 rs,.int .i64 rt,.int .u64 (rk:Int)]∧eqqQ
 [AV.int .i64 0,.int .i64 0,.int .u64 0]∧eqqQ (AV.int .i64 ss)∧eqqQ (AV.ptr 1 3 0)∧eqqQ (AV.ptr 0 9 0)∧AV.int .i64 0=AV.int .i64 (x_0:Int)∧True)∧∀x_0:Nat,Lf (x_0≤l.length)→exI .i64 (x_0:Int) fun n_1=>exI .i64
 (l.length:Int) fun n_2=>bif decide (n_1<n_2) then exI .i64 (x_0:Int) fun n_3=>ckQ (decide (0≤n_3)&&Nat.blt n_3.toNat l.length&&true) (ckQ (Nat.blt (n_3.toNat*3+0) (trM l).length) (exV .i64 ((trM l).getD (n_3.toNat*3 +
 0) AV.undef) fun n_4=>bif n_4==ss then exI .i64 (x_0:Int) fun n_5=>exI .i64 (x_0:Int) fun n_6=>ckQ (decide (0≤n_6)&&Nat.blt n_6.toNat l.length&&true) (ckQ (Nat.ble (n_6.toNat*3+3) (trM l).length) (∃n_7 n_8 n_9,
 AV.agg (((trM l).drop (n_6.toNat*3)).take 3)=AV.agg [.int .i64 n_7,.int .i64 n_8,.int .u64 n_9]∧Q (.ret (.tup [.int .i64 n_5,.agg [.int .i64 n_7,.int .i64 n_8,.int .u64 n_9]])) [] {})) else exI .i64 (x_0:Int) fun n_5=>exW
 .i64 (n_5+1) fun n_6=>(True∧(0:Nat)=(0:Nat))∧∃y_7:Nat,Lf (y_7≤l.length)∧l.length-y_7<l.length-x_0∧eqqQ [AV.str a,.str b,.str c,.lst t1 (cellsI xs) xs.length 1,.lst t2 (trM l) l.length 3,.int .i64 nx,.int
 .i64 rs,.int .i64 rt,.int .u64 (rk:Int)]∧eqqQ [AV.int .i64 0,.int .i64 0,.int .u64 0]∧eqqQ (AV.int .i64 ss)∧eqqQ (AV.ptr 1 3 0)∧eqqQ (AV.ptr 0 9 0)∧AV.int .i64 n_6=AV.int .i64 (y_7:Int)∧True)) else exI .i64 (l.length
 : Int) fun n_3=>Q (.ret (.tup [.int .i64 n_3,.agg [.int .i64 ss,.int .i64 (-1),.int .u64 0]])) [] {}):=by kernel_rfl

noncomputable def goal_86 (hv:Nat→Option Pa) (hb:Nat→Option Bool) (c t:Int) (s:Nat) (i:Int) (Q:Out→List Blk→Gh→Prop):Prop:=
 callx (e04 sm0 (fun _=>none) hv hb) (wpx (e04 sm0 (fun _=>none) hv hb) 1000) 86 [.agg [.int .i64 c,.int .i64 t,.int .u64 (s:Nat)],.int .i64 i] [] {} Q
theorem vc_86 (c:Int) (t:Int) (s:Nat) (i:Int) (Q:Out→List Blk→Gh→Prop):goal_86 (lookV [(352273,.int .i64),(352277,.int .u64),(352281,.int .i64),(352282,.int .u64),(352283,.int .u64)]) (lookB []) c t s i Q=(
(bif (t==(- (1:Int))) then (Q (Out.ret (AV.bool false)) [] (Gh.mk (0:Nat) (0:Nat) []))
else (bif (decide (i>t)) then (Q (Out.ret (AV.bool false)) [] (Gh.mk (0:Nat) (0:Nat) []))
else (∃n_0:Int,(((AV.int .i64 (IntKind.wrap .i64 (t-(63:Int))))=(AV.int .i64 n_0)) ∧
 (bif (decide (i<n_0)) then (Q (Out.ret (AV.bool true)) [] (Gh.mk (0:Nat) (0:Nat) []))
else (∃n_1:Int,(((AV.int .u64 (Nat.cast s:Int))=(AV.int .u64 n_1)) ∧
 (∃n_2:Int,(((AV.int .i64 (IntKind.wrap .i64 (t-i)))=(AV.int .i64 n_2)) ∧
 (bif ((decide ((0:Int)≤n_2))&&true) then (∃n_3:Int,(((AV.int .u64 (Int.fdiv n_1 ((2:Int)^(Min.min (Int.toNat n_2) (64:Nat)))))=(AV.int .u64 n_3)) ∧
 (∃n_4:Int,(((AV.int .u64 (IntKind.wrap .u64 (Nat.cast ((Int.toNat (n_3%(18446744073709551616:Int))) &&& (1:Nat)):Int)))=(AV.int .u64 n_4)) ∧
 (bif (n_4==(1:Int)) then (Q (Out.ret (AV.bool true)) [] (Gh.mk (0:Nat) (0:Nat) []))
else (Q (Out.ret (AV.bool false)) [] (Gh.mk (0:Nat) (0:Nat) [])))))))
else False))))))))))):=by kernel_rfl

noncomputable def goal_78 (hv:Nat→Option Pa) (hb:Nat→Option Bool) (c t:Int) (s:Nat) (i:Int) (Q:Out→List Blk→Gh→Prop):Prop:=
 callx (e04 sm0 (fun _=>none) hv hb) (wpx (e04 sm0 (fun _=>none) hv hb) 1000) 78 [.agg [.int .i64 c,.int .i64 t,.int .u64 (s:Nat)],.int .i64 i] [] {} Q
theorem vc_78 (c:Int) (t:Int) (s:Nat) (i:Int) (Q:Out→List Blk→Gh→Prop):goal_78 (lookV [(319498,.int .u64),(319502,.int .i64),(319503,.int .u64),(319504,.int .u64),(319514,.int .i64),(319519,.int .u64),(319523,
 .int .i64),(319524,.int .u64),(319530,.int .u64)]) (lookB []) c t s i Q=(bif decide (i≤t) then exI .u64 (s:Int) fun n_0=>exW .i64 (t-i) fun n_1=>ckQ (decide (0≤n_1)&&true) (exW .u64 (1*(2:Int)^Min.min n_1.toNat
 64) fun n_2=>exW .u64 (((n_0%18446744073709551616).toNat ||| (n_2%18446744073709551616).toNat:Nat):Int) fun n_3=>Q (.ret (.agg [.int .i64 c,.int .i64 t,.int .u64 n_3])) [] {}) else bif t == -1 then exI .u64 1 fun n_0=>Q
 (.ret (.agg [.int .i64 c,.int .i64 i,.int .u64 n_0])) [] {} else exW .i64 (i-t) fun n_0=>bif decide (n_0>63) then exI .u64 1 fun n_1=>Q (.ret (.agg [.int .i64 c,.int .i64 i,.int .u64 n_1])) [] {} else exI .u64 (s:Int) fun n_1
 => exW .i64 (i-t) fun n_2=>ckQ (decide (0≤n_2)&&true) (exW .u64 (n_1*(2:Int)^Min.min n_2.toNat 64) fun n_3=>exW .u64 (((n_3%18446744073709551616).toNat ||| 1:Nat):Int) fun n_4=>Q (.ret (.agg [.int .i64 c,.int .i64
 i,.int .u64 n_4])) [] {})):=by kernel_rfl

noncomputable def goal_77 (hv:Nat→Option Pa) (hb:Nat→Option Bool) (t1 t2:Nat) (a b c:List UInt8) (xs:List Int) (l:List Tr) (nx rs rt:Int) (rk:Nat) (i:Int) (tc tt:Int) (ts:Nat) (Q:Out→List Blk→Gh→Prop):Prop:=
 callx (e04 sm0 (fun _=>none) hv hb) (wpx (e04 sm0 (fun _=>none) hv hb) 1000) 77 [shV t1 t2 a b c xs l nx rs rt rk,.int .i64 i,.agg [.int .i64 tc,.int .i64 tt,.int .u64 (ts:Nat)]] [] {} Q
theorem vc_77 (t1:Nat) (t2:Nat) (a:List UInt8) (b:List UInt8) (c:List UInt8) (xs:List Int) (l:List Tr) (nx:Int) (rs:Int) (rt:Int) (rk:Nat) (i:Int) (tc:Int) (tt:Int) (ts:Nat) (Q:Out→List Blk→Gh→Prop) :
 goal_77 (lookV [(315409,.agg [(.int .i64),(.int .i64),(.int .u64)]),(315414,.agg [(.int .i64),(.int .i64),(.int .u64)]),(315406,.int .i64)]) (lookB []) t1 t2 a b c xs l nx rs rt rk i tc tt ts Q=(ckQ (Nat.beq (trM l).length
 (l.length*3)&&oneL (trM l)&&true&&Nat.ble (l.length*24) 1099511627776) (bif Nat.beq l.length 0 then ckQ (Nat.beq l.length 0) (exI .i64 0 fun n_0=>bif i==n_0 then ∃n_1 n_2 n_3,AV.agg [.int .i64 tc,.int .i64 tt,.int .u64
 (ts:Int)]=AV.agg [.int .i64 n_1,.int .i64 n_2,.int .u64 n_3]∧Q (.ret (.agg [.str a,.str b,.str c,.lst t1 (cellsI xs) xs.length 1,.sl 5 3 0 1 3,.int .i64 nx,.int .i64 rs,.int .i64 rt,.int .u64 (rk:Int)])) [Blk.mk BK.exact
 false [.str a,.str b,.str c,.lst t1 (cellsI xs) xs.length 1,.sl 5 3 0 1 3,.int .i64 nx,.int .i64 rs,.int .i64 rt,.int .u64 (rk:Int)],Blk.mk BK.exact true [.int .i64 tc,.int .i64 tt,.int .u64 (ts:Int)],Blk.mk BK.exact false
 [.str a,.str b,.str c,.lst t1 (cellsI xs) xs.length 1,.sl 5 3 0 1 3,.int .i64 nx,.int .i64 rs,.int .i64 rt,.int .u64 (rk:Int)],Blk.mk BK.exact true [],Blk.mk BK.exact true [.int .i64 n_1,.int .i64 n_2,.int .u64 n_3],Blk.mk
 BK.grow true [.int .i64 n_1,.int .i64 n_2,.int .u64 n_3]] {} else ∃n_1 n_2 n_3,AV.agg [.int .i64 tc,.int .i64 tt,.int .u64 (ts:Int)]=AV.agg [.int .i64 n_1,.int .i64 n_2,.int .u64 n_3]∧ckQ (decide (0≤i)&&false&&true &&
 true) False) else ckQ (Nat.blt 0 l.length) (ckQ (Nat.ble (0+l.length) 1099511627776&&Nat.ble ((0+l.length)*24) 1099511627776) (ckQ (Nat.beq ([]++trM l).length (0+(trM l).length)) (exI .i64 ((0+l.length:Nat):Int) fun n_0
 => bif i==n_0 then ∃n_1 n_2 n_3,AV.agg [.int .i64 tc,.int .i64 tt,.int .u64 (ts:Int)]=AV.agg [.int .i64 n_1,.int .i64 n_2,.int .u64 n_3]∧ckQ (Nat.beq ([]++trM l).length (0+(trM l).length)&&true&&Nat.beq (0+(0 +
 l.length)*3) (0+(trM l).length)&&Nat.ble (0+l.length+1) 1099511627776&&Nat.ble ((0+l.length+1)*24) 1099511627776) (Q (.ret (.agg [.str a,.str b,.str c,.lst t1 (cellsI xs) xs.length 1,.sl 4 (0+(trM l).length+3) 0
 (0+l.length+1) 3,.int .i64 nx,.int .i64 rs,.int .i64 rt,.int .u64 (rk:Int)])) [Blk.mk BK.exact false [.str a,.str b,.str c,.lst t1 (cellsI xs) xs.length 1,.sl 4 (0+(trM l).length+3) 0 (0+l.length+1) 3,.int .i64 nx,
 .int .i64 rs,.int .i64 rt,.int .u64 (rk:Int)],Blk.mk BK.exact true [.int .i64 tc,.int .i64 tt,.int .u64 (ts:Int)],Blk.mk BK.exact false [.str a,.str b,.str c,.lst t1 (cellsI xs) xs.length 1,.sl 4 (0+(trM l).length+3) 0 (0
 + l.length+1) 3,.int .i64 nx,.int .i64 rs,.int .i64 rt,.int .u64 (rk:Int)],Blk.mk BK.exact true [],Blk.mk BK.grow (oldL 0 ([]++trM l)&&true) ([]++trM l++[AV.int .i64 n_1,.int .i64 n_2,.int .u64 n_3]),Blk.mk BK.exact
 true [.int .i64 n_1,.int .i64 n_2,.int .u64 n_3]] {}) else ∃n_1 n_2 n_3,AV.agg [.int .i64 tc,.int .i64 tt,.int .u64 (ts:Int)]=AV.agg [.int .i64 n_1,.int .i64 n_2,.int .u64 n_3]∧ckQ (decide (0≤i)&&Nat.blt i.toNat (0 +
 l.length)&&Nat.beq ([]++trM l).length (0+(trM l).length)&&true) (ckQ (Nat.beq ([]++trM l).length (0+(trM l).length)&&Nat.ble (0+i.toNat*3+3) (0+(trM l).length)&&true&&true&&true) (Q (.ret (.agg [.str a,.str b,
 .str c,.lst t1 (cellsI xs) xs.length 1,.sl 4 (0+(trM l).length) 0 (0+l.length) 3,.int .i64 nx,.int .i64 rs,.int .i64 rt,.int .u64 (rk:Int)])) [Blk.mk BK.exact false [.str a,.str b,.str c,.lst t1 (cellsI xs) xs.length 1,.sl
 4 (0+(trM l).length) 0 (0+l.length) 3,.int .i64 nx,.int .i64 rs,.int .i64 rt,.int .u64 (rk:Int)],Blk.mk BK.exact true [.int .i64 tc,.int .i64 tt,.int .u64 (ts:Int)],Blk.mk BK.exact false [.str a,.str b,.str c,.lst t1
 (cellsI xs) xs.length 1,.sl 4 (0+(trM l).length) 0 (0+l.length) 3,.int .i64 nx,.int .i64 rs,.int .i64 rt,.int .u64 (rk:Int)],Blk.mk BK.exact true [],Blk.mk BK.grow (oldL 0 ([]++trM l)&&true) (setRange ([]++trM l) (0 +
 i.toNat*3) [.int .i64 n_1,.int .i64 n_2,.int .u64 n_3])] {}))))))):=by kernel_rfl

theorem hidU {X:Int} {K:Int→Prop} (h:∀k:Nat,k<18446744073709551616→K (k:Int)):∃n:Int,AV.int .u64 (IntKind.wrap .u64 X)=AV.int .u64 n∧K n:=by
 have e:IntKind.wrap .u64 X=(((X%18446744073709551616).toNat:Nat):Int):=by
  show X%18446744073709551616=_
  omega
 exact ⟨_,rfl,by rw[e];exact h _ (by omega)⟩
theorem track_run (t1 t2:Nat) (a b c:List UInt8) (xs:List Int) (l:List Tr) (nx rs rt:Int) (rk:Nat) (ss:Int) (hl:l.length≤9223372036854775807) (Q:Out→List Blk→Gh→Prop)
  (hq:∀ (i:Nat) (t:Tr),i≤l.length→(t∈l∨t=(ss, -1,0))→Q (.ret (.tup [.int .i64 (i:Nat),.agg [.int .i64 t.1,.int .i64 t.2.1,.int .u64 (t.2.2:Nat)]])) [] {}):∃hv hb,goal_72 hv hb t1 t2 a b c xs l nx rs rt rk ss Q:=by
 obtain ⟨hv,hb',e⟩:∃hv hb,goal_72 hv hb t1 t2 a b c xs l nx rs rt rk ss Q=_:=⟨_,_,vc_72 t1 t2 a b c xs l nx rs rt rk ss Q⟩
 refine ⟨hv,hb',e.mpr ?_⟩
 clear e
 have hln:=tr_len l
 refine ⟨⟨0,⟨by omega⟩,rfl,rfl,rfl,rfl,rfl,rfl,trivial⟩, ?_⟩
 rintro i ⟨g1⟩
 refine ⟨_,rfl,_,rfl,splitD (fun h => ?_) (fun h=>⟨_,rfl,hq l.length (ss, -1,0) (Nat.le_refl _) (.inr rfl)⟩)⟩
 have hi:i<l.length:=by omega
 refine ⟨_,rfl,ckI (by simp;omega) (ckI (by rw[hln];simp;omega) ?_)⟩
 rw[show Int.toNat ((i:Nat):Int)=i from rfl,tr_getD l i hi]
 refine ⟨_,rfl,splitE (fun h=>⟨_,rfl,_,rfl,ckI (by simp;omega) (ckI (by rw[hln];simp;omega) ?_)⟩) (fun h=>⟨_,rfl,wrapI (by omega) (by omega) ⟨⟨trivial,rfl⟩,i+1,⟨by omega⟩,by omega,rfl,rfl,rfl,rfl,rfl,rfl,trivial⟩⟩)⟩
 rw[show Int.toNat ((i:Nat):Int)=i from rfl,tr_get l i hi]
 exact ⟨_,_,_,rfl,hq i l[i] (by omega) (.inl (List.getElem_mem hi))⟩
theorem old86_run (c t:Int) (s:Nat) (i:Int) (ht : -1≤t∧t≤281474976710656) (hi:0≤i∧i≤281474976710656) (hs:s<18446744073709551616) (Q:Out→List Blk→Gh→Prop) (hq:∀b,Q (.ret (.bool b)) [] {}):∃hv hb,goal_86 hv hb c t s i Q:=by
 obtain ⟨hv,hb',e⟩:∃hv hb,goal_86 hv hb c t s i Q=_:=⟨_,_,vc_86 c t s i Q⟩
 refine ⟨hv,hb',e.mpr ?_⟩
 clear e
 exact splitE (fun _=>hq _) (fun _=>splitD (fun _=>hq _) (fun _=>wrapI (by omega) (by omega) (splitD (fun _=>hq _) (fun _=>⟨_,rfl,wrapI (by omega) (by omega) (ckI (by simp;omega) ⟨_,rfl,hidU fun k _=>splitE (fun _=>hq _) (fun _=>hq _)⟩)⟩))))
theorem enter78_run (c t:Int) (s:Nat) (i:Int) (ht : -1≤t∧t≤281474976710656) (hi:0≤i∧i≤281474976710656) (hs:s<18446744073709551616) (Q:Out→List Blk→Gh→Prop)
  (hq:∀ (t':Int) (k:Nat),(t'=t∨t'=i)→k<18446744073709551616→Q (.ret (.agg [.int .i64 c,.int .i64 t',.int .u64 (k:Nat)])) [] {}):∃hv hb,goal_78 hv hb c t s i Q:=by
 obtain ⟨hv,hb',e⟩:∃hv hb,goal_78 hv hb c t s i Q=_:=⟨_,_,vc_78 c t s i Q⟩
 refine ⟨hv,hb',e.mpr ?_⟩
 clear e
 refine splitD (fun h=>⟨_,rfl,wrapI (by omega) (by omega) (ckI (by simp;omega) (hidU fun k _=>hidU fun k h=>hq _ _ (.inl rfl) h))⟩) (fun h => ?_)
 refine splitE (fun _=>⟨_,rfl,hq _ 1 (.inr rfl) (by omega)⟩) (fun _=>wrapI (by omega) (by omega) (splitD (fun _=>⟨_,rfl,hq _ 1 (.inr rfl) (by omega)⟩) (fun _=>⟨_,rfl,wrapI (by omega) (by omega) (ckI (by simp;omega) (hidU fun k _=>hidU fun k h=>hq _ _ (.inr rfl) h))⟩)))
theorem trM_app:∀l m:List Tr,trM (l++m)=trM l++trM m
 | [],_=>rfl
 | t::l,m=>by simp[trM,trM_app l m]
theorem trM_set (x:Tr):∀ (l:List Tr) (i:Nat),i<l.length→setRange (trM l) (i*3) [.int .i64 x.1,.int .i64 x.2.1,.int .u64 (x.2.2:Nat)]=trM (l.set i x)
 | [],i,h=>by simp at h
 | t::l,0,_=>rfl
 | t::l,i+1,h=>by
  have ih:=trM_set x l i (by simpa using h)
  unfold setRange at ih ⊢
  rw[show (i+1)*3=i*3+1+1+1 by omega,List.set_cons_succ,trM,trM,←ih]
  simp only[List.take_succ_cons,List.cons_append,List.length_cons,List.length_nil]
  rw[show i*3+1+1+1+(0+1+1+1)=(i*3+(0+1+1+1))+1+1+1 by omega]
  simp only[List.drop_succ_cons]
theorem entered_run (t1 t2:Nat) (a b c:List UInt8) (xs:List Int) (l:List Tr) (nx rs rt:Int) (rk:Nat) (i:Nat) (x:Tr) (hl:l.length≤1000) (hi:i≤l.length) (Q:Out→List Blk→Gh→Prop)
  (hq:∀ (id tot n:Nat) (H:List Blk) (bk:Blk) (l':List Tr),H[id]? = some bk→bk.cs.length=tot→bk.k≠.ro→bk.cs=trM l'→n=l'.length→l'.length≤l.length+1→(∀y∈l',y∈l∨y=x) →
   Q (.ret (.agg [.str a,.str b,.str c,.lst t1 (cellsI xs) xs.length 1,.sl id tot 0 n 3,.int .i64 nx,.int .i64 rs,.int .i64 rt,.int .u64 (rk:Nat)])) H {}):∃hv hb,goal_77 hv hb t1 t2 a b c xs l nx rs rt rk i x.1 x.2.1 x.2.2 Q:=by
 obtain ⟨hv,hb',e⟩:∃hv hb,goal_77 hv hb t1 t2 a b c xs l nx rs rt rk i x.1 x.2.1 x.2.2 Q=_:=⟨_,_,vc_77 t1 t2 a b c xs l nx rs rt rk i x.1 x.2.1 x.2.2 Q⟩
 refine ⟨hv,hb',e.mpr ?_⟩
 clear e
 have hln:=tr_len l
 obtain ⟨f1,f2,f3⟩:=fl_T5 l
 refine ckI (by rw[f3];simp[hln,nbeq];omega) (splitI (fun h => ?_) (fun h => ?_))
 ·have hn0:l=[]:=List.eq_nil_of_length_eq_zero (by rwa [nbeq] at h)
  subst hn0
  refine ckI rfl ⟨_,rfl,splitE (fun _ => ?_) (fun h=>absurd (show i=0 by simpa using hi) (by omega))⟩
  exact ⟨_,_,_,rfl,hq 5 3 1 _ _ [x] rfl rfl (by simp) rfl rfl (by simp) (by simp)⟩
 ·have hn0:l.length≠0:=fun h'=>by rw[h'] at h;cases h
  refine ckI (blt_t (by omega)) (ckI (by simp;omega) (ckI (by simp[nbeq]) ⟨_,rfl,splitE (fun h=>⟨_,_,_,rfl,ckI (by simp[nbeq,hln];omega) ?_⟩) (fun h=>⟨_,_,_,rfl,ckI ?_ ?_⟩)⟩))
  ·exact hq 4 _ _ _ _ (l++[x]) rfl (by simp) (by simp) (by rw[trM_app];rfl) (by simp) (by simp) (by simp)
  ·simp[nbeq,hln];omega
  ·have e1:setRange ([]++trM l) (0+Int.toNat (i:Int)*3) [.int .i64 x.1,.int .i64 x.2.1,.int .u64 (x.2.2:Nat)]=trM (l.set i x):=by
    rw[List.nil_append,Nat.zero_add];exact trM_set x l i (by omega)
   refine ckI (by simp[nbeq,hln];omega) (hq 4 _ _ _ _ (l.set i x) rfl ?_ (by simp) e1 (by simp) (by simp) (fun y hy=>List.mem_or_eq_of_mem_set hy))
   show (setRange ([]++trM l) (0+Int.toNat (i:Int)*3) [.int .i64 x.1,.int .i64 x.2.1,.int .u64 (x.2.2:Nat)]).length=_
   rw[e1,tr_len];simp[hln]
def cTrack:Con
 | [.agg [.str _,.str _,.str _,.lst _ h n 1,.lst _ tr m 3,.int .i64 _,.int .i64 _,.int .i64 _,.int .u64 u],.int .i64 ss],H,K=>∃ (xs:List Int) (l:List Tr) (rk:Nat),Lf (h=cellsI xs∧n=xs.length∧tr=trM l∧m=l.length∧u=(rk:Int)∧l.length≤1000) ∧
   ∀ (i:Nat) (t:Tr),Lf (i≤l.length∧(t∈l∨t=(ss, -1,0)))→K (.ret (.tup [.int .i64 (i:Nat),.agg [.int .i64 t.1,.int .i64 t.2.1,.int .u64 (t.2.2:Nat)]])) H
 | _,_,_=>False
theorem track_ok:ValidF Tryz.prog gl0 72 cTrack:=by
 refine valid_flat (enters_of (by kernel_rfl)) gl0_noY fun args H Q hc => ?_
 unfold cTrack at hc
 split at hc
 ·rename_i a b c t1 h n t2 tr m nx rs rt u ss
  obtain ⟨xs,l,rk,⟨rfl,rfl,rfl,rfl,rfl,h1⟩,hq⟩:=hc
  obtain ⟨hv,hb',h⟩:=track_run t1 t2 a b c xs l nx rs rt rk ss (by omega) (Q:=fun o H' _=>H'=[]∧(∃v,o=.ret v∧old 0 v=true∧noY v=true)∧Q o H) (fun i t g1 g2=>⟨rfl,⟨_,rfl,rfl,rfl⟩,hq i t ⟨g1,g2⟩⟩)
  exact ⟨by simp[oldL,old,flat_cI0,(flat_tr l).1],by simp[noYL,noY,(flat_cI xs).2,(flat_tr l).2],_,1000,envFor04 sm0_ok _ _ _,rfl,h⟩
 ·exact hc.elim
def cOldH:Con
 | [.agg [.int .i64 _,.int .i64 t,.int .u64 u],.int .i64 i],H,K=>∃s:Nat,Lf (u=(s:Int)∧(-1≤t∧t≤281474976710656)∧(0≤i∧i≤281474976710656)∧s<18446744073709551616)∧∀b:Bool,K (.ret (.bool b)) H
 | _,_,_=>False
theorem old86_ok:ValidF Tryz.prog gl0 86 cOldH:=by
 refine valid_flat (enters_of (by kernel_rfl)) gl0_noY fun args H Q hc => ?_
 unfold cOldH at hc
 split at hc
 ·rename_i c t u i
  obtain ⟨s,⟨rfl,h1,h2,h3⟩,hq⟩:=hc
  obtain ⟨hv,hb',h⟩:=old86_run c t s i h1 h2 h3 (Q:=fun o H' _=>H'=[]∧(∃v,o=.ret v∧old 0 v=true∧noY v=true)∧Q o H) (fun b=>⟨rfl,⟨_,rfl,rfl,rfl⟩,hq b⟩)
  exact ⟨rfl,rfl,_,1000,envFor04 sm0_ok _ _ _,rfl,h⟩
 ·exact hc.elim
def cEnterH:Con
 | [.agg [.int .i64 c,.int .i64 t,.int .u64 u],.int .i64 i],H,K=>∃s:Nat,Lf (u=(s:Int)∧(-1≤t∧t≤281474976710656)∧(0≤i∧i≤281474976710656)∧s<18446744073709551616) ∧
   ∀ (t':Int) (k:Nat),Lf ((t'=t∨t'=i)∧k<18446744073709551616)→K (.ret (.agg [.int .i64 c,.int .i64 t',.int .u64 (k:Nat)])) H
 | _,_,_=>False
theorem enter78_ok:ValidF Tryz.prog gl0 78 cEnterH:=by
 refine valid_flat (enters_of (by kernel_rfl)) gl0_noY fun args H Q hc => ?_
 unfold cEnterH at hc
 split at hc
 ·rename_i c t u i
  obtain ⟨s,⟨rfl,h1,h2,h3⟩,hq⟩:=hc
  obtain ⟨hv,hb',h⟩:=enter78_run c t s i h1 h2 h3 (Q:=fun o H' _=>H'=[]∧(∃v,o=.ret v∧old 0 v=true∧noY v=true)∧Q o H) (fun t' k g1 g2=>⟨rfl,⟨_,rfl,rfl,rfl⟩,hq t' k ⟨g1,g2⟩⟩)
  exact ⟨rfl,rfl,_,1000,envFor04 sm0_ok _ _ _,rfl,h⟩
 ·exact hc.elim
def cEntered:Con
 | [.agg [.str a,.str b,.str c,.lst 0 h n 1,.lst t2 tr m 3,.int .i64 nx,.int .i64 rs,.int .i64 rt,.int .u64 u],.int .i64 j,.agg [.int .i64 tc,.int .i64 tt,.int .u64 v]],H,K=>∃ (xs:List Int) (l:List Tr) (rk i s:Nat),Lf (h=cellsI xs∧n=xs.length∧tr=trM l∧m=l.length∧u=(rk:Int)∧j=(i:Int)∧v=(s:Int)∧l.length≤1000∧i≤l.length) ∧
   ∀l':List Tr,Lf (l'.length≤l.length+1∧∀y∈l',y∈l∨y=(tc,tt,s))→K (.ret (shV 0 0 a b c xs l' nx rs rt rk)) H
 | _,_,_=>False
theorem entered_ok:ValidF Tryz.prog gl0 77 cEntered:=valid_frz (enters_of (by kernel_rfl)) gl0_noY 9 shK wk_shK fun args H Q hc=>by
 unfold cEntered at hc
 split at hc
 ·rename_i a b c h n t2 tr m nx rs rt u j tc tt v
  obtain ⟨xs,l,rk,i,s,⟨rfl,rfl,rfl,rfl,rfl,rfl,rfl,h1,h2⟩,hq⟩:=hc
  obtain ⟨hv,hb',h⟩:=entered_run 0 t2 a b c xs l nx rs rt rk i (tc,tt,s) h1 h2 (Q:=fun o H' _=>∃v,o=.ret v∧Q (.ret (shK (frzV 0 H' 9 v))) H)
   (fun id tot n H' bk l' g1 g2 g3 g4 g5 g6 g7=>⟨_,rfl,by
    have e:frzV 0 H' 9 (.agg [.str a,.str b,.str c,.lst 0 (cellsI xs) xs.length 1,.sl id tot 0 n 3,.int .i64 nx,.int .i64 rs,.int .i64 rt,.int .u64 (rk:Nat)])=.agg [.str a,.str b,.str c,.lst 0 (cellsI xs) xs.length 1,frzV 0 H' 8 (.sl id tot 0 n 3),.int .i64 nx,.int .i64 rs,.int .i64 rt,.int .u64 (rk:Nat)]:=rfl
    have hln:=tr_len l'
    rw[e,frz_sl5 (d:=6) g1 g2 (by rw[←g2,g4,hln];omega) g3 (by rw[g4,List.drop_zero,List.take_of_length_le (by rw[hln];omega)]) (pl_T5 l'),g5]
    exact hq l' ⟨g6,g7⟩⟩)
  exact ⟨by simp[oldL,old,(fl_I5 xs).1,(fl_T5 l).1],by simp[noYL,noY,(fl_I5 xs).2.1,(fl_T5 l).2.1],_,1000,envFor04 sm0_ok _ _ _,rfl,h⟩
 ·exact hc.elim
end Go.Proofs.YtnhechnaemmdiaaGreatDoor

/-
  Chapter 17: numbers as octets; heads of records.
-/
import Derived.Test.YtjenieljapmehaaGreatDoorR21B
set_option linter.unusedSimpArgs false
set_option linter.unusedVariables false
set_option linter.unusedSectionVars false
namespace Go.Proofs.YtjenieljapmehaaGreatDoor.Rc
open Go.RowKit
set_option maxRecDepth 1000000

def beBM:Nat→Nat→List UInt8
 | 0,_=>[]
 | n+1,v=>UInt8.ofNat (v/256^n%256)::beBM n v
noncomputable def goal_60 (hv:Nat→Option Pa) (hb:Nat→Option Bool) (n v:Int) (Q:Out→List Blk→Gh→Prop):Prop:=
 callx (e04 sm0 (fun _=>none) hv hb) (wpx (e04 sm0 (fun _=>none) hv hb) 1000) 71 [.int .i64 n,.int .i64 v] [] {} Q
noncomputable def goal_60a (hv:Nat→Option Pa) (hb:Nat→Option Bool) (v:Int) (Q:Out→List Blk→Gh→Prop):Prop:=goal_60 hv hb 1 v Q
noncomputable def goal_60b (hv:Nat→Option Pa) (hb:Nat→Option Bool) (v:Int) (Q:Out→List Blk→Gh→Prop):Prop:=goal_60 hv hb 2 v Q
noncomputable def goal_60c (hv:Nat→Option Pa) (hb:Nat→Option Bool) (v:Int) (Q:Out→List Blk→Gh→Prop):Prop:=goal_60 hv hb 6 v Q
theorem vc_60a (v:Int) (Q:Out→List Blk→Gh→Prop):goal_60a (lookV [(393239,.int .i64),(393256,.int .i64),(393257,.int .u8),(393261,.str)]) (lookB []) v Q=(
(bif (decide (v<(0:Int))) then (Q (Out.ret (AV.str [])) [] (Gh.mk (0:Nat) (0:Nat) []))
else (∃n_0:Int,(((AV.int .i64 (Int.fdiv v (256:Int)))=(AV.int .i64 n_0)) ∧
 (bif (n_0 !=(0:Int)) then (Q (Out.ret (AV.str [])) [] (Gh.mk (0:Nat) (0:Nat) []))
else (∃n_1:Int,(((AV.int .i64 (Int.fdiv v (1:Int)))=(AV.int .i64 n_1)) ∧
 (∃n_2:Int,(((AV.int .u8 (IntKind.wrap .u8 n_1))=(AV.int .u8 n_2)) ∧
 (∃s_3:(List UInt8),(((AV.str ((toB (AV.int .u8 n_2))::[]))=(AV.str s_3)) ∧
 (Q (Out.ret (AV.str s_3)) [] (Gh.mk (0:Nat) (0:Nat) []))))))))))))):=by kernel_rfl

theorem vc_60b (v:Int) (Q:Out→List Blk→Gh→Prop):goal_60b (lookV [(393239,.int .i64),(393256,.int .i64),(393257,.int .u8),(393261,.str)]) (lookB []) v Q=(
(bif (decide (v<(0:Int))) then (Q (Out.ret (AV.str [])) [] (Gh.mk (0:Nat) (0:Nat) []))
else (∃n_0:Int,(((AV.int .i64 (Int.fdiv v (65536:Int)))=(AV.int .i64 n_0)) ∧
 (bif (n_0 !=(0:Int)) then (Q (Out.ret (AV.str [])) [] (Gh.mk (0:Nat) (0:Nat) []))
else (∃n_1:Int,(((AV.int .i64 (Int.fdiv v (256:Int)))=(AV.int .i64 n_1)) ∧
 (∃n_2:Int,(((AV.int .u8 (IntKind.wrap .u8 n_1))=(AV.int .u8 n_2)) ∧
 (∃n_3:Int,(((AV.int .i64 (Int.fdiv v (1:Int)))=(AV.int .i64 n_3)) ∧
 (∃n_4:Int,(((AV.int .u8 (IntKind.wrap .u8 n_3))=(AV.int .u8 n_4)) ∧
 (∃s_5:(List UInt8),(((AV.str ((toB (AV.int .u8 n_2))::((toB (AV.int .u8 n_4))::[])))=(AV.str s_5)) ∧
 (Q (Out.ret (AV.str s_5)) [] (Gh.mk (0:Nat) (0:Nat) []))))))))))))))))):=by kernel_rfl

theorem vc_60c (v:Int) (Q:Out→List Blk→Gh→Prop):goal_60c (lookV [(393239,.int .i64),(393256,.int .i64),(393257,.int .u8),(393261,.str)]) (lookB []) v Q=(bif decide (v<0) then Q (.ret (.str [])) [] {} else exI .i64
 (Int.fdiv v 281474976710656) fun n_0=>bif n_0 !=0 then Q (.ret (.str [])) [] {} else exI .i64 (Int.fdiv v 1099511627776) fun n_1=>exW .u8 n_1 fun n_2=>exI .i64 (Int.fdiv v 4294967296) fun n_3=>exW .u8 n_3 fun n_4=>exI .i64
 (Int.fdiv v 16777216) fun n_5=>exW .u8 n_5 fun n_6=>exI .i64 (Int.fdiv v 65536) fun n_7=>exW .u8 n_7 fun n_8=>exI .i64 (Int.fdiv v 256) fun n_9=>exW .u8 n_9 fun n_10=>exI .i64 (Int.fdiv v 1) fun n_11=>exW .u8 n_11 fun n_12=>
 exS (.str [toB (.int .u8 n_2),toB (.int .u8 n_4),toB (.int .u8 n_6),toB (.int .u8 n_8),toB (.int .u8 n_10),toB (.int .u8 n_12)]) fun s_13=>Q (.ret (.str s_13)) [] {}):=by kernel_rfl

noncomputable def goal_61 (hv:Nat→Option Pa) (hb:Nat→Option Bool) (n v:Int) (Q:Out→List Blk→Gh→Prop):Prop:=
 callx (e04 sm0 (fun _=>none) hv hb) (wpx (e04 sm0 (fun _=>none) hv hb) 1000) 146 [.int .i64 n,.int .i64 v] [] {} Q
noncomputable def goal_61a (hv:Nat→Option Pa) (hb:Nat→Option Bool) (v:Int) (Q:Out→List Blk→Gh→Prop):Prop:=goal_61 hv hb 1 v Q
noncomputable def goal_61b (hv:Nat→Option Pa) (hb:Nat→Option Bool) (v:Int) (Q:Out→List Blk→Gh→Prop):Prop:=goal_61 hv hb 2 v Q
noncomputable def goal_61c (hv:Nat→Option Pa) (hb:Nat→Option Bool) (v:Int) (Q:Out→List Blk→Gh→Prop):Prop:=goal_61 hv hb 6 v Q
theorem vc_61a (v:Int) (Q:Out→List Blk→Gh→Prop):goal_61a (lookV [(598029,.int .i64),(598030,.int .u8),(598032,.str),(598034,.str),(598036,.int .i64)]) (lookB []) v Q=(
(∃n_0:Int,(((AV.int .i64 (Int.tmod v (256:Int)))=(AV.int .i64 n_0)) ∧
 (∃n_1:Int,(((AV.int .u8 (IntKind.wrap .u8 n_0))=(AV.int .u8 n_1)) ∧
 (∃s_2:(List UInt8),(((AV.str ((toB (AV.int .u8 n_1))::[]))=(AV.str s_2)) ∧
 (bif ((decide (((List.length s_2)+(0:Nat))≤(9223372036854775807:Nat)))&&true) then (∃s_3:(List UInt8),(((AV.str (s_2++[]))=(AV.str s_3)) ∧
 (∃n_4:Int,(((AV.int .i64 (IntKind.wrap .i64 (Int.tdiv v (256:Int))))=(AV.int .i64 n_4)) ∧
 (Q (Out.ret (AV.str s_3)) [] (Gh.mk (0:Nat) (0:Nat) []))))))
else False)))))))):=by kernel_rfl

theorem vc_61b (v:Int) (Q:Out→List Blk→Gh→Prop):goal_61b (lookV [(598029,.int .i64),(598030,.int .u8),(598032,.str),(598034,.str),(598036,.int .i64)]) (lookB []) v Q=(
(∃n_0:Int,(((AV.int .i64 (Int.tmod v (256:Int)))=(AV.int .i64 n_0)) ∧
 (∃n_1:Int,(((AV.int .u8 (IntKind.wrap .u8 n_0))=(AV.int .u8 n_1)) ∧
 (∃s_2:(List UInt8),(((AV.str ((toB (AV.int .u8 n_1))::[]))=(AV.str s_2)) ∧
 (bif ((decide (((List.length s_2)+(0:Nat))≤(9223372036854775807:Nat)))&&true) then (∃s_3:(List UInt8),(((AV.str (s_2++[]))=(AV.str s_3)) ∧
 (∃n_4:Int,(((AV.int .i64 (IntKind.wrap .i64 (Int.tdiv v (256:Int))))=(AV.int .i64 n_4)) ∧
 (∃n_5:Int,(((AV.int .i64 (Int.tmod n_4 (256:Int)))=(AV.int .i64 n_5)) ∧
 (∃n_6:Int,(((AV.int .u8 (IntKind.wrap .u8 n_5))=(AV.int .u8 n_6)) ∧
 (∃s_7:(List UInt8),(((AV.str ((toB (AV.int .u8 n_6))::[]))=(AV.str s_7)) ∧
 (bif ((decide (((List.length s_7)+(List.length s_3))≤(9223372036854775807:Nat)))&&true) then (∃s_8:(List UInt8),(((AV.str (s_7++s_3))=(AV.str s_8)) ∧
 (∃n_9:Int,(((AV.int .i64 (IntKind.wrap .i64 (Int.tdiv n_4 (256:Int))))=(AV.int .i64 n_9)) ∧
 (Q (Out.ret (AV.str s_8)) [] (Gh.mk (0:Nat) (0:Nat) []))))))
else False)))))))))))
else False)))))))):=by kernel_rfl

theorem vc_61c (v:Int) (Q:Out→List Blk→Gh→Prop):goal_61c (lookV [(598029,.int .i64),(598030,.int .u8),(598032,.str),(598034,.str),(598036,.int .i64)]) (lookB []) v Q=(exI .i64 (v.tmod 256) fun n_0=>exW .u8 n_0 fun
 n_1=>exS (.str [toB (.int .u8 n_1)]) fun s_2=>ckQ (decide (s_2.length+0≤9223372036854775807)&&true) (exS (.str (s_2++[])) fun s_3=>exW .i64 (v.tdiv 256) fun n_4=>exI .i64 (n_4.tmod 256) fun n_5=>exW .u8 n_5 fun n_6=>exS
 (.str [toB (.int .u8 n_6)]) fun s_7=>ckQ (decide (s_7.length+s_3.length≤9223372036854775807)&&true) (exS (.str (s_7++s_3)) fun s_8=>exW .i64 (n_4.tdiv 256) fun n_9=>exI .i64 (n_9.tmod 256) fun n_10=>exW .u8 n_10 fun n_11=>
 exS (.str [toB (.int .u8 n_11)]) fun s_12=>ckQ (decide (s_12.length+s_8.length≤9223372036854775807)&&true) (exS (.str (s_12++s_8)) fun s_13=>exW .i64 (n_9.tdiv 256) fun n_14=>exI .i64 (n_14.tmod 256) fun n_15=>exW .u8 n_15
 fun n_16=>exS (.str [toB (.int .u8 n_16)]) fun s_17=>ckQ (decide (s_17.length+s_13.length≤9223372036854775807)&&true) (exS (.str (s_17++s_13)) fun s_18=>exW .i64 (n_14.tdiv 256) fun n_19=>exI .i64 (n_19.tmod 256) fun n_20
 => exW .u8 n_20 fun n_21=>exS (.str [toB (.int .u8 n_21)]) fun s_22=>ckQ (decide (s_22.length+s_18.length≤9223372036854775807)&&true) (exS (.str (s_22++s_18)) fun s_23=>exW .i64 (n_19.tdiv 256) fun n_24=>exI .i64 (n_24.tmod
 256) fun n_25=>exW .u8 n_25 fun n_26=>exS (.str [toB (.int .u8 n_26)]) fun s_27=>ckQ (decide (s_27.length+s_23.length≤9223372036854775807)&&true) (exS (.str (s_27++s_23)) fun s_28=>exW .i64 (n_24.tdiv 256) fun n_29=>Q
 (.ret (.str s_28)) [] {}))))))):=by kernel_rfl


theorem byteN (x:Nat):toB (AV.int .u8 (IntKind.wrap .u8 (x:Int)))=UInt8.ofNat (x%256):=by
 show UInt8.ofNat (((x:Int)%256).toNat)=_
 congr 1
theorem stepP {x:Nat} {t:List UInt8} {K:List UInt8→Int→Prop} (hx:x≤9223372036854775807) (ht:t.length≤100) (hk:K (UInt8.ofNat (x%256)::t) ((x/256:Nat):Int)) :
  ∃n0:Int,AV.int .i64 (Int.tmod (x:Int) 256)=AV.int .i64 n0∧∃n1:Int,AV.int .u8 (IntKind.wrap .u8 n0)=AV.int .u8 n1∧∃s2:List UInt8,AV.str (toB (AV.int .u8 n1)::[])=AV.str s2 ∧
   (bif decide (s2.length+t.length≤9223372036854775807)&&true then ∃s3:List UInt8,AV.str (s2++t)=AV.str s3∧∃n4:Int,AV.int .i64 (IntKind.wrap .i64 (Int.tdiv (x:Int) 256))=AV.int .i64 n4∧K s3 n4 else False):=by
 refine ⟨_,rfl,_,rfl,_,rfl,ckI (by simp;omega) ⟨_,rfl, ?_⟩⟩
 rw[show Int.tdiv (x:Int) 256=((x/256:Nat):Int) from rfl,show Int.tmod (x:Int) 256=((x%256:Nat):Int) from rfl,byteN,Nat.mod_mod]
 exact wrapI (by omega) (by omega) hk
theorem put_a (k:Nat) (h:k≤255) (Q:Out→List Blk→Gh→Prop) (hq:Q (.ret (.str (beBM 1 k))) [] {}):∃hv hb,goal_60 hv hb 1 k Q:=by
 obtain ⟨hv,hb',e⟩:∃hv hb,goal_60a hv hb k Q=_:=⟨_,_,vc_60a k Q⟩
 refine ⟨hv,hb',(show goal_60a hv hb' k Q from e.mpr ?_)⟩
 clear e
 rw[fdivN k 256 256 rfl,fdivN k 1 1 rfl]
 refine splitD (fun h=>absurd h (by omega)) (fun _=>⟨_,rfl,splitNE (fun h=>absurd h (by omega)) (fun _=>⟨_,rfl,_,rfl,_,rfl, ?_⟩)⟩)
 rw[byteN]
 exact hq
theorem put_b (k:Nat) (h:k≤65535) (Q:Out→List Blk→Gh→Prop) (hq:Q (.ret (.str (beBM 2 k))) [] {}):∃hv hb,goal_60 hv hb 2 k Q:=by
 obtain ⟨hv,hb',e⟩:∃hv hb,goal_60b hv hb k Q=_:=⟨_,_,vc_60b k Q⟩
 refine ⟨hv,hb',(show goal_60b hv hb' k Q from e.mpr ?_)⟩
 clear e
 rw[fdivN k 65536 65536 rfl,fdivN k 256 256 rfl,fdivN k 1 1 rfl]
 refine splitD (fun h=>absurd h (by omega)) (fun _=>⟨_,rfl,splitNE (fun h=>absurd h (by omega)) (fun _=>⟨_,rfl,_,rfl,_,rfl,_,rfl,_,rfl, ?_⟩)⟩)
 rw[byteN,byteN]
 exact hq
theorem put_c (k:Nat) (h:k≤281474976710655) (Q:Out→List Blk→Gh→Prop) (hq:Q (.ret (.str (beBM 6 k))) [] {}):∃hv hb,goal_60 hv hb 6 k Q:=by
 obtain ⟨hv,hb',e⟩:∃hv hb,goal_60c hv hb k Q=_:=⟨_,_,vc_60c k Q⟩
 refine ⟨hv,hb',(show goal_60c hv hb' k Q from e.mpr ?_)⟩
 clear e
 rw[fdivN k 281474976710656 281474976710656 rfl,fdivN k 1099511627776 1099511627776 rfl,fdivN k 4294967296 4294967296 rfl,fdivN k 16777216 16777216 rfl,fdivN k 65536 65536 rfl,fdivN k 256 256 rfl,fdivN k 1 1 rfl]
 refine splitD (fun h=>absurd h (by omega)) (fun _=>⟨_,rfl,splitNE (fun h=>absurd h (by omega)) (fun _=>⟨_,rfl,_,rfl,_,rfl,_,rfl,_,rfl,_,rfl,_,rfl,_,rfl,_,rfl,_,rfl,_,rfl,_,rfl,_,rfl, ?_⟩)⟩)
 rw[byteN,byteN,byteN,byteN,byteN,byteN]
 exact hq
theorem rput_a (k:Nat) (h:k≤255) (Q:Out→List Blk→Gh→Prop) (hq:Q (.ret (.str (beBM 1 k))) [] {}):∃hv hb,goal_61 hv hb 1 k Q:=by
 obtain ⟨hv,hb',e⟩:∃hv hb,goal_61a hv hb k Q=_:=⟨_,_,vc_61a k Q⟩
 refine ⟨hv,hb',(show goal_61a hv hb' k Q from e.mpr ?_)⟩
 clear e
 refine stepP (t:=[]) (by omega) (by simp) ?_
 rw[show beBM 1 k=[UInt8.ofNat (k%256)] by simp[beBM]] at hq
 exact hq
theorem rput_b (k:Nat) (h:k≤65535) (Q:Out→List Blk→Gh→Prop) (hq:Q (.ret (.str (beBM 2 k))) [] {}):∃hv hb,goal_61 hv hb 2 k Q:=by
 obtain ⟨hv,hb',e⟩:∃hv hb,goal_61b hv hb k Q=_:=⟨_,_,vc_61b k Q⟩
 refine ⟨hv,hb',(show goal_61b hv hb' k Q from e.mpr ?_)⟩
 clear e
 refine stepP (t:=[]) (by omega) (by simp) (stepP (by omega) (by simp) ?_)
 rw[show beBM 2 k=[UInt8.ofNat (k/256%256),UInt8.ofNat (k%256)] by simp[beBM]] at hq
 exact hq
theorem rput_c (k:Nat) (h:k≤281474976710655) (Q:Out→List Blk→Gh→Prop) (hq:Q (.ret (.str (beBM 6 k))) [] {}):∃hv hb,goal_61 hv hb 6 k Q:=by
 obtain ⟨hv,hb',e⟩:∃hv hb,goal_61c hv hb k Q=_:=⟨_,_,vc_61c k Q⟩
 refine ⟨hv,hb',(show goal_61c hv hb' k Q from e.mpr ?_)⟩
 clear e
 refine stepP (t:=[]) (by omega) (by simp) (stepP (by omega) (by simp) (stepP (by omega) (by simp) (stepP (by omega) (by simp) (stepP (by omega) (by simp) (stepP (by omega) (by simp) ?_)))))
 rw[show beBM 6 k=[UInt8.ofNat (k/256/256/256/256/256%256),UInt8.ofNat (k/256/256/256/256%256),UInt8.ofNat (k/256/256/256%256),UInt8.ofNat (k/256/256%256),UInt8.ofNat (k/256%256),UInt8.ofNat (k%256)] by simp[beBM,Nat.div_div_eq_div_mul]] at hq
 exact hq
def cPut:Con
 | [.int .i64 n,.int .i64 v],H,K=>Lf (0≤v∧((n=1∧v≤255)∨(n=2∧v≤65535)∨(n=6∧v≤281474976710655)))∧∀s,Lf (s=beBM n.toNat v.toNat)→K (.ret (.str s)) H
 | _,_,_=>False
theorem put_ok:ValidF Tryz.prog gl0 71 cPut:=by
 refine valid_flat (enters_of (by kernel_rfl)) gl0_noY fun args H Q hc => ?_
 unfold cPut at hc
 split at hc
 ·rename_i n v
  obtain ⟨⟨h0,h1⟩,hq⟩:=hc
  obtain ⟨k,rfl⟩:∃k:Nat,v=(k:Int):=⟨v.toNat,by omega⟩
  rcases h1 with ⟨rfl,h1⟩ | ⟨rfl,h1⟩ | ⟨rfl,h1⟩
  ·obtain ⟨hv,hb',h⟩:=put_a k (by omega) (Q:=fun o H' _=>H'=[]∧(∃v,o=.ret v∧old 0 v=true∧noY v=true)∧Q o H) ⟨rfl,⟨_,rfl,rfl,rfl⟩,hq (beBM 1 k) ⟨by rw[Int.toNat_natCast];rfl⟩⟩
   exact ⟨rfl,rfl,_,1000,envFor04 sm0_ok _ _ _,rfl,h⟩
  ·obtain ⟨hv,hb',h⟩:=put_b k (by omega) (Q:=fun o H' _=>H'=[]∧(∃v,o=.ret v∧old 0 v=true∧noY v=true)∧Q o H) ⟨rfl,⟨_,rfl,rfl,rfl⟩,hq (beBM 2 k) ⟨by rw[Int.toNat_natCast];rfl⟩⟩
   exact ⟨rfl,rfl,_,1000,envFor04 sm0_ok _ _ _,rfl,h⟩
  ·obtain ⟨hv,hb',h⟩:=put_c k (by omega) (Q:=fun o H' _=>H'=[]∧(∃v,o=.ret v∧old 0 v=true∧noY v=true)∧Q o H) ⟨rfl,⟨_,rfl,rfl,rfl⟩,hq (beBM 6 k) ⟨by rw[Int.toNat_natCast];rfl⟩⟩
   exact ⟨rfl,rfl,_,1000,envFor04 sm0_ok _ _ _,rfl,h⟩
 ·exact hc.elim
theorem rput_ok:ValidF Tryz.prog gl0 146 cPut:=by
 refine valid_flat (enters_of (by kernel_rfl)) gl0_noY fun args H Q hc => ?_
 unfold cPut at hc
 split at hc
 ·rename_i n v
  obtain ⟨⟨h0,h1⟩,hq⟩:=hc
  obtain ⟨k,rfl⟩:∃k:Nat,v=(k:Int):=⟨v.toNat,by omega⟩
  rcases h1 with ⟨rfl,h1⟩ | ⟨rfl,h1⟩ | ⟨rfl,h1⟩
  ·obtain ⟨hv,hb',h⟩:=rput_a k (by omega) (Q:=fun o H' _=>H'=[]∧(∃v,o=.ret v∧old 0 v=true∧noY v=true)∧Q o H) ⟨rfl,⟨_,rfl,rfl,rfl⟩,hq (beBM 1 k) ⟨by rw[Int.toNat_natCast];rfl⟩⟩
   exact ⟨rfl,rfl,_,1000,envFor04 sm0_ok _ _ _,rfl,h⟩
  ·obtain ⟨hv,hb',h⟩:=rput_b k (by omega) (Q:=fun o H' _=>H'=[]∧(∃v,o=.ret v∧old 0 v=true∧noY v=true)∧Q o H) ⟨rfl,⟨_,rfl,rfl,rfl⟩,hq (beBM 2 k) ⟨by rw[Int.toNat_natCast];rfl⟩⟩
   exact ⟨rfl,rfl,_,1000,envFor04 sm0_ok _ _ _,rfl,h⟩
  ·obtain ⟨hv,hb',h⟩:=rput_c k (by omega) (Q:=fun o H' _=>H'=[]∧(∃v,o=.ret v∧old 0 v=true∧noY v=true)∧Q o H) ⟨rfl,⟨_,rfl,rfl,rfl⟩,hq (beBM 6 k) ⟨by rw[Int.toNat_natCast];rfl⟩⟩
   exact ⟨rfl,rfl,_,1000,envFor04 sm0_ok _ _ _,rfl,h⟩
 ·exact hc.elim

def headM (r:Rc) (n:Int):List UInt8:=beBM 1 r.1.toNat++(beBM 2 r.2.1.toNat++(beBM 6 r.2.2.1.toNat++beBM 2 n.toNat))
abbrev numsOk (r:Rc):Prop:=(0≤r.1∧r.1≤255)∧(0≤r.2.1∧r.2.1≤65535)∧(0≤r.2.2.1∧r.2.2.1≤281474976710655)
def smP:SM:=lookS [(71,cPut),(146,cPut)]
theorem smP_ok:∀f g,smP f=some g→ValidF Tryz.prog gl0 f g:=lookS_ok _ (by simp only[List.mem_cons,List.not_mem_nil,or_false,forall_eq_or_imp,forall_eq];exact ⟨put_ok,rput_ok⟩)
noncomputable def goal_36 (hv:Nat→Option Pa) (hb:Nat→Option Bool) (a b c:Int) (s:List UInt8) (n:Int) (Q:Out→List Blk→Gh→Prop):Prop:=
 callx (e04 smP (fun _=>none) hv hb) (wpx (e04 smP (fun _=>none) hv hb) 1000) 43 [.agg [.int .i64 a,.int .i64 b,.int .i64 c,.str s],.int .i64 n] [] {} Q
theorem vc_36 (a:Int) (b:Int) (c:Int) (s:List UInt8) (n:Int) (Q:Out→List Blk→Gh→Prop):goal_36 (lookV [(176139,.str),(176143,.str),(176146,.str)]) (lookB []) a b c s n Q=(Lf (0≤a∧((1:Int)=(1:Int)∧a ≤
 255∨(1:Int)=(2:Int)∧a≤65535∨(1:Int)=(6:Int)∧a≤281474976710655))∧∀s_0:List UInt8,Lf (s_0=beBM (Int.toNat 1) a.toNat)→ckQ (eqAVL [.int .i64 c] [.int .i64 c]&&true) (ckQ (eqAVL [.int .i64 b] [.int .i64 b]
 && true) (Lf (0≤b∧((2:Int)=(1:Int)∧b≤255∨(2:Int)=(2:Int)∧b≤65535∨(2:Int)=(6:Int)∧b≤281474976710655))∧∀s_1:List UInt8,Lf (s_1=beBM (Int.toNat 2) b.toNat)→ckQ (eqAVL [.int .i64 c] [.int .i64 c]
 && true) (ckQ (decide (s_0.length+s_1.length≤9223372036854775807)&&true) (exS (.str (s_0++s_1)) fun s_2=>Lf (0≤c∧((6:Int)=(1:Int)∧c≤255∨(6:Int)=(2:Int)∧c≤65535∨(6:Int)=(6:Int)∧c ≤
 281474976710655))∧∀s_3:List UInt8,Lf (s_3=beBM (Int.toNat 6) c.toNat)→ckQ (decide (s_2.length+s_3.length≤9223372036854775807)&&true) (exS (.str (s_2++s_3)) fun s_4=>Lf (0≤n∧((2:Int)=(1:Int)∧n≤255∨(2 :
 Int)=(2:Int)∧n≤65535∨(2:Int)=(6:Int)∧n≤281474976710655))∧∀s_5:List UInt8,Lf (s_5=beBM (Int.toNat 2) n.toNat)→ckQ (decide (s_4.length+s_5.length≤9223372036854775807)&&true) (exS (.str (s_4++s_5)) fun
 s_6=>Q (.ret (.str s_6)) [] {}))))))):=by kernel_rfl

end Go.Proofs.YtjenieljapmehaaGreatDoor.Rc

/-
  Chapter 25: changed shields.
-/
import Derived.Test.YtnhechnaemmdiaaGreatDoorK25QF
set_option linter.unusedSimpArgs false
set_option linter.unusedVariables false
set_option linter.unusedSectionVars false
namespace Go.Proofs.YtnhechnaemmdiaaGreatDoor
open Go.RowKit
set_option maxRecDepth 1000000

def smBd:SM:=lookS [(79,cSized)]
theorem smBd_ok:∀f g,smBd f=some g→ValidF Tryz.prog gl0 f g:=lookS_ok _ (by simp only[List.mem_cons,List.not_mem_nil,or_false,forall_eq];exact sized_ok)
def inv_50 (N:Nat) (s:S):List (List LInv):=match s.hp with
 | b0::⟨_,_,[x0,x1,x2,x3,_,x5,x6,x7,x8]⟩::b2::_=>[[
  { α:=Nat,pre:=fun x=>Lf (x=0),st:=fun x=>⟨mkT [(2,s.tm.get 2),(3,s.tm.get 3),(4,s.tm.get 4)],[b0,⟨.exact,false,[x0,x1,x2,x3,.sl 3 0 0 0 3,x5,x6,x7,x8]⟩,b2,⟨.exact,true,[]⟩]⟩,mu:=fun _=>1000 },
  { α:=List Tr,pre:=fun x=>Lf (0<x.length∧x.length≤N+17∧trOk x),st:=fun x=>⟨mkT [(2,s.tm.get 2),(3,s.tm.get 3),(4,s.tm.get 4)],[b0,⟨.exact,false,[x0,x1,x2,x3,.sl 4 (x.length*3) 0 x.length 3,x5,x6,x7,x8]⟩,b2,⟨.exact,true,[]⟩,⟨.grow,true,trM x⟩]⟩,mu:=fun x=>1000-x.length }]]
 | _=>[]
noncomputable def env_50 (hv:Nat→Option Pa) (hb:Nat→Option Bool) (N:Nat):Env := { e04 smBd (fun i=>bif Nat.beq i 50001 then some (inv_50 N) else none) hv hb with hz:=fun k=>Nat.beq k 204927 }
noncomputable def goal_p50a (hv:Nat→Option Pa) (hb:Nat→Option Bool) (wh at0 n:Int) (a b c:List UInt8) (xs:List Int) (nx rs rt:Int) (rk:Nat) (Q:Out→List Blk→Gh→Prop):Prop:=
 callx (env_50 hv hb 0) (wpx (env_50 hv hb 0) 1000) 50 [.agg [.int .u8 wh,.int .u8 at0,.int .i64 n],shV 0 0 a b c xs [] nx rs rt rk] [] {} Q
def vc_p50a_1:Prop:=(
((((AV.str [])::((AV.str [])::((AV.str [])::(AV.nils::(AV.nils::((AV.int .i64 (0:Int))::((AV.int .i64 (0:Int))::((AV.int .i64 (0:Int))::((AV.int .u64 (0:Int))::[])))))))))=((AV.str [])::((AV.str [])::((AV.str [])::(AV.nils::(AV.nils::((AV.int .i64 (0:Int))::((AV.int .i64 (0:Int))::((AV.int .i64 (0:Int))::((AV.int .u64 (0:Int))::[])))))))))) ∧
 ((([]:(List AV))=[]) ∧
 False)))
theorem vc_p50a (wh:Int) (at0:Int) (n:Int) (a:List UInt8) (b:List UInt8) (c:List UInt8) (xs:List Int) (nx:Int) (rs:Int) (rt:Int) (rk:Nat) (Q:Out→List Blk→Gh→Prop):goal_p50a (lookV [(204814,.lit (.bool
 false)),(204832,.int .u8),(204836,.int .i64),(204837,.int .i64),(204844,.int .u8),(204848,.int .i64),(204849,.int .i64),(204856,.int .u8),(204860,.int .i64),(204861,.int .i64),(204868,.int .u8),(204882,.int .u8),
 (204890,.int .u8),(204899,.int .u8),(204903,.int .u64),(204909,.int .u8),(204916,.int .u8),(204917,.int .i64),(204918,.int .i64),(204913,.int .i64),(204924,.int .i64),(204925,.int .i64),(204934,.lit (.bool true))])
 (lookB []) wh at0 n a b c xs nx rs rt rk Q=(eqqQ (AV.bool false)∧exI .u8 (wh.tmod 11) fun n_0=>bif n_0==0 then exW .i64 at0 fun n_1=>exI .i64 (n_1.tmod 40) fun n_2=>Lf (0≤n_2∧n_2≤100000∧List.length [107] ≤
 9223372036854775807)∧∀t_3:List UInt8,Lf (t_3=sizedM [107] n_2.toNat)→Q (.ret (.agg [.str t_3,.str b,.str c,.lst 0 (cellsI xs) xs.length 1,.sl 3 0 0 0 3,.int .i64 nx,.int .i64 rs,.int .i64 rt,.int .u64 (rk:Int)]))
 [Blk.mk BK.exact true [.int .u8 wh,.int .u8 at0,.int .i64 n],Blk.mk BK.exact false [.str t_3,.str b,.str c,.lst 0 (cellsI xs) xs.length 1,.sl 3 0 0 0 3,.int .i64 nx,.int .i64 rs,.int .i64 rt,.int .u64 (rk:Int)],Blk.mk
 BK.exact false [.str t_3,.str b,.str c,.lst 0 (cellsI xs) xs.length 1,.sl 3 0 0 0 3,.int .i64 nx,.int .i64 rs,.int .i64 rt,.int .u64 (rk:Int)],Blk.mk BK.exact true []] {} else exI .u8 (wh.tmod 11) fun n_1=>bif n_1==1 then
 exW .i64 at0 fun n_2=>exI .i64 (n_2.tmod 20) fun n_3=>Lf (0≤n_3∧n_3≤100000∧List.length [107]≤9223372036854775807)∧∀t_4:List UInt8,Lf (t_4=sizedM [107] n_3.toNat)→Q (.ret (.agg [.str a,.str t_4,.str c,.lst 0
 (cellsI xs) xs.length 1,.sl 3 0 0 0 3,.int .i64 nx,.int .i64 rs,.int .i64 rt,.int .u64 (rk:Int)])) [Blk.mk BK.exact true [.int .u8 wh,.int .u8 at0,.int .i64 n],Blk.mk BK.exact false [.str a,.str t_4,.str c,.lst 0 (cellsI xs)
 xs.length 1,.sl 3 0 0 0 3,.int .i64 nx,.int .i64 rs,.int .i64 rt,.int .u64 (rk:Int)],Blk.mk BK.exact false [.str a,.str t_4,.str c,.lst 0 (cellsI xs) xs.length 1,.sl 3 0 0 0 3,.int .i64 nx,.int .i64 rs,.int .i64 rt,.int
 .u64 (rk:Int)],Blk.mk BK.exact true []] {} else exI .u8 (wh.tmod 11) fun n_2=>bif n_2==2 then exW .i64 at0 fun n_3=>exI .i64 (n_3.tmod 40) fun n_4=>Lf (0≤n_4∧n_4≤100000∧List.length [107]≤9223372036854775807)∧∀t_5 :
 List UInt8,Lf (t_5=sizedM [107] n_4.toNat)→Q (.ret (.agg [.str a,.str b,.str t_5,.lst 0 (cellsI xs) xs.length 1,.sl 3 0 0 0 3,.int .i64 nx,.int .i64 rs,.int .i64 rt,.int .u64 (rk:Int)])) [Blk.mk BK.exact true [.int .u8 wh,
 .int .u8 at0,.int .i64 n],Blk.mk BK.exact false [.str a,.str b,.str t_5,.lst 0 (cellsI xs) xs.length 1,.sl 3 0 0 0 3,.int .i64 nx,.int .i64 rs,.int .i64 rt,.int .u64 (rk:Int)],Blk.mk BK.exact false [.str a,.str b,.str t_5,
 .lst 0 (cellsI xs) xs.length 1,.sl 3 0 0 0 3,.int .i64 nx,.int .i64 rs,.int .i64 rt,.int .u64 (rk:Int)],Blk.mk BK.exact true []] {} else exI .u8 (wh.tmod 11) fun n_3=>bif n_3==3 then ckQ (Nat.beq (cellsI xs).length (xs.length *
 1)&&oneL (cellsI xs)&&true&&Nat.ble (xs.length*8) 1099511627776) (bif Nat.beq xs.length 0 then ckQ (Nat.beq xs.length 0) (ckQ (eqAVL [.int .i64 n] [.int .i64 n]) (ckQ (eqAVL [.int .i64 n] [.int .i64 n]&&true) (Q (.ret (.agg [.str
 a,.str b,.str c,.sl 6 1 0 1 1,.sl 3 0 0 0 3,.int .i64 nx,.int .i64 rs,.int .i64 rt,.int .u64 (rk:Int)])) [Blk.mk BK.exact true [.int .u8 wh,.int .u8 at0,.int .i64 n],Blk.mk BK.exact false [.str a,.str b,.str c,.sl 6 1 0 1
 1,.sl 3 0 0 0 3,.int .i64 nx,.int .i64 rs,.int .i64 rt,.int .u64 (rk:Int)],Blk.mk BK.exact false [.str a,.str b,.str c,.sl 6 1 0 1 1,.sl 3 0 0 0 3,.int .i64 nx,.int .i64 rs,.int .i64 rt,.int .u64 (rk:Int)],Blk.mk
 BK.exact true [],Blk.mk BK.exact true [],Blk.mk BK.exact true [.int .i64 n],Blk.mk BK.grow true [.int .i64 n]] {}))) else ckQ (Nat.blt 0 xs.length) (ckQ (Nat.ble (0+xs.length) 1099511627776&&Nat.ble ((0+xs.length)*8)
 1099511627776) (ckQ (eqAVL [.int .i64 n] [.int .i64 n]) (ckQ (eqAVL [.int .i64 n] [.int .i64 n]&&true) (ckQ (Nat.beq ([]++cellsI xs).length (0+(cellsI xs).length)&&true&&Nat.beq (0+(0+xs.length)*1) (0+(cellsI xs).length)
 && Nat.ble (0+xs.length+1) 1099511627776&&Nat.ble ((0+xs.length+1)*8) 1099511627776) (Q (.ret (.agg [.str a,.str b,.str c,.sl 6 (0+(cellsI xs).length+1) 0 (0+xs.length+1) 1,.sl 3 0 0 0 3,.int .i64 nx,.int .i64 rs,
 .int .i64 rt,.int .u64 (rk:Int)])) [Blk.mk BK.exact true [.int .u8 wh,.int .u8 at0,.int .i64 n],Blk.mk BK.exact false [.str a,.str b,.str c,.sl 6 (0+(cellsI xs).length+1) 0 (0+xs.length+1) 1,.sl 3 0 0 0 3,.int .i64 nx,
 .int .i64 rs,.int .i64 rt,.int .u64 (rk:Int)],Blk.mk BK.exact false [.str a,.str b,.str c,.sl 6 (0+(cellsI xs).length+1) 0 (0+xs.length+1) 1,.sl 3 0 0 0 3,.int .i64 nx,.int .i64 rs,.int .i64 rt,.int .u64 (rk:Int)],
 Blk.mk BK.exact true [],Blk.mk BK.exact true [],Blk.mk BK.exact true [.int .i64 n],Blk.mk BK.grow (oldL 0 ([]++cellsI xs)&&true) ([]++cellsI xs++[AV.int .i64 n])] {})))))) else exI .u8 (wh.tmod 11) fun n_4=>bif n_4==4 then Q
 (.ret (.agg [.str a,.str b,.str c,.lst 0 (cellsI xs) xs.length 1,.sl 3 0 0 0 3,.int .i64 n,.int .i64 rs,.int .i64 rt,.int .u64 (rk:Int)])) [Blk.mk BK.exact true [.int .u8 wh,.int .u8 at0,.int .i64 n],Blk.mk BK.exact false
 [.str a,.str b,.str c,.lst 0 (cellsI xs) xs.length 1,.sl 3 0 0 0 3,.int .i64 n,.int .i64 rs,.int .i64 rt,.int .u64 (rk:Int)],Blk.mk BK.exact false [.str a,.str b,.str c,.lst 0 (cellsI xs) xs.length 1,.sl 3 0 0 0 3,.int .i64
 n,.int .i64 rs,.int .i64 rt,.int .u64 (rk:Int)],Blk.mk BK.exact true []] {} else exI .u8 (wh.tmod 11) fun n_5=>bif n_5==5 then Q (.ret (.agg [.str a,.str b,.str c,.lst 0 (cellsI xs) xs.length 1,.sl 3 0 0 0 3,.int .i64 nx,
 .int .i64 rs,.int .i64 n,.int .u64 (rk:Int)])) [Blk.mk BK.exact true [.int .u8 wh,.int .u8 at0,.int .i64 n],Blk.mk BK.exact false [.str a,.str b,.str c,.lst 0 (cellsI xs) xs.length 1,.sl 3 0 0 0 3,.int .i64 nx,.int .i64 rs,
 .int .i64 n,.int .u64 (rk:Int)],Blk.mk BK.exact false [.str a,.str b,.str c,.lst 0 (cellsI xs) xs.length 1,.sl 3 0 0 0 3,.int .i64 nx,.int .i64 rs,.int .i64 n,.int .u64 (rk:Int)],Blk.mk BK.exact true []] {} else exI .u8
 (wh.tmod 11) fun n_6=>bif n_6==6 then exW .u64 n fun n_7=>Q (.ret (.agg [.str a,.str b,.str c,.lst 0 (cellsI xs) xs.length 1,.sl 3 0 0 0 3,.int .i64 nx,.int .i64 rs,.int .i64 rt,.int .u64 n_7])) [Blk.mk BK.exact true [.int
 .u8 wh,.int .u8 at0,.int .i64 n],Blk.mk BK.exact false [.str a,.str b,.str c,.lst 0 (cellsI xs) xs.length 1,.sl 3 0 0 0 3,.int .i64 nx,.int .i64 rs,.int .i64 rt,.int .u64 n_7],Blk.mk BK.exact false [.str a,.str b,.str c,.lst
 0 (cellsI xs) xs.length 1,.sl 3 0 0 0 3,.int .i64 nx,.int .i64 rs,.int .i64 rt,.int .u64 n_7],Blk.mk BK.exact true []] {} else exI .u8 (wh.tmod 11) fun n_7=>bif n_7==7 then ((∃x_8:Nat,Lf (x_8=0)∧eqqQ [AV.int .u8 wh,.int
 .u8 at0,.int .i64 n]∧eqqQ [AV.str a,.str b,.str c,.lst 0 (cellsI xs) xs.length 1,.sl 3 0 0 0 3,.int .i64 nx,.int .i64 rs,.int .i64 rt,.int .u64 (rk:Int)]∧eqqQ [AV.str [],.str [],.str [],.nils,.nils,.int .i64 0,.int
 .i64 0,.int .i64 0,.int .u64 0]∧([]:List AV)=[]∧eqqQ (AV.ptr 1 9 0)∧eqqQ (AV.ptr 0 3 0)∧eqqQ (AV.ptr 2 9 0)∧True)∨∃x_8:List Tr,Lf (0<x_8.length∧x_8.length≤0+17∧trOk x_8)∧eqqQ [AV.int .u8 wh,.int .u8 at0,
 .int .i64 n]∧[AV.str a,.str b,.str c,.lst 0 (cellsI xs) xs.length 1,.sl 3 0 0 0 3,.int .i64 nx,.int .i64 rs,.int .i64 rt,.int .u64 (rk:Int)]=[AV.str a,.str b,.str c,.lst 0 (cellsI xs) xs.length 1,.sl 4 (x_8.length*3) 0
 x_8.length 3,.int .i64 nx,.int .i64 rs,.int .i64 rt,.int .u64 (rk:Int)]∧vc_p50a_1)∧(∀x_8:Nat,Lf (x_8=0)→exI .i64 0 fun n_9=>exI .u8 (at0.tmod 3) fun n_10=>exW .i64 n_10 fun n_11=>exW .i64 (15+n_11) fun n_12=>bif
 decide (n_9<n_12) then exI .i64 0 fun n_13=>exW .i64 (100+n_13) fun n_14=>(True∧(0:Nat)=(0:Nat))∧((∃y_15:Nat,Lf (y_15=0)∧(1000:Nat)<(1000:Nat)∧eqqQ [AV.int .u8 wh,.int .u8 at0,.int .i64 n]∧[AV.str a,
 .str b,.str c,.lst 0 (cellsI xs) xs.length 1,.sl 4 3 0 1 3,.int .i64 nx,.int .i64 rs,.int .i64 rt,.int .u64 (rk:Int)]=[AV.str a,.str b,.str c,.lst 0 (cellsI xs) xs.length 1,.sl 3 0 0 0 3,.int .i64 nx,.int .i64 rs,.int
 .i64 rt,.int .u64 (rk:Int)]∧vc_p50a_1)∨∃y_15:List Tr,Lf (0<y_15.length∧y_15.length≤0+17∧trOk y_15)∧1000-y_15.length<1000∧eqqQ [AV.int .u8 wh,.int .u8 at0,.int .i64 n]∧[AV.str a,.str b,.str c,.lst 0
 (cellsI xs) xs.length 1,.sl 4 3 0 1 3,.int .i64 nx,.int .i64 rs,.int .i64 rt,.int .u64 (rk:Int)]=[AV.str a,.str b,.str c,.lst 0 (cellsI xs) xs.length 1,.sl 4 (y_15.length*3) 0 y_15.length 3,.int .i64 nx,.int .i64 rs,.int
 .i64 rt,.int .u64 (rk:Int)]∧eqqQ [AV.str [],.str [],.str [],.nils,.nils,.int .i64 0,.int .i64 0,.int .i64 0,.int .u64 0]∧([]:List AV)=[]∧[AV.int .i64 n_14,.int .i64 5,.int .u64 1]=trM y_15∧eqqQ (AV.ptr 1 9 0) ∧
 eqqQ (AV.ptr 0 3 0)∧eqqQ (AV.ptr 2 9 0)∧True) else Q (.ret (.agg [.str a,.str b,.str c,.lst 0 (cellsI xs) xs.length 1,.sl 3 0 0 0 3,.int .i64 nx,.int .i64 rs,.int .i64 rt,.int .u64 (rk:Int)])) [Blk.mk BK.exact true [.int .u8
 wh,.int .u8 at0,.int .i64 n],Blk.mk BK.exact false [.str a,.str b,.str c,.lst 0 (cellsI xs) xs.length 1,.sl 3 0 0 0 3,.int .i64 nx,.int .i64 rs,.int .i64 rt,.int .u64 (rk:Int)],Blk.mk BK.exact false [.str a,.str b,.str c,
 .lst 0 (cellsI xs) xs.length 1,.sl 3 0 0 0 3,.int .i64 nx,.int .i64 rs,.int .i64 rt,.int .u64 (rk:Int)],Blk.mk BK.exact true []] {})∧∀x_8:List Tr,Lf (0<x_8.length∧x_8.length≤0+17∧trOk x_8)→ckQ (Nat.beq (trM
 x_8).length (x_8.length*3)) (exI .i64 (x_8.length:Int) fun n_9=>exI .u8 (at0.tmod 3) fun n_10=>exW .i64 n_10 fun n_11=>exW .i64 (15+n_11) fun n_12=>bif decide (n_9<n_12) then ckQ (Nat.beq (trM x_8).length (x_8.length*3))
 (exI .i64 (x_8.length:Int) fun n_13=>exW .i64 (100+n_13) fun n_14=>ckQ (Nat.beq (trM x_8).length (x_8.length*3)&&true&&Nat.beq (0+x_8.length*3) (x_8.length*3)&&Nat.ble (x_8.length+1) 1099511627776&&Nat.ble
 ((x_8.length+1)*24) 1099511627776) ((True∧(0:Nat)=(0:Nat))∧((∃y_15:Nat,Lf (y_15=0)∧1000<1000-x_8.length∧eqqQ [AV.int .u8 wh,.int .u8 at0,.int .i64 n]∧[AV.str a,.str b,.str c,.lst 0 (cellsI xs) xs.length
 1,.sl 4 (x_8.length*3+3) 0 (x_8.length+1) 3,.int .i64 nx,.int .i64 rs,.int .i64 rt,.int .u64 (rk:Int)]=[AV.str a,.str b,.str c,.lst 0 (cellsI xs) xs.length 1,.sl 3 0 0 0 3,.int .i64 nx,.int .i64 rs,.int .i64 rt,.int
 .u64 (rk:Int)]∧vc_p50a_1)∨∃y_15:List Tr,Lf (0<y_15.length∧y_15.length≤0+17∧trOk y_15)∧1000-y_15.length<1000-x_8.length∧eqqQ [AV.int .u8 wh,.int .u8 at0,.int .i64 n]∧[AV.str a,.str b,.str c,.lst 0
 (cellsI xs) xs.length 1,.sl 4 (x_8.length*3+3) 0 (x_8.length+1) 3,.int .i64 nx,.int .i64 rs,.int .i64 rt,.int .u64 (rk:Int)]=[AV.str a,.str b,.str c,.lst 0 (cellsI xs) xs.length 1,.sl 4 (y_15.length*3) 0 y_15.length 3,
 .int .i64 nx,.int .i64 rs,.int .i64 rt,.int .u64 (rk:Int)]∧eqqQ [AV.str [],.str [],.str [],.nils,.nils,.int .i64 0,.int .i64 0,.int .i64 0,.int .u64 0]∧([]:List AV)=[]∧trM x_8++[AV.int .i64 n_14,.int .i64 5,.int
 .u64 1]=trM y_15∧eqqQ (AV.ptr 1 9 0)∧eqqQ (AV.ptr 0 3 0)∧eqqQ (AV.ptr 2 9 0)∧True))) else Q (.ret (.agg [.str a,.str b,.str c,.lst 0 (cellsI xs) xs.length 1,.sl 4 (x_8.length*3) 0 x_8.length 3,.int .i64 nx,.int .i64 rs,
 .int .i64 rt,.int .u64 (rk:Int)])) [Blk.mk BK.exact true [.int .u8 wh,.int .u8 at0,.int .i64 n],Blk.mk BK.exact false [.str a,.str b,.str c,.lst 0 (cellsI xs) xs.length 1,.sl 4 (x_8.length*3) 0 x_8.length 3,.int .i64 nx,.int
 .i64 rs,.int .i64 rt,.int .u64 (rk:Int)],Blk.mk BK.exact false [.str a,.str b,.str c,.lst 0 (cellsI xs) xs.length 1,.sl 4 (x_8.length*3) 0 x_8.length 3,.int .i64 nx,.int .i64 rs,.int .i64 rt,.int .u64 (rk:Int)],Blk.mk
 BK.exact true [],Blk.mk BK.grow true (trM x_8)] {}) else eqqQ (AV.bool true)∧Q (.ret (.agg [.str a,.str b,.str c,.lst 0 (cellsI xs) xs.length 1,.sl 3 0 0 0 3,.int .i64 nx,.int .i64 rs,.int .i64 rt,.int .u64 (rk:Int)])) [Blk.mk
 BK.exact true [.int .u8 wh,.int .u8 at0,.int .i64 n],Blk.mk BK.exact false [.str a,.str b,.str c,.lst 0 (cellsI xs) xs.length 1,.sl 3 0 0 0 3,.int .i64 nx,.int .i64 rs,.int .i64 rt,.int .u64 (rk:Int)],Blk.mk BK.exact false
 [.str a,.str b,.str c,.lst 0 (cellsI xs) xs.length 1,.sl 3 0 0 0 3,.int .i64 nx,.int .i64 rs,.int .i64 rt,.int .u64 (rk:Int)],Blk.mk BK.exact true []] {}):=by kernel_rfl

noncomputable def goal_p50b (hv:Nat→Option Pa) (hb:Nat→Option Bool) (wh at0 n:Int) (a b c:List UInt8) (xs:List Int) (t:Tr) (l:List Tr) (nx rs rt:Int) (rk:Nat) (Q:Out→List Blk→Gh→Prop):Prop:=
 callx (env_50 hv hb (l.length+1)) (wpx (env_50 hv hb (l.length+1)) 1000) 50 [.agg [.int .u8 wh,.int .u8 at0,.int .i64 n],shV 0 0 a b c xs (t::l) nx rs rt rk] [] {} Q
def vc_p50b_1:Prop:=(
((((AV.str [])::((AV.str [])::((AV.str [])::(AV.nils::(AV.nils::((AV.int .i64 (0:Int))::((AV.int .i64 (0:Int))::((AV.int .i64 (0:Int))::((AV.int .u64 (0:Int))::[])))))))))=((AV.str [])::((AV.str [])::((AV.str [])::(AV.nils::(AV.nils::((AV.int .i64 (0:Int))::((AV.int .i64 (0:Int))::((AV.int .i64 (0:Int))::((AV.int .u64 (0:Int))::[])))))))))) ∧
 ((([]:(List AV))=[]) ∧
 False)))
theorem vc_p50b (wh:Int) (at0:Int) (n:Int) (a:List UInt8) (b:List UInt8) (c:List UInt8) (xs:List Int) (t:Tr) (l:List Tr) (nx:Int) (rs:Int) (rt:Int) (rk:Nat) (Q:Out→List Blk→Gh→Prop):goal_p50b (lookV
 [(204813,.int .i64),(204814,.lit (.bool true)),(204817,.int .i64),(204820,.int .i64),(204821,.int .i64),(204832,.int .u8),(204836,.int .i64),(204837,.int .i64),(204844,.int .u8),(204848,.int .i64),(204849,.int .i64),
 (204856,.int .u8),(204860,.int .i64),(204861,.int .i64),(204868,.int .u8),(204882,.int .u8),(204890,.int .u8),(204899,.int .u8),(204903,.int .u64),(204909,.int .u8),(204916,.int .u8),(204917,.int .i64),(204918,.int
 .i64),(204913,.int .i64),(204924,.int .i64),(204925,.int .i64),(204933,.int .i64),(204934,.lit (.bool false)),(204938,.int .u8),(204950,.int .u8),(204957,.int .u64)]) (lookB []) wh at0 n a b c xs t l nx rs rt rk Q=(ckQ
 (Nat.beq (trM (t::l)).length ((t::l).length*3)&&oneL (trM (t::l))&&true&&Nat.ble ((t::l).length*24) 1099511627776) (ckQ (Nat.ble (0+(t::l).length) 1099511627776&&Nat.ble ((0+(t::l).length)*24) 1099511627776)
 (ckQ (Nat.beq ([]++trM (t::l)).length (0+(trM (t::l)).length)) (exI .i64 ((0+(t::l).length:Nat):Int) fun n_0=>AV.bool (decide (n_0>0))=AV.bool true∧exW .i64 at0 fun n_1=>ckQ (Nat.beq ([]++trM (t::l)).length (0
 + (trM (t::l)).length)) (exI .i64 ((0+(t::l).length:Nat):Int) fun n_2=>ckQ (n_2 !=0&&true) (exI .i64 (n_1.tmod n_2) fun n_3=>exI .u8 (wh.tmod 11) fun n_4=>bif n_4==0 then exW .i64 at0 fun n_5=>exI .i64 (n_5.tmod 40)
 fun n_6=>Lf (0≤n_6∧n_6≤100000∧List.length [107]≤9223372036854775807)∧∀t_7:List UInt8,Lf (t_7=sizedM [107] n_6.toNat)→Q (.ret (.agg [.str t_7,.str b,.str c,.lst 0 (cellsI xs) xs.length 1,.sl 4 (0+(trM (t ::
 l)).length) 0 (0+(t::l).length) 3,.int .i64 nx,.int .i64 rs,.int .i64 rt,.int .u64 (rk:Int)])) [Blk.mk BK.exact true [.int .u8 wh,.int .u8 at0,.int .i64 n],Blk.mk BK.exact false [.str t_7,.str b,.str c,.lst 0 (cellsI xs)
 xs.length 1,.sl 4 (0+(trM (t::l)).length) 0 (0+(t::l).length) 3,.int .i64 nx,.int .i64 rs,.int .i64 rt,.int .u64 (rk:Int)],Blk.mk BK.exact false [.str t_7,.str b,.str c,.lst 0 (cellsI xs) xs.length 1,.sl 4 (0+(trM (t
 :: l)).length) 0 (0+(t::l).length) 3,.int .i64 nx,.int .i64 rs,.int .i64 rt,.int .u64 (rk:Int)],Blk.mk BK.exact true [],Blk.mk BK.grow (oldL 0 ([]++trM (t::l))) ([]++trM (t::l))] {} else exI .u8 (wh.tmod 11) fun n_5=>
 bif n_5==1 then exW .i64 at0 fun n_6=>exI .i64 (n_6.tmod 20) fun n_7=>Lf (0≤n_7∧n_7≤100000∧List.length [107]≤9223372036854775807)∧∀t_8:List UInt8,Lf (t_8=sizedM [107] n_7.toNat)→Q (.ret (.agg [.str a,.str t_8,
 .str c,.lst 0 (cellsI xs) xs.length 1,.sl 4 (0+(trM (t::l)).length) 0 (0+(t::l).length) 3,.int .i64 nx,.int .i64 rs,.int .i64 rt,.int .u64 (rk:Int)])) [Blk.mk BK.exact true [.int .u8 wh,.int .u8 at0,.int .i64 n],Blk.mk
 BK.exact false [.str a,.str t_8,.str c,.lst 0 (cellsI xs) xs.length 1,.sl 4 (0+(trM (t::l)).length) 0 (0+(t::l).length) 3,.int .i64 nx,.int .i64 rs,.int .i64 rt,.int .u64 (rk:Int)],Blk.mk BK.exact false [.str a,.str
 t_8,.str c,.lst 0 (cellsI xs) xs.length 1,.sl 4 (0+(trM (t::l)).length) 0 (0+(t::l).length) 3,.int .i64 nx,.int .i64 rs,.int .i64 rt,.int .u64 (rk:Int)],Blk.mk BK.exact true [],Blk.mk BK.grow (oldL 0 ([]++trM (t ::
 l))) ([]++trM (t::l))] {} else exI .u8 (wh.tmod 11) fun n_6=>bif n_6==2 then exW .i64 at0 fun n_7=>exI .i64 (n_7.tmod 40) fun n_8=>Lf (0≤n_8∧n_8≤100000∧List.length [107]≤9223372036854775807)∧∀t_9:List UInt8,Lf
 (t_9=sizedM [107] n_8.toNat)→Q (.ret (.agg [.str a,.str b,.str t_9,.lst 0 (cellsI xs) xs.length 1,.sl 4 (0+(trM (t::l)).length) 0 (0+(t::l).length) 3,.int .i64 nx,.int .i64 rs,.int .i64 rt,.int .u64 (rk:Int)]))
 [Blk.mk BK.exact true [.int .u8 wh,.int .u8 at0,.int .i64 n],Blk.mk BK.exact false [.str a,.str b,.str t_9,.lst 0 (cellsI xs) xs.length 1,.sl 4 (0+(trM (t::l)).length) 0 (0+(t::l).length) 3,.int .i64 nx,.int .i64 rs,.int
 .i64 rt,.int .u64 (rk:Int)],Blk.mk BK.exact false [.str a,.str b,.str t_9,.lst 0 (cellsI xs) xs.length 1,.sl 4 (0+(trM (t::l)).length) 0 (0+(t::l).length) 3,.int .i64 nx,.int .i64 rs,.int .i64 rt,.int .u64 (rk:Int)],
 Blk.mk BK.exact true [],Blk.mk BK.grow (oldL 0 ([]++trM (t::l))) ([]++trM (t::l))] {} else exI .u8 (wh.tmod 11) fun n_7=>bif n_7==3 then ckQ (Nat.beq (cellsI xs).length (xs.length*1)&&oneL (cellsI xs)&&true&&Nat.ble
 (xs.length*8) 1099511627776) (bif Nat.beq xs.length 0 then ckQ (Nat.beq xs.length 0) (ckQ (eqAVL [.int .i64 n] [.int .i64 n]) (ckQ (eqAVL [.int .i64 n] [.int .i64 n]&&true) (Q (.ret (.agg [.str a,.str b,.str c,.sl 7 1 0 1 1,.sl 4
 (0+(trM (t::l)).length) 0 (0+(t::l).length) 3,.int .i64 nx,.int .i64 rs,.int .i64 rt,.int .u64 (rk:Int)])) [Blk.mk BK.exact true [.int .u8 wh,.int .u8 at0,.int .i64 n],Blk.mk BK.exact false [.str a,.str b,.str c,.sl 7 1
 0 1 1,.sl 4 (0+(trM (t::l)).length) 0 (0+(t::l).length) 3,.int .i64 nx,.int .i64 rs,.int .i64 rt,.int .u64 (rk:Int)],Blk.mk BK.exact false [.str a,.str b,.str c,.sl 7 1 0 1 1,.sl 4 (0+(trM (t::l)).length) 0 (0+(t
 :: l).length) 3,.int .i64 nx,.int .i64 rs,.int .i64 rt,.int .u64 (rk:Int)],Blk.mk BK.exact true [],Blk.mk BK.grow (oldL 0 ([]++trM (t::l))) ([]++trM (t::l)),Blk.mk BK.exact true [],Blk.mk BK.exact true [.int .i64 n],
 Blk.mk BK.grow true [.int .i64 n]] {}))) else ckQ (Nat.blt 0 xs.length) (ckQ (Nat.ble (0+xs.length) 1099511627776&&Nat.ble ((0+xs.length)*8) 1099511627776) (ckQ (eqAVL [.int .i64 n] [.int .i64 n]) (ckQ (eqAVL [.int .i64 n] [.int
 .i64 n]&&true) (ckQ (Nat.beq ([]++cellsI xs).length (0+(cellsI xs).length)&&true&&Nat.beq (0+(0+xs.length)*1) (0+(cellsI xs).length)&&Nat.ble (0+xs.length+1) 1099511627776&&Nat.ble ((0+xs.length+1)*8)
 1099511627776) (Q (.ret (.agg [.str a,.str b,.str c,.sl 7 (0+(cellsI xs).length+1) 0 (0+xs.length+1) 1,.sl 4 (0+(trM (t::l)).length) 0 (0+(t::l).length) 3,.int .i64 nx,.int .i64 rs,.int .i64 rt,.int .u64 (rk :
 Int)])) [Blk.mk BK.exact true [.int .u8 wh,.int .u8 at0,.int .i64 n],Blk.mk BK.exact false [.str a,.str b,.str c,.sl 7 (0+(cellsI xs).length+1) 0 (0+xs.length+1) 1,.sl 4 (0+(trM (t::l)).length) 0 (0+(t::l).length) 3,
 .int .i64 nx,.int .i64 rs,.int .i64 rt,.int .u64 (rk:Int)],Blk.mk BK.exact false [.str a,.str b,.str c,.sl 7 (0+(cellsI xs).length+1) 0 (0+xs.length+1) 1,.sl 4 (0+(trM (t::l)).length) 0 (0+(t::l).length) 3,.int
 .i64 nx,.int .i64 rs,.int .i64 rt,.int .u64 (rk:Int)],Blk.mk BK.exact true [],Blk.mk BK.grow (oldL 0 ([]++trM (t::l))) ([]++trM (t::l)),Blk.mk BK.exact true [],Blk.mk BK.exact true [.int .i64 n],Blk.mk BK.grow (oldL 0 ([]
 ++ cellsI xs)&&true) ([]++cellsI xs++[AV.int .i64 n])] {})))))) else exI .u8 (wh.tmod 11) fun n_8=>bif n_8==4 then Q (.ret (.agg [.str a,.str b,.str c,.lst 0 (cellsI xs) xs.length 1,.sl 4 (0+(trM (t::l)).length) 0 (0+(t
 :: l).length) 3,.int .i64 n,.int .i64 rs,.int .i64 rt,.int .u64 (rk:Int)])) [Blk.mk BK.exact true [.int .u8 wh,.int .u8 at0,.int .i64 n],Blk.mk BK.exact false [.str a,.str b,.str c,.lst 0 (cellsI xs) xs.length 1,.sl 4 (0 +
 (trM (t::l)).length) 0 (0+(t::l).length) 3,.int .i64 n,.int .i64 rs,.int .i64 rt,.int .u64 (rk:Int)],Blk.mk BK.exact false [.str a,.str b,.str c,.lst 0 (cellsI xs) xs.length 1,.sl 4 (0+(trM (t::l)).length) 0 (0+(t ::
 l).length) 3,.int .i64 n,.int .i64 rs,.int .i64 rt,.int .u64 (rk:Int)],Blk.mk BK.exact true [],Blk.mk BK.grow (oldL 0 ([]++trM (t::l))) ([]++trM (t::l))] {} else exI .u8 (wh.tmod 11) fun n_9=>bif n_9==5 then Q (.ret
 (.agg [.str a,.str b,.str c,.lst 0 (cellsI xs) xs.length 1,.sl 4 (0+(trM (t::l)).length) 0 (0+(t::l).length) 3,.int .i64 nx,.int .i64 rs,.int .i64 n,.int .u64 (rk:Int)])) [Blk.mk BK.exact true [.int .u8 wh,.int .u8 at0,
 .int .i64 n],Blk.mk BK.exact false [.str a,.str b,.str c,.lst 0 (cellsI xs) xs.length 1,.sl 4 (0+(trM (t::l)).length) 0 (0+(t::l).length) 3,.int .i64 nx,.int .i64 rs,.int .i64 n,.int .u64 (rk:Int)],Blk.mk BK.exact false
 [.str a,.str b,.str c,.lst 0 (cellsI xs) xs.length 1,.sl 4 (0+(trM (t::l)).length) 0 (0+(t::l).length) 3,.int .i64 nx,.int .i64 rs,.int .i64 n,.int .u64 (rk:Int)],Blk.mk BK.exact true [],Blk.mk BK.grow (oldL 0 ([] ++
 trM (t::l))) ([]++trM (t::l))] {} else exI .u8 (wh.tmod 11) fun n_10=>bif n_10==6 then exW .u64 n fun n_11=>Q (.ret (.agg [.str a,.str b,.str c,.lst 0 (cellsI xs) xs.length 1,.sl 4 (0+(trM (t::l)).length) 0 (0+(t ::
 l).length) 3,.int .i64 nx,.int .i64 rs,.int .i64 rt,.int .u64 n_11])) [Blk.mk BK.exact true [.int .u8 wh,.int .u8 at0,.int .i64 n],Blk.mk BK.exact false [.str a,.str b,.str c,.lst 0 (cellsI xs) xs.length 1,.sl 4 (0+(trM (t ::
 l)).length) 0 (0+(t::l).length) 3,.int .i64 nx,.int .i64 rs,.int .i64 rt,.int .u64 n_11],Blk.mk BK.exact false [.str a,.str b,.str c,.lst 0 (cellsI xs) xs.length 1,.sl 4 (0+(trM (t::l)).length) 0 (0+(t::l).length) 3,
 .int .i64 nx,.int .i64 rs,.int .i64 rt,.int .u64 n_11],Blk.mk BK.exact true [],Blk.mk BK.grow (oldL 0 ([]++trM (t::l))) ([]++trM (t::l))] {} else exI .u8 (wh.tmod 11) fun n_11=>bif n_11==7 then ((∃x_12:Nat,Lf (x_12 =
 0)∧eqqQ [AV.int .u8 wh,.int .u8 at0,.int .i64 n]∧[AV.str a,.str b,.str c,.lst 0 (cellsI xs) xs.length 1,.sl 4 (0+(trM (t::l)).length) 0 (0+(t::l).length) 3,.int .i64 nx,.int .i64 rs,.int .i64 rt,.int .u64 (rk:Int)]
 = [AV.str a,.str b,.str c,.lst 0 (cellsI xs) xs.length 1,.sl 3 0 0 0 3,.int .i64 nx,.int .i64 rs,.int .i64 rt,.int .u64 (rk:Int)]∧vc_p50b_1)∨∃x_12:List Tr,Lf (0<x_12.length∧x_12.length≤l.length+1+17∧trOk x_12)
 ∧ eqqQ [AV.int .u8 wh,.int .u8 at0,.int .i64 n]∧[AV.str a,.str b,.str c,.lst 0 (cellsI xs) xs.length 1,.sl 4 (0+(trM (t::l)).length) 0 (0+(t::l).length) 3,.int .i64 nx,.int .i64 rs,.int .i64 rt,.int .u64 (rk:Int)] =
 [AV.str a,.str b,.str c,.lst 0 (cellsI xs) xs.length 1,.sl 4 (x_12.length*3) 0 x_12.length 3,.int .i64 nx,.int .i64 rs,.int .i64 rt,.int .u64 (rk:Int)]∧eqqQ [AV.str [],.str [],.str [],.nils,.nils,.int .i64 0,.int .i64
 0,.int .i64 0,.int .u64 0]∧([]:List AV)=[]∧ckQ (oldL 0 ([]++trM (t::l))==true) ([]++trM (t::l)=trM x_12∧eqqQ (AV.ptr 1 9 0)∧eqqQ (AV.ptr 0 3 0)∧eqqQ (AV.ptr 2 9 0)∧True))∧(∀x_12:Nat,Lf (x_12=0)→exI
 .i64 0 fun n_13=>exI .u8 (at0.tmod 3) fun n_14=>exW .i64 n_14 fun n_15=>exW .i64 (15+n_15) fun n_16=>bif decide (n_13<n_16) then exI .i64 0 fun n_17=>exW .i64 (100+n_17) fun n_18=>(True∧(0:Nat)=(0:Nat))∧((∃y_19
 : Nat,Lf (y_19=0)∧(1000:Nat)<(1000:Nat)∧eqqQ [AV.int .u8 wh,.int .u8 at0,.int .i64 n]∧[AV.str a,.str b,.str c,.lst 0 (cellsI xs) xs.length 1,.sl 4 3 0 1 3,.int .i64 nx,.int .i64 rs,.int .i64 rt,.int .u64 (rk :
 Int)]=[AV.str a,.str b,.str c,.lst 0 (cellsI xs) xs.length 1,.sl 3 0 0 0 3,.int .i64 nx,.int .i64 rs,.int .i64 rt,.int .u64 (rk:Int)]∧vc_p50b_1)∨∃y_19:List Tr,Lf (0<y_19.length∧y_19.length≤l.length+1+17∧trOk
 y_19)∧1000-y_19.length<1000∧eqqQ [AV.int .u8 wh,.int .u8 at0,.int .i64 n]∧[AV.str a,.str b,.str c,.lst 0 (cellsI xs) xs.length 1,.sl 4 3 0 1 3,.int .i64 nx,.int .i64 rs,.int .i64 rt,.int .u64 (rk:Int)]=[AV.str a,
 .str b,.str c,.lst 0 (cellsI xs) xs.length 1,.sl 4 (y_19.length*3) 0 y_19.length 3,.int .i64 nx,.int .i64 rs,.int .i64 rt,.int .u64 (rk:Int)]∧eqqQ [AV.str [],.str [],.str [],.nils,.nils,.int .i64 0,.int .i64 0,.int .i64
 0,.int .u64 0]∧([]:List AV)=[]∧[AV.int .i64 n_18,.int .i64 5,.int .u64 1]=trM y_19∧eqqQ (AV.ptr 1 9 0)∧eqqQ (AV.ptr 0 3 0)∧eqqQ (AV.ptr 2 9 0)∧True) else Q (.ret (.agg [.str a,.str b,.str c,.lst 0 (cellsI xs)
 xs.length 1,.sl 3 0 0 0 3,.int .i64 nx,.int .i64 rs,.int .i64 rt,.int .u64 (rk:Int)])) [Blk.mk BK.exact true [.int .u8 wh,.int .u8 at0,.int .i64 n],Blk.mk BK.exact false [.str a,.str b,.str c,.lst 0 (cellsI xs) xs.length 1,
 .sl 3 0 0 0 3,.int .i64 nx,.int .i64 rs,.int .i64 rt,.int .u64 (rk:Int)],Blk.mk BK.exact false [.str a,.str b,.str c,.lst 0 (cellsI xs) xs.length 1,.sl 3 0 0 0 3,.int .i64 nx,.int .i64 rs,.int .i64 rt,.int .u64 (rk:Int)],
 Blk.mk BK.exact true []] {})∧∀x_12:List Tr,Lf (0<x_12.length∧x_12.length≤l.length+1+17∧trOk x_12)→ckQ (Nat.beq (trM x_12).length (x_12.length*3)) (exI .i64 (x_12.length:Int) fun n_13=>exI .u8 (at0.tmod 3) fun n_14
 => exW .i64 n_14 fun n_15=>exW .i64 (15+n_15) fun n_16=>bif decide (n_13<n_16) then ckQ (Nat.beq (trM x_12).length (x_12.length*3)) (exI .i64 (x_12.length:Int) fun n_17=>exW .i64 (100+n_17) fun n_18=>ckQ (Nat.beq (trM
 x_12).length (x_12.length*3)&&true&&Nat.beq (0+x_12.length*3) (x_12.length*3)&&Nat.ble (x_12.length+1) 1099511627776&&Nat.ble ((x_12.length+1)*24) 1099511627776) ((True∧(0:Nat)=(0:Nat))∧((∃y_19:Nat,Lf
 (y_19=0)∧1000<1000-x_12.length∧eqqQ [AV.int .u8 wh,.int .u8 at0,.int .i64 n]∧[AV.str a,.str b,.str c,.lst 0 (cellsI xs) xs.length 1,.sl 4 (x_12.length*3+3) 0 (x_12.length+1) 3,.int .i64 nx,.int .i64 rs,.int .i64
 rt,.int .u64 (rk:Int)]=[AV.str a,.str b,.str c,.lst 0 (cellsI xs) xs.length 1,.sl 3 0 0 0 3,.int .i64 nx,.int .i64 rs,.int .i64 rt,.int .u64 (rk:Int)]∧vc_p50b_1)∨∃y_19:List Tr,Lf (0<y_19.length∧y_19.length ≤
 l.length+1+17∧trOk y_19)∧1000-y_19.length<1000-x_12.length∧eqqQ [AV.int .u8 wh,.int .u8 at0,.int .i64 n]∧[AV.str a,.str b,.str c,.lst 0 (cellsI xs) xs.length 1,.sl 4 (x_12.length*3+3) 0 (x_12.length+1) 3,.int
 .i64 nx,.int .i64 rs,.int .i64 rt,.int .u64 (rk:Int)]=[AV.str a,.str b,.str c,.lst 0 (cellsI xs) xs.length 1,.sl 4 (y_19.length*3) 0 y_19.length 3,.int .i64 nx,.int .i64 rs,.int .i64 rt,.int .u64 (rk:Int)]∧eqqQ [AV.str
 [],.str [],.str [],.nils,.nils,.int .i64 0,.int .i64 0,.int .i64 0,.int .u64 0]∧([]:List AV)=[]∧trM x_12++[AV.int .i64 n_18,.int .i64 5,.int .u64 1]=trM y_19∧eqqQ (AV.ptr 1 9 0)∧eqqQ (AV.ptr 0 3 0)∧eqqQ (AV.ptr
 2 9 0)∧True))) else Q (.ret (.agg [.str a,.str b,.str c,.lst 0 (cellsI xs) xs.length 1,.sl 4 (x_12.length*3) 0 x_12.length 3,.int .i64 nx,.int .i64 rs,.int .i64 rt,.int .u64 (rk:Int)])) [Blk.mk BK.exact true [.int .u8 wh,
 .int .u8 at0,.int .i64 n],Blk.mk BK.exact false [.str a,.str b,.str c,.lst 0 (cellsI xs) xs.length 1,.sl 4 (x_12.length*3) 0 x_12.length 3,.int .i64 nx,.int .i64 rs,.int .i64 rt,.int .u64 (rk:Int)],Blk.mk BK.exact false
 [.str a,.str b,.str c,.lst 0 (cellsI xs) xs.length 1,.sl 4 (x_12.length*3) 0 x_12.length 3,.int .i64 nx,.int .i64 rs,.int .i64 rt,.int .u64 (rk:Int)],Blk.mk BK.exact true [],Blk.mk BK.grow true (trM x_12)] {}) else ckQ
 (Nat.beq ([]++trM (t::l)).length (0+(trM (t::l)).length)) (exI .i64 ((0+(t::l).length:Nat):Int) fun n_12=>AV.bool (n_12==0)=AV.bool false∧exI .u8 (wh.tmod 11) fun n_13=>bif n_13==8 then ckQ (decide (0≤n_3) &&
 Nat.blt n_3.toNat (0+(t::l).length)&&Nat.beq ([]++trM (t::l)).length (0+(trM (t::l)).length)&&true) (ckQ (Nat.beq ([]++trM (t::l)).length (0+(trM (t::l)).length)) (ckQ (Nat.beq ([]++trM (t::l)).length (0+(trM
 (t::l)).length)&&Nat.ble (0+n_3.toNat*3+1+1) (0+(trM (t::l)).length)&&true&&true&&true) (Q (.ret (.agg [.str a,.str b,.str c,.lst 0 (cellsI xs) xs.length 1,.sl 4 (0+(trM (t::l)).length) 0 (0+(t::l).length)
 3,.int .i64 nx,.int .i64 rs,.int .i64 rt,.int .u64 (rk:Int)])) [Blk.mk BK.exact true [.int .u8 wh,.int .u8 at0,.int .i64 n],Blk.mk BK.exact false [.str a,.str b,.str c,.lst 0 (cellsI xs) xs.length 1,.sl 4 (0+(trM (t ::
 l)).length) 0 (0+(t::l).length) 3,.int .i64 nx,.int .i64 rs,.int .i64 rt,.int .u64 (rk:Int)],Blk.mk BK.exact false [.str a,.str b,.str c,.lst 0 (cellsI xs) xs.length 1,.sl 4 (0+(trM (t::l)).length) 0 (0+(t ::
 l).length) 3,.int .i64 nx,.int .i64 rs,.int .i64 rt,.int .u64 (rk:Int)],Blk.mk BK.exact true [],Blk.mk BK.grow (oldL 0 ([]++trM (t::l))&&true) (setRange ([]++trM (t::l)) (0+n_3.toNat*3+1) [.int .i64 n])] {}))) else
 exI .u8 (wh.tmod 11) fun n_14=>bif n_14==9 then exW .u64 n fun n_15=>ckQ (decide (0≤n_3)&&Nat.blt n_3.toNat (0+(t::l).length)&&Nat.beq ([]++trM (t::l)).length (0+(trM (t::l)).length)&&true) (ckQ (Nat.beq ([] ++
 trM (t::l)).length (0+(trM (t::l)).length)) (ckQ (Nat.beq ([]++trM (t::l)).length (0+(trM (t::l)).length)&&Nat.ble (0+n_3.toNat*3+2+1) (0+(trM (t::l)).length)&&true&&true&&true) (Q (.ret (.agg [.str a,
 .str b,.str c,.lst 0 (cellsI xs) xs.length 1,.sl 4 (0+(trM (t::l)).length) 0 (0+(t::l).length) 3,.int .i64 nx,.int .i64 rs,.int .i64 rt,.int .u64 (rk:Int)])) [Blk.mk BK.exact true [.int .u8 wh,.int .u8 at0,.int .i64 n],
 Blk.mk BK.exact false [.str a,.str b,.str c,.lst 0 (cellsI xs) xs.length 1,.sl 4 (0+(trM (t::l)).length) 0 (0+(t::l).length) 3,.int .i64 nx,.int .i64 rs,.int .i64 rt,.int .u64 (rk:Int)],Blk.mk BK.exact false [.str a,
 .str b,.str c,.lst 0 (cellsI xs) xs.length 1,.sl 4 (0+(trM (t::l)).length) 0 (0+(t::l).length) 3,.int .i64 nx,.int .i64 rs,.int .i64 rt,.int .u64 (rk:Int)],Blk.mk BK.exact true [],Blk.mk BK.grow (oldL 0 ([]++trM (t ::
 l))&&true) (setRange ([]++trM (t::l)) (0+n_3.toNat*3+2) [.int .u64 n_15])] {}))) else ckQ (decide (0≤n_3)&&Nat.blt n_3.toNat (0+(t::l).length)&&Nat.beq ([]++trM (t::l)).length (0+(trM (t::l)).length)&&true)
 (ckQ (Nat.beq ([]++trM (t::l)).length (0+(trM (t::l)).length)) (ckQ (Nat.beq ([]++trM (t::l)).length (0+(trM (t::l)).length)&&Nat.ble (0+n_3.toNat*3+0+1) (0+(trM (t::l)).length)&&true&&true&&true) (Q
 (.ret (.agg [.str a,.str b,.str c,.lst 0 (cellsI xs) xs.length 1,.sl 4 (0+(trM (t::l)).length) 0 (0+(t::l).length) 3,.int .i64 nx,.int .i64 rs,.int .i64 rt,.int .u64 (rk:Int)])) [Blk.mk BK.exact true [.int .u8 wh,.int
 .u8 at0,.int .i64 n],Blk.mk BK.exact false [.str a,.str b,.str c,.lst 0 (cellsI xs) xs.length 1,.sl 4 (0+(trM (t::l)).length) 0 (0+(t::l).length) 3,.int .i64 nx,.int .i64 rs,.int .i64 rt,.int .u64 (rk:Int)],Blk.mk
 BK.exact false [.str a,.str b,.str c,.lst 0 (cellsI xs) xs.length 1,.sl 4 (0+(trM (t::l)).length) 0 (0+(t::l).length) 3,.int .i64 nx,.int .i64 rs,.int .i64 rt,.int .u64 (rk:Int)],Blk.mk BK.exact true [],Blk.mk BK.grow
 (oldL 0 ([]++trM (t::l))&&true) (setRange ([]++trM (t::l)) (0+n_3.toNat*3+0) [.int .i64 n])] {})))))))))):=by kernel_rfl

def okTS (N:Nat) (H:List Blk) (v:AV):Prop:=∃l':List Tr,nlV 3 (frzV 0 H 8 v)=.lst 0 (trM l') l'.length 3∧l'.length≤N+17∧trOk l'
def okXS (N:Nat) (H:List Blk) (v:AV):Prop:=∃xs':List Int,nlV 1 (frzV 0 H 8 v)=.lst 0 (cellsI xs') xs'.length 1∧xs'.length≤N+1
theorem okT_sl {N id tot n:Nat} {H:List Blk} {bk:Blk} {l':List Tr} (g1:H[id]? = some bk) (g2:bk.cs=trM l') (g3:bk.cs.length=tot) (g4:n=l'.length) (g5:bk.k≠.ro) (g6:l'.length≤N+17) (g7:trOk l'):okTS N H (.sl id tot 0 n 3):=by
 have hln:=tr_len l'
 refine ⟨l', ?_,g6,g7⟩
 rw[frz_sl5 (d:=6) g1 g3 (by rw[←g3,g2,hln];omega) g5 (by rw[g2,List.drop_zero,List.take_of_length_le (by rw[hln];omega)]) (pl_T5 l'),g4];rfl
theorem okX_sl {N id tot n:Nat} {H:List Blk} {bk:Blk} {l':List Int} (g1:H[id]? = some bk) (g2:bk.cs=cellsI l') (g3:bk.cs.length=tot) (g4:n=l'.length) (g5:bk.k≠.ro) (g6:l'.length≤N+1):okXS N H (.sl id tot 0 n 1):=by
 have hln:=cellsI_len l'
 refine ⟨l', ?_,g6⟩
 rw[frz_sl5 (d:=6) g1 g3 (by rw[←g3,g2,hln];omega) g5 (by rw[g2,List.drop_zero,List.take_of_length_le (by rw[hln];omega)]) (pl_I5 l'),g4];rfl
theorem okX_lst (H:List Blk) (xs:List Int):okXS xs.length H (.lst 0 (cellsI xs) xs.length 1):=⟨xs,rfl,by omega⟩
theorem setR_succ (a b c:AV) (cs:List AV) (i k:Nat) (vs:List AV):setRange (a::b::c::cs) ((i+1)*3+k) vs=a::b::c::setRange cs (i*3+k) vs:=by
 unfold setRange
 rw[show (i+1)*3+k=(i*3+k)+1+1+1 by omega]
 simp only[List.take_succ_cons,List.cons_append]
 rw[show i*3+k+1+1+1+vs.length=(i*3+k+vs.length)+1+1+1 by omega]
 simp only[List.drop_succ_cons]
theorem trM_set0 (n:Int):∀ (l:List Tr) (i:Nat) (h:i<l.length),setRange (trM l) (i*3+0) [.int .i64 n]=trM (l.set i (n,l[i].2.1,l[i].2.2))
 | [],i,h=>by simp at h
 | t::l,0,_=>rfl
 | t::l,i+1,h=>by rw[trM,setR_succ,trM_set0 n l i (by simpa using h)];rfl
theorem trM_set1 (n:Int):∀ (l:List Tr) (i:Nat) (h:i<l.length),setRange (trM l) (i*3+1) [.int .i64 n]=trM (l.set i (l[i].1,n,l[i].2.2))
 | [],i,h=>by simp at h
 | t::l,0,_=>rfl
 | t::l,i+1,h=>by rw[trM,setR_succ,trM_set1 n l i (by simpa using h)];rfl
theorem trM_set2 (n:Nat):∀ (l:List Tr) (i:Nat) (h:i<l.length),setRange (trM l) (i*3+2) [.int .u64 (n:Nat)]=trM (l.set i (l[i].1,l[i].2.1,n))
 | [],i,h=>by simp at h
 | t::l,0,_=>rfl
 | t::l,i+1,h=>by rw[trM,setR_succ,trM_set2 n l i (by simpa using h)];rfl
theorem trOk_app {l:List Tr} (h:trOk l) (c:Int):trOk (l++[(c,5,1)]):=fun t ht=>by
 rw[List.mem_append,List.mem_singleton] at ht
 rcases ht with ht | rfl
 ·exact h t ht
 ·exact ⟨by simp,by simp⟩
theorem trOk_set {l:List Tr} (h:trOk l) {i:Nat} {x:Tr} (hx:(-9223372036854775808≤x.2.1∧x.2.1≤9223372036854775807)∧x.2.2<18446744073709551616):trOk (l.set i x):=fun t ht=>by
 rcases List.mem_or_eq_of_mem_set ht with h' | rfl
 ·exact h t h'
 ·exact hx
abbrev BendQ (wh at0 n:Int) (a b c:List UInt8) (xs:List Int) (N:Nat) (nx rs rt:Int) (rk:Nat) (Q:Out→List Blk→Gh→Prop):Prop:=
 ∀ (a' b' c':List UInt8) (v3 v4:AV) (H:List Blk) (nx' rt':Int) (rk':Nat),okXS xs.length H v3→okTS N H v4→(-9223372036854775808≤rt'∧rt'≤9223372036854775807)→rk'<18446744073709551616 →
  Q (.ret (.agg [.str a',.str b',.str c',v3,v4,.int .i64 nx',.int .i64 rs,.int .i64 rt',.int .u64 (rk':Nat)])) H {}
theorem bendA_run (wh at0 n:Int) (a b c:List UInt8) (xs:List Int) (nx rs rt:Int) (rk:Nat) (hw:0≤wh∧wh≤255) (ha:0≤at0∧at0≤255) (hn : -9223372036854775808≤n∧n≤9223372036854775807) (hx:xs.length≤1000) (ht : -9223372036854775808≤rt∧rt≤9223372036854775807) (hk:rk<18446744073709551616) (Q:Out→List Blk→Gh→Prop)
  (hq:BendQ wh at0 n a b c xs 0 nx rs rt rk Q):∃hv hb,goal_p50a hv hb wh at0 n a b c xs nx rs rt rk Q:=by
 obtain ⟨hv,hb',e⟩:∃hv hb,goal_p50a hv hb wh at0 n a b c xs nx rs rt rk Q=_:=⟨_,_,vc_p50a wh at0 n a b c xs nx rs rt rk Q⟩
 refine ⟨hv,hb',e.mpr ?_⟩
 clear e
 have hcl:=cellsI_len xs
 obtain ⟨f1,f2,f3⟩:=fl_I5 xs
 have em:∀k:Int,0<k→Int.tmod at0 k=at0%k:=fun k _=>Int.tmod_eq_emod_of_nonneg ha.1
 have hk':((rk:Nat):Int)%18446744073709551616=(rk:Int):=by omega
 have t0:∀ {H:List Blk} {bk:Blk},H[3]? = some bk→bk.cs=[]→bk.k≠.ro→okTS 0 H (.sl 3 0 0 0 3):=fun g1 g2 g3=>okT_sl (l':=[]) g1 g2 (by rw[g2];rfl) rfl g3 (by simp) (fun _ h=>by simp at h)
 refine ⟨rfl,_,rfl,splitE (fun _=>wrapI (by omega) (by omega) ⟨_,congrArg _ (em 40 (by omega)),⟨by omega,by omega,by simp⟩,fun t _=>hq _ _ _ _ _ _ _ _ _ (okX_lst _ xs) (t0 rfl rfl (by simp)) ht hk⟩) (fun _=>⟨_,rfl,splitE (fun _=>wrapI (by omega) (by omega) ⟨_,congrArg _ (em 20 (by omega)),⟨by omega,by omega,by simp⟩,fun t _=>hq _ _ _ _ _ _ _ _ _ (okX_lst _ xs) (t0 rfl rfl (by simp)) ht hk⟩) (fun _=>⟨_,rfl,splitE (fun _=>wrapI (by omega) (by omega) ⟨_,congrArg _ (em 40 (by omega)),⟨by omega,by omega,by simp⟩,fun t _=>hq _ _ _ _ _ _ _ _ _ (okX_lst _ xs) (t0 rfl rfl (by simp)) ht hk⟩) (fun _=>⟨_,rfl,splitE (fun _ => ?_) (fun _=>⟨_,rfl,splitE (fun _=>hq _ _ _ _ _ _ _ _ _ (okX_lst _ xs) (t0 rfl rfl (by simp)) ht hk) (fun _=>⟨_,rfl,splitE (fun _=>hq _ _ _ _ _ _ _ _ _ (okX_lst _ xs) (t0 rfl rfl (by simp)) hn hk) (fun _=>⟨_,rfl,splitE (fun _=>hidU fun k hk=>hq _ _ _ _ _ _ _ _ _ (okX_lst _ xs) (t0 rfl rfl (by simp)) ht hk) (fun _=>⟨_,rfl,splitE (fun _ => ?_) (fun _ => ?_)⟩)⟩)⟩)⟩)⟩)⟩)⟩)⟩
 ·refine ckI (by rw[f3];simp[hcl,nbeq];omega) (splitI (fun h => ?_) (fun h => ?_))
  ·have hn0:xs=[]:=List.eq_nil_of_length_eq_zero (by rwa [nbeq] at h)
   subst hn0
   exact ckI rfl (ckE (ckF (hq _ _ _ _ _ _ _ _ _ (okX_sl (l':=[n]) rfl rfl rfl rfl (by simp) (by simp)) (t0 rfl rfl (by simp)) ht hk)))
  ·have hn0:xs.length≠0:=fun h'=>by rw[h'] at h;cases h
   exact ckI (blt_t (by omega)) (ckI (by simp;omega) (ckE (ckF (ckI (by simp[nbeq,hcl];omega) (hq _ _ _ _ _ _ _ _ _ (okX_sl (l':=xs++[n]) rfl (by rw[List.nil_append,cI_snoc]) (by simp) (by simp) (by simp) (by simp)) (t0 rfl rfl (by simp)) ht hk)))))
 ·have e3:=em 3 (by omega)
  refine ⟨.inl ⟨0,⟨rfl⟩,rfl,rfl,rfl,rfl,rfl,rfl,rfl,trivial⟩, ?_, ?_⟩
  ·rintro x ⟨rfl⟩
   refine ⟨_,rfl,_,congrArg _ e3,wrapI (by omega) (by omega) (wrapI (by omega) (by omega) (splitD (fun _=>⟨_,rfl,wrapI (by omega) (by omega) ⟨⟨trivial,rfl⟩,.inr ⟨[(100+0,5,1)],⟨by simp,by simp,trOk_app (l:=[]) (fun _ h=>by simp at h) _⟩,by simp,rfl,rfl,rfl,rfl,rfl,rfl,rfl,rfl,trivial⟩⟩⟩) (fun _=>hq _ _ _ _ _ _ _ _ _ (okX_lst _ xs) (t0 rfl rfl (by simp)) ht hk)))⟩
  ·rintro x ⟨g1,g2,g3⟩
   have hln:=tr_len x
   refine ckI (by rw[hln];simp[nbeq]) ⟨_,rfl,⟨_,congrArg _ e3,wrapI (by omega) (by omega) (wrapI (by omega) (by omega) (splitD (fun _ => ?_) (fun _=>hq _ _ _ _ _ _ _ _ _ (okX_lst _ xs) (okT_sl rfl rfl hln rfl (by simp) g2 g3) ht hk)))⟩⟩
   refine ckI (by rw[hln];simp[nbeq]) ⟨_,rfl,wrapI (by omega) (by omega) (ckI (by rw[hln];simp[nbeq];omega) ⟨⟨trivial,rfl⟩,.inr ⟨x++[(100+(x.length:Int),5,1)],⟨by simp,by simp;omega,trOk_app g3 _⟩,by simp;omega,rfl, ?_,rfl,rfl, ?_,rfl,rfl,rfl,trivial⟩⟩)⟩
   ·simp;omega
   ·rw[trM_app];rfl
 ·exact ⟨rfl,hq _ _ _ _ _ _ _ _ _ (okX_lst _ xs) (t0 rfl rfl (by simp)) ht hk⟩
theorem bendB_run (wh at0 n:Int) (a b c:List UInt8) (xs:List Int) (t:Tr) (l:List Tr) (nx rs rt:Int) (rk:Nat) (hw:0≤wh∧wh≤255) (ha:0≤at0∧at0≤255) (hn : -9223372036854775808≤n∧n≤9223372036854775807) (hx:xs.length≤1000) (hl:l.length≤100) (htl:trOk (t::l)) (ht : -9223372036854775808≤rt∧rt≤9223372036854775807) (hk:rk<18446744073709551616) (Q:Out→List Blk→Gh→Prop)
  (hq:BendQ wh at0 n a b c xs (l.length+1) nx rs rt rk Q):∃hv hb,goal_p50b hv hb wh at0 n a b c xs t l nx rs rt rk Q:=by
 obtain ⟨hv,hb',e⟩:∃hv hb,goal_p50b hv hb wh at0 n a b c xs t l nx rs rt rk Q=_:=⟨_,_,vc_p50b wh at0 n a b c xs t l nx rs rt rk Q⟩
 refine ⟨hv,hb',e.mpr ?_⟩
 clear e
 have hLl:(t::l).length=l.length+1:=rfl
 generalize t::l=L at *
 have hcl:=cellsI_len xs
 have hLn:=tr_len L
 obtain ⟨f1,f2,f3⟩:=fl_I5 xs
 obtain ⟨h1,h2,h3⟩:=fl_T5 L
 have em:∀k:Int,0<k→Int.tmod at0 k=at0%k:=fun k _=>Int.tmod_eq_emod_of_nonneg ha.1
 obtain ⟨j,hj,ej⟩:∃j:Nat,j<L.length∧Int.tmod at0 (((0+L.length:Nat)):Int)=(j:Int):=by
  obtain ⟨a0,rfl⟩:=Int.eq_ofNat_of_zero_le ha.1
  exact ⟨a0%L.length,Nat.mod_lt _ (by omega),by rw[Nat.zero_add];rfl⟩
 have t4:∀ {H:List Blk} {bk:Blk} {tot n:Nat},H[4]? = some bk→bk.cs=trM L→bk.cs.length=tot→n=L.length→bk.k≠.ro→okTS (l.length+1) H (.sl 4 tot 0 n 3):=fun g1 g2 g3 g4 g5=>okT_sl (l':=L) g1 g2 g3 g4 g5 (by omega) htl
 refine ckI (by rw[h3];simp[hLn,nbeq];omega) (ckI (by simp;omega) (ckI (by simp[nbeq]) ⟨_,rfl,congrArg AV.bool (decide_eq_true (by omega)),wrapI (by omega) (by omega) (ckI (by simp[nbeq]) ⟨_,rfl,ckI (by rw[Bool.and_true,bne_iff_ne];omega) ⟨_,congrArg _ ej,_,rfl,splitE (fun _=>wrapI (by omega) (by omega) ⟨_,congrArg _ (em 40 (by omega)),⟨by omega,by omega,by simp⟩,fun s _=>hq _ _ _ _ _ _ _ _ _ (okX_lst _ xs) (t4 rfl rfl (by simp) (by simp) (by simp)) ht hk⟩) (fun _=>⟨_,rfl,splitE (fun _=>wrapI (by omega) (by omega) ⟨_,congrArg _ (em 20 (by omega)),⟨by omega,by omega,by simp⟩,fun s _=>hq _ _ _ _ _ _ _ _ _ (okX_lst _ xs) (t4 rfl rfl (by simp) (by simp) (by simp)) ht hk⟩) (fun _=>⟨_,rfl,splitE (fun _=>wrapI (by omega) (by omega) ⟨_,congrArg _ (em 40 (by omega)),⟨by omega,by omega,by simp⟩,fun s _=>hq _ _ _ _ _ _ _ _ _ (okX_lst _ xs) (t4 rfl rfl (by simp) (by simp) (by simp)) ht hk⟩) (fun _=>⟨_,rfl,splitE (fun _ => ?_) (fun _=>⟨_,rfl,splitE (fun _=>hq _ _ _ _ _ _ _ _ _ (okX_lst _ xs) (t4 rfl rfl (by simp) (by simp) (by simp)) ht hk) (fun _=>⟨_,rfl,splitE (fun _=>hq _ _ _ _ _ _ _ _ _ (okX_lst _ xs) (t4 rfl rfl (by simp) (by simp) (by simp)) hn hk) (fun _=>⟨_,rfl,splitE (fun _=>hidU fun k hk=>hq _ _ _ _ _ _ _ _ _ (okX_lst _ xs) (t4 rfl rfl (by simp) (by simp) (by simp)) ht hk) (fun _=>⟨_,rfl,splitE (fun _ => ?_) (fun _ => ?_)⟩)⟩)⟩)⟩)⟩)⟩)⟩)⟩⟩)⟩))
 ·refine ckI (by rw[f3];simp[hcl,nbeq];omega) (splitI (fun h => ?_) (fun h => ?_))
  ·have hn0:xs=[]:=List.eq_nil_of_length_eq_zero (by rwa [nbeq] at h)
   subst hn0
   exact ckI rfl (ckE (ckF (hq _ _ _ _ _ _ _ _ _ (okX_sl (l':=[n]) rfl rfl rfl rfl (by simp) (by simp)) (t4 rfl rfl (by simp) (by simp) (by simp)) ht hk)))
  ·have hn0:xs.length≠0:=fun h'=>by rw[h'] at h;cases h
   exact ckI (blt_t (by omega)) (ckI (by simp;omega) (ckE (ckF (ckI (by simp[nbeq,hcl];omega) (hq _ _ _ _ _ _ _ _ _ (okX_sl (l':=xs++[n]) rfl (by rw[List.nil_append,cI_snoc]) (by simp) (by simp) (by simp) (by simp)) (t4 rfl rfl (by simp) (by simp) (by simp)) ht hk)))))
 ·have e3:=em 3 (by omega)
  refine ⟨.inr ⟨L,⟨by omega,by omega,htl⟩,rfl,by simp[hLn],rfl,rfl,ckI (by simp[h1]) ⟨rfl,rfl,rfl,rfl,trivial⟩⟩, ?_, ?_⟩
  ·rintro x ⟨rfl⟩
   refine ⟨_,rfl,_,congrArg _ e3,wrapI (by omega) (by omega) (wrapI (by omega) (by omega) (splitD (fun _=>⟨_,rfl,wrapI (by omega) (by omega) ⟨⟨trivial,rfl⟩,.inr ⟨[(100+0,5,1)],⟨by simp,by simp,trOk_app (l:=[]) (fun _ h=>by simp at h) _⟩,by simp,rfl,rfl,rfl,rfl,rfl,rfl,rfl,rfl,trivial⟩⟩⟩) (fun _=>hq _ _ _ _ _ _ _ _ _ (okX_lst _ xs) (okT_sl (l':=[]) rfl rfl rfl rfl (by simp) (by simp) (fun _ h=>by simp at h)) ht hk)))⟩
  ·rintro x ⟨g1,g2,g3⟩
   have hln:=tr_len x
   refine ckI (by rw[hln];simp[nbeq]) ⟨_,rfl,⟨_,congrArg _ e3,wrapI (by omega) (by omega) (wrapI (by omega) (by omega) (splitD (fun _ => ?_) (fun _=>hq _ _ _ _ _ _ _ _ _ (okX_lst _ xs) (okT_sl rfl rfl hln rfl (by simp) g2 g3) ht hk)))⟩⟩
   refine ckI (by rw[hln];simp[nbeq]) ⟨_,rfl,wrapI (by omega) (by omega) (ckI (by rw[hln];simp[nbeq];omega) ⟨⟨trivial,rfl⟩,.inr ⟨x++[(100+(x.length:Int),5,1)],⟨by simp,by simp;omega,trOk_app g3 _⟩,by simp;omega,rfl, ?_,rfl,rfl, ?_,rfl,rfl,rfl,trivial⟩⟩)⟩
   ·simp;omega
   ·rw[trM_app];rfl
 ·have st0:setRange ([]++trM L) (0+Int.toNat (j:Int)*3+0) [AV.int .i64 n]=trM (L.set j (n,L[j].2.1,L[j].2.2)):=by rw[List.nil_append,Int.toNat_natCast,Nat.zero_add];exact trM_set0 n L j hj
  have st1:setRange ([]++trM L) (0+Int.toNat (j:Int)*3+1) [AV.int .i64 n]=trM (L.set j (L[j].1,n,L[j].2.2)):=by rw[List.nil_append,Int.toNat_natCast,Nat.zero_add];exact trM_set1 n L j hj
  have st2:∀q:Nat,setRange ([]++trM L) (0+Int.toNat (j:Int)*3+2) [AV.int .u64 (q:Nat)]=trM (L.set j (L[j].1,L[j].2.1,q)):=fun q=>by rw[List.nil_append,Int.toNat_natCast,Nat.zero_add];exact trM_set2 q L j hj
  exact ckI (by simp[nbeq]) ⟨_,rfl,congrArg AV.bool (beq_eq_false_iff_ne.2 (by omega)),_,rfl,splitE (fun _=>ckI (by simp[nbeq];omega) (ckI (by simp[nbeq]) (ckI (by simp[nbeq,hLn];omega) (hq _ _ _ _ _ _ _ _ _ (okX_lst _ xs) (okT_sl (l':=L.set j (L[j].1,n,L[j].2.2)) rfl (st1) (by show (setRange ([]++trM L) (0+Int.toNat (j:Int)*3+1) [AV.int .i64 n]).length=_;rw[st1,tr_len];simp[hLn]) (by simp) (by simp) (by simp;omega) (trOk_set htl ⟨hn,(htl _ (List.getElem_mem hj)).2⟩)) ht hk)))) (fun _=>⟨_,rfl,splitE (fun _=>hidU fun q hq9=>ckI (by simp[nbeq];omega) (ckI (by simp[nbeq]) (ckI (by simp[nbeq,hLn];omega) (hq _ _ _ _ _ _ _ _ _ (okX_lst _ xs) (okT_sl (l':=L.set j (L[j].1,L[j].2.1,q)) rfl (st2 q) (by show (setRange ([]++trM L) (0+Int.toNat (j:Int)*3+2) [AV.int .u64 (q:Nat)]).length=_;rw[st2 q,tr_len];simp[hLn]) (by simp) (by simp) (by simp;omega) (trOk_set htl ⟨(htl _ (List.getElem_mem hj)).1,hq9⟩)) ht hk)))) (fun _=>ckI (by simp[nbeq];omega) (ckI (by simp[nbeq]) (ckI (by simp[nbeq,hLn];omega) (hq _ _ _ _ _ _ _ _ _ (okX_lst _ xs) (okT_sl (l':=L.set j (n,L[j].2.1,L[j].2.2)) rfl (st0) (by show (setRange ([]++trM L) (0+Int.toNat (j:Int)*3+0) [AV.int .i64 n]).length=_;rw[st0,tr_len];simp[hLn]) (by simp) (by simp) (by simp;omega) (trOk_set htl ⟨(htl _ (List.getElem_mem hj)).1,(htl _ (List.getElem_mem hj)).2⟩)) ht hk))))⟩)⟩
def cBendS:Con
 | [.agg [.int .u8 wh,.int .u8 at0,.int .i64 n],.agg [.str a,.str b,.str c,.lst 0 h m 1,.lst 0 tr k 3,.int .i64 nx,.int .i64 rs,.int .i64 rt,.int .u64 u]],H,K=>∃ (xs:List Int) (l:List Tr) (rk:Nat),
   Lf (h=cellsI xs∧m=xs.length∧tr=trM l∧k=l.length∧u=(rk:Int)∧(0≤wh∧wh≤255)∧(0≤at0∧at0≤255)∧(-9223372036854775808≤n∧n≤9223372036854775807)∧xs.length≤1000∧l.length≤100∧trOk l∧(-9223372036854775808≤rt∧rt≤9223372036854775807)∧rk<18446744073709551616) ∧
   ∀ (a b c:List UInt8) (xs':List Int) (t:List Tr) (nx rs rt:Int) (rk:Nat),Lf (xs'.length≤xs.length+1∧t.length≤l.length+17∧trOk t∧(-9223372036854775808≤rt∧rt≤9223372036854775807)∧rk<18446744073709551616)→K (.ret (shV 0 0 a b c xs' t nx rs rt rk)) H
 | _,_,_=>False
theorem bendS_ok:ValidF Tryz.prog gl0 50 cBendS:=valid_frz (enters_of (by kernel_rfl)) gl0_noY 9 shK wk_shK fun args H Q hc=>by
 unfold cBendS at hc
 split at hc
 ·rename_i wh at0 n a b c h m tr k nx rs rt u
  obtain ⟨xs,l,rk,⟨rfl,rfl,rfl,rfl,rfl,h1,h2,h3,h4,h5,h6,h7,h8⟩,hq⟩:=hc
  have fin:BendQ wh at0 n a b c xs l.length nx rs rt rk (fun o H' _=>∃v,o=.ret v∧Q (.ret (shK (frzV 0 H' 9 v))) H):=fun a' b' c' v3 v4 H' nx' rt' rk' g1 g2 g3 g4=>⟨_,rfl,by
   obtain ⟨xs',e1,k1⟩:=g1
   obtain ⟨l',e2,k2,k3⟩:=g2
   have e:shK (frzV 0 H' 9 (.agg [.str a',.str b',.str c',v3,v4,.int .i64 nx',.int .i64 rs,.int .i64 rt',.int .u64 (rk':Nat)]))=.agg [.str a',.str b',.str c',nlV 1 (frzV 0 H' 8 v3),nlV 3 (frzV 0 H' 8 v4),.int .i64 nx',.int .i64 rs,.int .i64 rt',.int .u64 (rk':Nat)]:=rfl
   rw[e,e1,e2]
   exact hq a' b' c' xs' l' nx' rs rt' rk' ⟨k1,k2,k3,g3,g4⟩⟩
  have o1:oldL 2 [AV.agg [.int .u8 wh,.int .u8 at0,.int .i64 n],.agg [.str a,.str b,.str c,.lst 0 (cellsI xs) xs.length 1,.lst 0 (trM l) l.length 3,.int .i64 nx,.int .i64 rs,.int .i64 rt,.int .u64 (rk:Nat)]]=true:=by simp[oldL,old]
  cases l with
  | nil=>
   obtain ⟨hv,hb',h⟩:=bendA_run wh at0 n a b c xs nx rs rt rk h1 h2 h3 h4 h7 h8 _ fin
   exact ⟨by simp[oldL,old],by simp[noYL,noY],_,1000,⟨mixed04,names04,tabA_ok,smBd_ok⟩,rfl,h⟩
  | cons t l=>
   obtain ⟨hv,hb',h⟩:=bendB_run wh at0 n a b c xs t l nx rs rt rk h1 h2 h3 h4 (by simpa using Nat.le_of_succ_le h5) h6 h7 h8 _ fin
   exact ⟨by simp[oldL,old],by simp[noYL,noY],_,1000,⟨mixed04,names04,tabA_ok,smBd_ok⟩,rfl,h⟩
 ·exact hc.elim
end Go.Proofs.YtnhechnaemmdiaaGreatDoor

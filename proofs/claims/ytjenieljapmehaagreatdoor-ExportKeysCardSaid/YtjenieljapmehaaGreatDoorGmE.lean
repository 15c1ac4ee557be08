/-
  Chapter 18: the reference's all, closing, octets, Sum: residuals.
-/
import Derived.Test.YtjenieljapmehaaGreatDoorGmB
import Derived.Test.YtjenieljapmehaaGreatDoorG21DB
import Derived.Test.YtjenieljapmehaaGreatDoorG21Q
import Derived.Test.YtjenieljapmehaaGreatDoorG21G
import Derived.Test.YtjenieljapmehaaGreatDoorGmC
import Derived.Test.YtjenieljapmehaaGreatDoorG21CC
set_option linter.unusedSimpArgs false
set_option linter.unusedVariables false
set_option linter.unusedSectionVars false
namespace Go.Proofs.YtjenieljapmehaaGreatDoor
open Go.RowKit
set_option maxRecDepth 1000000

def cMixed:Con
 | [.agg [.lst 0 sc 8 1,.lst 0 kc 64 1],.lst 0 hs 8 1,.str b],H,K=>∃v:W8,Lf (sc=cells6M startM∧kc=cells6M kkM∧hs=cel6 v∧okW8 v∧b.length=64)∧∀u:W8,Lf (u=hashM kkM v b)→K (.ret (.lst 0 (cel6 u) 8 1)) H
 | _,_,_=>False
def cAll:Con
 | [.agg [.lst 0 sc 8 1,.lst 0 kc 64 1],.lst 0 hs 8 1,.str s],H,K=>∃v:W8,Lf (sc=cells6M startM∧kc=cells6M kkM∧hs=cel6 v∧okW8 v∧s.length≤1000000)∧∀u:W8,Lf (u=mixM kkM (s.length/64) v s)→K (.ret (.lst 0 (cel6 u) 8 1)) H
 | _,_,_=>False
def cClosing:Con
 | [.str t,.int .i64 n],H,K=>Lf (t.length≤63∧0≤n∧n≤1000000000)∧∀x,Lf (x=padM t n.toNat)→K (.ret (.str x)) H
 | _,_,_=>False
def cOcts:Con
 | [.lst 0 hs 8 1],H,K=>∃v:W8,Lf (hs=cel6 v∧okW8 v)∧∀x,Lf (x=octs8 v)→K (.ret (.str x)) H
 | _,_,_=>False
def smAl:SM:=lookS [(147,cMixed)]
def inv_85 (v0:W8) (b:List UInt8) (s:S):List (List LInv):=[[
  { α:=Nat×W8,pre:=fun x=>Lf (64*x.1≤b.length∧okW8 x.2∧x.2=mixM kkM x.1 v0 b),st:=fun x=>⟨mkT [(1,.lst 0 (cel6 x.2) 8 1),(2,s.tm.get 2),(3,s.tm.get 3),(7,.int .i64 (64*x.1:Nat))],s.hp⟩,mu:=fun x=>b.length-64*x.1 }]]
noncomputable def env_85 (hv:Nat→Option Pa) (hb:Nat→Option Bool) (v0:W8) (b:List UInt8):Env:=e18 smAl (fun i=>bif Nat.beq i 138000 then some (inv_85 v0 b) else none) hv hb
noncomputable def goal_85 (hv:Nat→Option Pa) (hb:Nat→Option Bool) (v0:W8) (b:List UInt8) (Q:Out→List Blk→Gh→Prop):Prop:=
 callx (env_85 hv hb v0 b) (wpx (env_85 hv hb v0 b) 1000) 138 [.agg [.lst 0 (cells6M startM) 8 1,.lst 0 (cells6M kkM) 64 1],.lst 0 (cel6 v0) 8 1,.str b] [] {} Q
theorem vc_85 (v0:W8) (b:List UInt8) (Q:Out→List Blk→Gh→Prop):goal_85 (lookV [(565256,.int .i64),(565257,.int .i64),(565259,.int .i64),(565266,.int .i64),(565267,.int .i64),(565268,.int .i64),(565269,.str),
 (565261,.int .i64),(565262,.int .i64)]) (lookB []) v0 b Q=((∃x_0:Nat×W8,Lf (64*x_0.1≤b.length∧okW8 x_0.2∧x_0.2=mixM kkM x_0.1 v0 b)∧eqqQ [AV.lst 0 (cells6M startM) 8 1,.lst 0 (cells6M kkM) 64 1]∧AV.lst 0 [.int
 .i64 (v0.1:Int),.int .i64 (v0.2:Int),.int .i64 (v0.3:Int),.int .i64 (v0.4:Int),.int .i64 (v0.5:Int),.int .i64 (v0.6:Int),.int .i64 (v0.7:Int),.int .i64 (v0.8:Int)] 8 1=AV.lst 0 [.int .i64 (x_0.2.1:Int),.int .i64
 (x_0.2.2:Int),.int .i64 (x_0.2.3:Int),.int .i64 (x_0.2.4:Int),.int .i64 (x_0.2.5:Int),.int .i64 (x_0.2.6:Int),.int .i64 (x_0.2.7:Int),.int .i64 (x_0.2.8:Int)] 8 1∧eqqQ (AV.ptr 0 2 0)∧AV.int .i64 0=AV.int .i64 ((64
 * x_0.1:Nat):Int)∧eqqQ (AV.str b)∧True)∧∀x_0:Nat×W8,Lf (64*x_0.1≤b.length∧okW8 x_0.2∧x_0.2=mixM kkM x_0.1 v0 b)→exI .i64 ((64*x_0.1:Nat):Int) fun n_1=>exW .i64 (n_1+64) fun n_2=>exI .i64 (b.length :
 Int) fun n_3=>bif decide (n_2≤n_3) then exI .i64 ((64*x_0.1:Nat):Int) fun n_4=>exI .i64 ((64*x_0.1:Nat):Int) fun n_5=>exW .i64 (n_5+64) fun n_6=>ckQ (decide (0≤n_4)&&decide (0≤n_6)&&Nat.ble n_4.toNat
 n_6.toNat&&Nat.ble n_6.toNat b.length) (exS (.str ((b.drop n_4.toNat).take (n_6.toNat-n_4.toNat))) fun s_7=>∃v_8:W8,Lf (eqqQ (cells6M startM)∧eqqQ (cells6M kkM)∧[AV.int .i64 (x_0.2.1:Int),.int .i64 (x_0.2.2:Int),.int
 .i64 (x_0.2.3:Int),.int .i64 (x_0.2.4:Int),.int .i64 (x_0.2.5:Int),.int .i64 (x_0.2.6:Int),.int .i64 (x_0.2.7:Int),.int .i64 (x_0.2.8:Int)]=[AV.int .i64 (v_8.1:Int),.int .i64 (v_8.2:Int),.int .i64 (v_8.3:Int),
 .int .i64 (v_8.4:Int),.int .i64 (v_8.5:Int),.int .i64 (v_8.6:Int),.int .i64 (v_8.7:Int),.int .i64 (v_8.8:Int)]∧okW8 v_8∧s_7.length=64)∧∀u_9:W8,Lf (u_9=hashM kkM v_8 s_7)→exI .i64 ((64*x_0.1:Nat):Int) fun
 n_10=>exW .i64 (n_10+64) fun n_11=>(True∧(0:Nat)=(0:Nat))∧∃y_12:Nat×W8,Lf (64*y_12.1≤b.length∧okW8 y_12.2∧y_12.2=mixM kkM y_12.1 v0 b)∧b.length-64*y_12.1<b.length-64*x_0.1∧eqqQ [AV.lst 0
 (cells6M startM) 8 1,.lst 0 (cells6M kkM) 64 1]∧AV.lst 0 [.int .i64 (u_9.1:Int),.int .i64 (u_9.2:Int),.int .i64 (u_9.3:Int),.int .i64 (u_9.4:Int),.int .i64 (u_9.5:Int),.int .i64 (u_9.6:Int),.int .i64 (u_9.7:Int),
 .int .i64 (u_9.8:Int)] 8 1=AV.lst 0 [.int .i64 (y_12.2.1:Int),.int .i64 (y_12.2.2:Int),.int .i64 (y_12.2.3:Int),.int .i64 (y_12.2.4:Int),.int .i64 (y_12.2.5:Int),.int .i64 (y_12.2.6:Int),.int .i64 (y_12.2.7:Int),
 .int .i64 (y_12.2.8:Int)] 8 1∧eqqQ (AV.ptr 0 2 0)∧AV.int .i64 n_11=AV.int .i64 ((64*y_12.1:Nat):Int)∧eqqQ (AV.str b)∧True) else Q (.ret (.lst 0 [.int .i64 (x_0.2.1:Int),.int .i64 (x_0.2.2:Int),.int .i64 (x_0.2.3 :
 Int),.int .i64 (x_0.2.4:Int),.int .i64 (x_0.2.5:Int),.int .i64 (x_0.2.6:Int),.int .i64 (x_0.2.7:Int),.int .i64 (x_0.2.8:Int)] 8 1)) [] {}):=by kernel_rfl

def zeroM (t:List UInt8) (k:Nat):List UInt8:=(t++[UInt8.ofNat 128])++List.replicate k 0
def inv_86 (t:List UInt8) (s:S):List (List LInv):=[[
  { α:=Nat,pre:=fun k=>Lf (k≤(119-t.length)%64),st:=fun k=>⟨mkT [(1,s.tm.get 1),(5,.str (zeroM t k))],s.hp⟩,mu:=fun k=>64-k }]]
noncomputable def env_86 (hv:Nat→Option Pa) (hb:Nat→Option Bool) (t:List UInt8):Env:=e18 sm0 (fun i=>bif Nat.beq i 139000 then some (inv_86 t) else none) hv hb
noncomputable def goal_86 (hv:Nat→Option Pa) (hb:Nat→Option Bool) (t:List UInt8) (n:Nat) (Q:Out→List Blk→Gh→Prop):Prop:=
 callx (env_86 hv hb t) (wpx (env_86 hv hb t) 1000) 139 [.str t,.int .i64 (n:Nat)] [] {} Q
theorem vc_86 (t:List UInt8) (n:Nat) (Q:Out→List Blk→Gh→Prop):goal_86 (lookV [(569356,.str),(569357,.str),(569358,.int .i64),(569359,.int .i64),(569361,.str),(569364,.str),(569365,.int .i64),(569366,.int .i64),
 (569372,.int .i64),(569373,.int .u8),(569375,.str),(569377,.str),(569379,.int .i64),(569380,.str),(569382,.str)]) (lookB []) t n Q=(ckQ (decide (t.length+1≤9223372036854775807)&&true) (exS (.str (t++[toB (.int .u8
 128)])) fun s_0=>(∃x_1:Nat,Lf (x_1≤(119-t.length)%64)∧eqqQ [AV.int .u8 128]∧eqqQ (AV.int .i64 (n:Int))∧AV.str s_0=AV.str (zeroM t x_1)∧True)∧∀x_1:Nat,Lf (x_1≤(119-t.length)%64)→exS (.str (zeroM t x_1))
 fun s_2=>exI .i64 (s_2.length:Int) fun n_3=>exI .i64 (n_3.tmod 64) fun n_4=>bif n_4 !=56 then exS (.str (zeroM t x_1)) fun s_5=>ckQ (decide (s_5.length+1≤9223372036854775807)&&true) (exS (.str (s_5++[toB (.int .u8 0)]))
 fun s_6=>(True∧(0:Nat)=(0:Nat))∧∃y_7:Nat,Lf (y_7≤(119-t.length)%64)∧64-y_7<64-x_1∧eqqQ [AV.int .u8 128]∧eqqQ (AV.int .i64 (n:Int))∧AV.str s_6=AV.str (zeroM t y_7)∧True) else exI .i64 (n:Int) fun
 n_5=>exW .i64 (8*n_5) fun n_6=>exI .i64 (n_6.tmod 256) fun n_7=>exW .u8 n_7 fun n_8=>exS (.str [toB (.int .u8 n_8)]) fun s_9=>ckQ (decide (s_9.length+0≤9223372036854775807)&&true) (exS (.str (s_9++[])) fun s_10=>exW
 .i64 (n_6.tdiv 256) fun n_11=>exI .i64 (n_11.tmod 256) fun n_12=>exW .u8 n_12 fun n_13=>exS (.str [toB (.int .u8 n_13)]) fun s_14=>ckQ (decide (s_14.length+s_10.length≤9223372036854775807)&&true) (exS (.str (s_14++s_10))
 fun s_15=>exW .i64 (n_11.tdiv 256) fun n_16=>exI .i64 (n_16.tmod 256) fun n_17=>exW .u8 n_17 fun n_18=>exS (.str [toB (.int .u8 n_18)]) fun s_19=>ckQ (decide (s_19.length+s_15.length≤9223372036854775807)&&true) (exS (.str
 (s_19++s_15)) fun s_20=>exW .i64 (n_16.tdiv 256) fun n_21=>exI .i64 (n_21.tmod 256) fun n_22=>exW .u8 n_22 fun n_23=>exS (.str [toB (.int .u8 n_23)]) fun s_24=>ckQ (decide (s_24.length+s_20.length≤9223372036854775807) &&
 true) (exS (.str (s_24++s_20)) fun s_25=>exW .i64 (n_21.tdiv 256) fun n_26=>exI .i64 (n_26.tmod 256) fun n_27=>exW .u8 n_27 fun n_28=>exS (.str [toB (.int .u8 n_28)]) fun s_29=>ckQ (decide (s_29.length+s_25.length ≤
 9223372036854775807)&&true) (exS (.str (s_29++s_25)) fun s_30=>exW .i64 (n_26.tdiv 256) fun n_31=>exI .i64 (n_31.tmod 256) fun n_32=>exW .u8 n_32 fun n_33=>exS (.str [toB (.int .u8 n_33)]) fun s_34=>ckQ (decide (s_34.length +
 s_30.length≤9223372036854775807)&&true) (exS (.str (s_34++s_30)) fun s_35=>exW .i64 (n_31.tdiv 256) fun n_36=>exI .i64 (n_36.tmod 256) fun n_37=>exW .u8 n_37 fun n_38=>exS (.str [toB (.int .u8 n_38)]) fun s_39=>ckQ (decide
 (s_39.length+s_35.length≤9223372036854775807)&&true) (exS (.str (s_39++s_35)) fun s_40=>exW .i64 (n_36.tdiv 256) fun n_41=>exI .i64 (n_41.tmod 256) fun n_42=>exW .u8 n_42 fun n_43=>exS (.str [toB (.int .u8 n_43)]) fun s_44
 => ckQ (decide (s_44.length+s_40.length≤9223372036854775807)&&true) (exS (.str (s_44++s_40)) fun s_45=>exW .i64 (n_41.tdiv 256) fun n_46=>exS (.str (zeroM t x_1)) fun s_47=>ckQ (decide (s_47.length+s_45.length ≤
 9223372036854775807)&&true) (exS (.str (s_47++s_45)) fun s_48=>Q (.ret (.str s_48)) [] {}))))))))))):=by kernel_rfl

noncomputable def goal_42 (hv:Nat→Option Pa) (hb:Nat→Option Bool) (w:Nat) (Q:Out→List Blk→Gh→Prop):Prop:=
 callx (e18 sm0 (fun _=>none) hv hb) (wpx (e18 sm0 (fun _=>none) hv hb) 1000) 146 [.int .i64 4,.int .i64 (w:Nat)] [] {} Q
theorem vc_42 (w:Nat) (Q:Out→List Blk→Gh→Prop):goal_42 (lookV [(598028,.int .i64),(598029,.int .i64),(598030,.int .u8),(598032,.str),(598034,.str),(598035,.int .i64),(598036,.int .i64)]) (lookB []) w Q=(exI .i64
 (w:Int) fun n_0=>exI .i64 (n_0.tmod 256) fun n_1=>exW .u8 n_1 fun n_2=>exS (.str [toB (.int .u8 n_2)]) fun s_3=>ckQ (decide (s_3.length+0≤9223372036854775807)&&true) (exS (.str (s_3++[])) fun s_4=>exI .i64 (w:Int) fun
 n_5=>exW .i64 (n_5.tdiv 256) fun n_6=>exI .i64 n_6 fun n_7=>exI .i64 (n_7.tmod 256) fun n_8=>exW .u8 n_8 fun n_9=>exS (.str [toB (.int .u8 n_9)]) fun s_10=>ckQ (decide (s_10.length+s_4.length≤9223372036854775807)&&true)
 (exS (.str (s_10++s_4)) fun s_11=>exI .i64 n_6 fun n_12=>exW .i64 (n_12.tdiv 256) fun n_13=>exI .i64 n_13 fun n_14=>exI .i64 (n_14.tmod 256) fun n_15=>exW .u8 n_15 fun n_16=>exS (.str [toB (.int .u8 n_16)]) fun s_17=>ckQ
 (decide (s_17.length+s_11.length≤9223372036854775807)&&true) (exS (.str (s_17++s_11)) fun s_18=>exI .i64 n_13 fun n_19=>exW .i64 (n_19.tdiv 256) fun n_20=>exI .i64 n_20 fun n_21=>exI .i64 (n_21.tmod 256) fun n_22=>exW .u8
 n_22 fun n_23=>exS (.str [toB (.int .u8 n_23)]) fun s_24=>ckQ (decide (s_24.length+s_18.length≤9223372036854775807)&&true) (exS (.str (s_24++s_18)) fun s_25=>exI .i64 n_20 fun n_26=>exW .i64 (n_26.tdiv 256) fun n_27=>Q
 (.ret (.str s_25)) [] {}))))):=by kernel_rfl

def cPut4:Con
 | [.int .i64 n,.int .i64 v],H,K=>Lf (n=4∧0≤v∧v<4294967296)∧∀s,Lf (s=oct4 v.toNat)→K (.ret (.str s)) H
 | _,_,_=>False
def smOc:SM:=lookS [(146,cPut4)]
noncomputable def goal_84 (hv:Nat→Option Pa) (hb:Nat→Option Bool) (v:W8) (Q:Out→List Blk→Gh→Prop):Prop:=
 callx (e18 smOc (fun _=>none) hv hb) (wpx (e18 smOc (fun _=>none) hv hb) 1000) 137 [.lst 0 (cel6 v) 8 1] [] {} Q
theorem vc_84 (v:W8) (Q:Out→List Blk→Gh→Prop):goal_84 (lookV [(561167,.int .i64),(561169,.str)]) (lookB []) v Q=(exI .i64 (v.1:Int) fun n_0=>Lf ((4:Int)=(4:Int)∧0≤n_0∧n_0<4294967296)∧∀s_1:List UInt8,
 Lf (s_1=oct4 n_0.toNat)→ckQ (decide (0+s_1.length≤9223372036854775807)&&true) (exS (.str ([]++s_1)) fun s_2=>exI .i64 (v.2:Int) fun n_3=>Lf ((4:Int)=(4:Int)∧0≤n_3∧n_3<4294967296)∧∀s_4:List UInt8,Lf
 (s_4=oct4 n_3.toNat)→ckQ (decide (s_2.length+s_4.length≤9223372036854775807)&&true) (exS (.str (s_2++s_4)) fun s_5=>exI .i64 (v.3:Int) fun n_6=>Lf ((4:Int)=(4:Int)∧0≤n_6∧n_6<4294967296)∧∀s_7:List UInt8,
 Lf (s_7=oct4 n_6.toNat)→ckQ (decide (s_5.length+s_7.length≤9223372036854775807)&&true) (exS (.str (s_5++s_7)) fun s_8=>exI .i64 (v.4:Int) fun n_9=>Lf ((4:Int)=(4:Int)∧0≤n_9∧n_9<4294967296)∧∀s_10:List
 UInt8,Lf (s_10=oct4 n_9.toNat)→ckQ (decide (s_8.length+s_10.length≤9223372036854775807)&&true) (exS (.str (s_8++s_10)) fun s_11=>exI .i64 (v.5:Int) fun n_12=>Lf ((4:Int)=(4:Int)∧0≤n_12∧n_12<4294967296)∧∀
 s_13:List UInt8,Lf (s_13=oct4 n_12.toNat)→ckQ (decide (s_11.length+s_13.length≤9223372036854775807)&&true) (exS (.str (s_11++s_13)) fun s_14=>exI .i64 (v.6:Int) fun n_15=>Lf ((4:Int)=(4:Int)∧0≤n_15∧n_15 <
 4294967296)∧∀s_16:List UInt8,Lf (s_16=oct4 n_15.toNat)→ckQ (decide (s_14.length+s_16.length≤9223372036854775807)&&true) (exS (.str (s_14++s_16)) fun s_17=>exI .i64 (v.7:Int) fun n_18=>Lf ((4:Int)=(4:Int)∧0 ≤
 n_18∧n_18<4294967296)∧∀s_19:List UInt8,Lf (s_19=oct4 n_18.toNat)→ckQ (decide (s_17.length+s_19.length≤9223372036854775807)&&true) (exS (.str (s_17++s_19)) fun s_20=>exI .i64 (v.8:Int) fun n_21=>Lf ((4:Int) =
 (4:Int)∧0≤n_21∧n_21<4294967296)∧∀s_22:List UInt8,Lf (s_22=oct4 n_21.toNat)→ckQ (decide (s_20.length+s_22.length≤9223372036854775807)&&true) (exS (.str (s_20++s_22)) fun s_23=>Q (.ret (.str s_23)) []
 {}))))))))):=by kernel_rfl

def smSu:SM:=lookS [(137,cOcts),(138,cAll),(139,cClosing)]
noncomputable def goal_58 (hv:Nat→Option Pa) (hb:Nat→Option Bool) (s:List UInt8) (Q:Out→List Blk→Gh→Prop):Prop:=
 callx (e18 smSu (fun _=>none) hv hb) (wpx (e18 smSu (fun _=>none) hv hb) 1000) 112 [.agg [.lst 0 (cells6M startM) 8 1,.lst 0 (cells6M kkM) 64 1],.str s] [] {} Q
theorem vc_58 (s:List UInt8) (Q:Out→List Blk→Gh→Prop):goal_58 (lookV [(458759,.int .i64),(458760,.int .i64),(458761,.int .i64),(458767,.str),(458770,.str),(458772,.int .i64),(458774,.str)]) (lookB []) s Q=(exI
 .i64 (s.length:Int) fun n_0=>exW .i64 (n_0.tdiv 64) fun n_1=>exW .i64 (n_1*64) fun n_2=>ckQ (decide (0≤n_2)&&true&&Nat.ble n_2.toNat s.length) (exS (.str ((s.drop 0).take (n_2.toNat-0))) fun s_3=>ckQ (decide (0≤n_2)
 && true&&Nat.ble n_2.toNat s.length&&Nat.ble s.length s.length) (exS (.str ((s.drop n_2.toNat).take (s.length-n_2.toNat))) fun s_4=>exI .i64 (s.length:Int) fun n_5=>Lf (s_4.length≤63∧0≤n_5∧n_5≤1000000000)∧∀x_6 :
 List UInt8,Lf (x_6=padM s_4 n_5.toNat)→ckQ (decide (s_3.length+x_6.length≤9223372036854775807)&&true) (exS (.str (s_3++x_6)) fun s_7=>∃v_8:W8,Lf (eqqQ (cells6M startM)∧eqqQ (cells6M kkM)∧cells6M startM=[AV.int .i64
 (v_8.1:Int),.int .i64 (v_8.2:Int),.int .i64 (v_8.3:Int),.int .i64 (v_8.4:Int),.int .i64 (v_8.5:Int),.int .i64 (v_8.6:Int),.int .i64 (v_8.7:Int),.int .i64 (v_8.8:Int)]∧okW8 v_8∧s_7.length≤1000000)∧∀u_9:W8,
 Lf (u_9=mixM kkM (s_7.length/64) v_8 s_7)→∃v_10:W8,Lf ([AV.int .i64 (u_9.1:Int),.int .i64 (u_9.2:Int),.int .i64 (u_9.3:Int),.int .i64 (u_9.4:Int),.int .i64 (u_9.5:Int),.int .i64 (u_9.6:Int),.int .i64 (u_9.7 :
 Int),.int .i64 (u_9.8:Int)]=[AV.int .i64 (v_10.1:Int),.int .i64 (v_10.2:Int),.int .i64 (v_10.3:Int),.int .i64 (v_10.4:Int),.int .i64 (v_10.5:Int),.int .i64 (v_10.6:Int),.int .i64 (v_10.7:Int),.int .i64 (v_10.8 :
 Int)]∧okW8 v_10)∧∀x_11:List UInt8,Lf (x_11=octs8 v_10)→Q (.ret (.str x_11)) [] {})))):=by kernel_rfl

end Go.Proofs.YtjenieljapmehaaGreatDoor

set_option linter.unusedSimpArgs false
set_option linter.unusedVariables false
set_option linter.unusedSectionVars false
namespace Go.Proofs.YtjenieljapmehaaGreatDoor
open Go.RowKit
set_option maxRecDepth 1000000

theorem mix_succ {k:List Nat} {f:Nat} {v:W8} {s:List UInt8} (h:64≤s.length):mixM k (f+1) v s=mixM k f (hashM k v (s.take 64)) (s.drop 64):=by
 rw[mixM,if_pos h]
theorem mix_step (k:List Nat):∀ (i:Nat) (v:W8) (s:List UInt8),64*(i+1)≤s.length→mixM k (i+1) v s=hashM k (mixM k i v s) ((s.drop (64*i)).take 64)
 | 0,v,s,h=>mix_succ (by omega)
 | i+1,v,s,h=>by
  rw[mix_succ (by omega),mix_step k i _ _ (by rw[List.length_drop];omega),mix_succ (f:=i) (v:=v) (s:=s) (by omega),List.drop_drop,show 64+64*i=64*(i+1) by omega]
theorem mix_w8 (k:List Nat):∀ (i:Nat) (v:W8) (s:List UInt8),okW8 v→okW8 (mixM k i v s)
 | 0,v,s,h=>h
 | i+1,v,s,h=>by
  rw[mixM]
  split
  ·exact mix_w8 k i _ _ (adds_ok _ _)
  ·exact h
theorem mix_app (k:List Nat):∀ (a b:Nat) (v:W8) (x y:List UInt8),x.length=64*a→mixM k (a+b) v (x++y)=mixM k b (mixM k a v x) y
 | 0,b,v,x,y,h=>by
  rw[List.length_eq_zero_iff.1 (show x.length=0 by omega),Nat.zero_add,List.nil_append];rfl
 | a+1,b,v,x,y,h=>by
  rw[show a+1+b=(a+b)+1 by omega,mix_succ (by rw[List.length_append];omega),mix_succ (f:=a) (v:=v) (s:=x) (by omega),List.take_append_of_le_length (by omega),List.drop_append_of_le_length (by omega)]
  exact mix_app k a b _ _ y (by rw[List.length_drop];omega)
theorem mix_take (k:List Nat) (a:Nat) (v:W8) (s:List UInt8) (h:64*a≤s.length):mixM k a v (s.take (64*a))=mixM k a v s:=by
 have:=mix_app k a 0 v (s.take (64*a)) (s.drop (64*a)) (by rw[List.length_take];omega)
 rw[List.take_append_drop] at this
 exact this.symm
theorem all_run (v0:W8) (b:List UInt8) (hv:okW8 v0) (hb:b.length≤1000000) (Q:Out→List Blk→Gh→Prop) (hq:Q (.ret (.lst 0 (cel6 (mixM kkM (b.length/64) v0 b)) 8 1)) [] {}):∃hv hb,goal_85 hv hb v0 b Q:=by
 obtain ⟨hv',hb',e'⟩:∃hv hb,goal_85 hv hb v0 b Q=_:=⟨_,_,vc_85 v0 b Q⟩
 refine ⟨hv',hb',e'.mpr ?_⟩
 clear e'
 refine ⟨⟨(0,v0),⟨Nat.zero_le _,hv,rfl⟩,rfl,rfl,rfl,rfl,rfl,trivial⟩, ?_⟩
 rintro ⟨i,v⟩ ⟨h1,h2,h3⟩
 dsimp only at h1 h2 h3
 dsimp only
 refine ⟨_,rfl,wrapI (by omega) (by omega) ⟨_,rfl,splitD (fun h4 => ?_) (fun h4 => ?_)⟩⟩
 ·have hi:64*(i+1)≤b.length:=by omega
  refine ⟨_,rfl,_,rfl,wrapI (by omega) (by omega) (ckI (by simp only[Bool.and_eq_true,decide_eq_true_eq,Nat.ble_eq];omega) ⟨(b.drop (64*i)).take 64, ?_,v,⟨rfl,rfl,rfl,h2,by rw[List.length_take,List.length_drop];omega⟩, ?_⟩)⟩
  ·rw[show ((64*i:Nat):Int).toNat=64*i by omega,show (((64*i:Nat):Int)+64).toNat-64*i=64 by omega]
  rintro u ⟨rfl⟩
  exact ⟨_,rfl,wrapI (by omega) (by omega) ⟨⟨trivial,rfl⟩,(i+1,hashM kkM v ((b.drop (64*i)).take 64)),⟨hi,adds_ok _ _,by show _=mixM kkM (i+1) v0 b;rw[mix_step kkM i v0 b hi,←h3]⟩,by show b.length-64*(i+1)<b.length-64*i;omega,rfl,rfl,rfl,congrArg _ (by show ((64*i:Nat):Int)+64=((64*(i+1):Nat):Int);omega),rfl,trivial⟩⟩
 ·have hi:i=b.length/64:=by omega
  have:=hq
  rw[←hi,←h3] at this
  exact this
theorem zero_snoc (t:List UInt8) (k:Nat):zeroM t k++[(0:UInt8)]=zeroM t (k+1):=by
 rw[zeroM,zeroM,List.replicate_succ',←List.append_assoc]
theorem zero_len (t:List UInt8) (k:Nat):(zeroM t k).length=t.length+1+k:=by
 rw[zeroM,List.length_append,List.length_append,List.length_replicate,List.length_singleton]
theorem tm256 (x:Nat):Int.tmod (x:Int) 256=((x%256:Nat):Int):=rfl
theorem td256 (x:Nat):Int.tdiv (x:Int) 256=((x/256:Nat):Int):=rfl
theorem toB_u8 (x:Nat):toB (.int .u8 (x:Int))=UInt8.ofNat x:=by
 rw[toB,Int.toNat_natCast]
theorem octI {x:Nat} {r:List UInt8} (hx:x≤9223372036854775807) (hr:r.length≤100) {K:List UInt8→Prop} (h:K ([UInt8.ofNat (x%256)]++r)) :
  ∃n7,AV.int .i64 (Int.tmod (x:Int) 256)=AV.int .i64 n7∧∃n8,AV.int .u8 (IntKind.wrap .u8 n7)=AV.int .u8 n8∧∃s9,AV.str [toB (.int .u8 n8)]=AV.str s9∧(bif decide (s9.length+r.length≤9223372036854775807)&&true then (∃s10,AV.str (s9++r)=AV.str s10∧K s10) else False):=by
 refine ⟨((x%256:Nat):Int),congrArg _ (tm256 x),wrapU8 (by omega) (by omega) ⟨_,rfl,ckI (by simp;omega) ⟨_,rfl, ?_⟩⟩⟩
 rw[toB_u8]
 exact h
theorem nextI {x:Nat} (hx:x≤9223372036854775807) {K:Int→Prop} (h:K ((x/256:Nat):Int)):∃n,AV.int .i64 (IntKind.wrap .i64 (Int.tdiv (x:Int) 256))=AV.int .i64 n∧K n:=by
 rw[td256]
 exact wrapI (by omega) (by omega) h
theorem pad_eq (t:List UInt8) (n:Nat) (x:Nat) (hx:x=8*n):zeroM t ((119-t.length)%64)++([UInt8.ofNat (x/256/256/256/256/256/256/256%256)]++([UInt8.ofNat (x/256/256/256/256/256/256%256)]++([UInt8.ofNat (x/256/256/256/256/256%256)]++([UInt8.ofNat (x/256/256/256/256%256)]++([UInt8.ofNat (x/256/256/256%256)]++([UInt8.ofNat (x/256/256%256)]++([UInt8.ofNat (x/256%256)]++([UInt8.ofNat (x%256)]++[]))))))))=padM t n:=by
 subst hx
 simp only[Nat.div_div_eq_div_mul,padM,zeroM,List.append_assoc,List.append_nil,Nat.div_one]
theorem closing_run (t:List UInt8) (n:Nat) (ht:t.length≤63) (hn:n≤1000000000) (Q:Out→List Blk→Gh→Prop) (hq:Q (.ret (.str (padM t n))) [] {}):∃hv hb,goal_86 hv hb t n Q:=by
 obtain ⟨hv',hb',e'⟩:∃hv hb,goal_86 hv hb t n Q=_:=⟨_,_,vc_86 t n Q⟩
 refine ⟨hv',hb',e'.mpr ?_⟩
 clear e'
 refine ckI (by simp;omega) ⟨_,rfl,⟨0,⟨Nat.zero_le _⟩, ?_⟩, ?_⟩
 ·refine ⟨rfl,rfl,congrArg AV.str ?_,trivial⟩
  rw[zeroM];simp;rfl
 rintro k ⟨h1⟩
 have hz:=zero_len t k
 refine ⟨_,rfl,_,rfl,(((t.length+1+k)%64:Nat):Int),congrArg _ (by rw[hz];rfl),splitNE (fun h2 => ?_) (fun h2 => ?_)⟩
 ·have hk:k<(119-t.length)%64:=by omega
  exact ⟨_,rfl,ckI (by rw[hz];simp;omega) ⟨_,rfl,⟨trivial,rfl⟩,k+1,⟨hk⟩,by omega,rfl,rfl,congrArg AV.str (zero_snoc t k),trivial⟩⟩
 ·have hk:k=(119-t.length)%64:=by omega
  refine ⟨_,rfl,((8*n:Nat):Int), ?_, ?_⟩
  ·rw[show (8:Int)*n=((8*n:Nat):Int) by omega]
   obtain ⟨m,e1,e2⟩:=wrapI (x:=((8*n:Nat):Int)) (K:=fun m=>m=((8*n:Nat):Int)) (by omega) (by omega) rfl
   rw[e1,e2]
  have hp:=pad_eq t n (8*n) rfl
  generalize hx:8*n=x at hp
  have hxb:x≤8000000000:=by omega
  clear hx
  refine octI (r:=[]) ?_ ?_ ?_
  ·omega
  ·simp
  refine nextI ?_ ?_
  ·omega
  refine octI ?_ ?_ ?_
  ·omega
  ·simp
  refine nextI ?_ ?_
  ·omega
  refine octI ?_ ?_ ?_
  ·omega
  ·simp
  refine nextI ?_ ?_
  ·omega
  refine octI ?_ ?_ ?_
  ·omega
  ·simp
  refine nextI ?_ ?_
  ·omega
  refine octI ?_ ?_ ?_
  ·omega
  ·simp
  refine nextI ?_ ?_
  ·omega
  refine octI ?_ ?_ ?_
  ·omega
  ·simp
  refine nextI ?_ ?_
  ·omega
  refine octI ?_ ?_ ?_
  ·omega
  ·simp
  refine nextI ?_ ?_
  ·omega
  refine octI ?_ ?_ ?_
  ·omega
  ·simp
  refine nextI ?_ ?_
  ·omega
  rw[hk]
  refine ⟨_,rfl,ckI (by rw[zero_len];simp;omega) ⟨_,rfl, ?_⟩⟩
  rw[hp]
  exact hq
theorem put4_run (w:Nat) (hw:w<4294967296) (Q:Out→List Blk→Gh→Prop) (hq:Q (.ret (.str (oct4 w))) [] {}):∃hv hb,goal_42 hv hb w Q:=by
 obtain ⟨hv',hb',e'⟩:∃hv hb,goal_42 hv hb w Q=_:=⟨_,_,vc_42 w Q⟩
 refine ⟨hv',hb',e'.mpr ?_⟩
 clear e'
 have e:([UInt8.ofNat (w/256/256/256%256)]++([UInt8.ofNat (w/256/256%256)]++([UInt8.ofNat (w/256%256)]++([UInt8.ofNat (w%256)]++[]))))=oct4 w:=by
  simp only[Nat.div_div_eq_div_mul,oct4,List.cons_append,List.nil_append]
 refine ⟨_,rfl, ?_⟩
 refine octI (r:=[]) ?_ ?_ ?_
 ·omega
 ·simp
 refine ⟨_,rfl, ?_⟩
 refine nextI ?_ ?_
 ·omega
 refine ⟨_,rfl, ?_⟩
 refine octI ?_ ?_ ?_
 ·omega
 ·simp
 refine ⟨_,rfl, ?_⟩
 refine nextI ?_ ?_
 ·omega
 refine ⟨_,rfl, ?_⟩
 refine octI ?_ ?_ ?_
 ·omega
 ·simp
 refine ⟨_,rfl, ?_⟩
 refine nextI ?_ ?_
 ·omega
 refine ⟨_,rfl, ?_⟩
 refine octI ?_ ?_ ?_
 ·omega
 ·simp
 refine ⟨_,rfl, ?_⟩
 refine nextI ?_ ?_
 ·omega
 rw[e]
 exact hq
theorem rput4_ok:ValidF Tryz.prog gl0 146 cPut4:=by
 refine valid_flat (enters_of (by kernel_rfl)) gl0_noY fun args H Q hc => ?_
 unfold cPut4 at hc
 split at hc
 ·rename_i n v
  obtain ⟨⟨rfl,h1,h2⟩,hq⟩:=hc
  obtain ⟨w,rfl⟩:∃w:Nat,v=w:=⟨v.toNat,by omega⟩
  obtain ⟨hv,hb',h⟩:=put4_run w (by omega) (Q:=fun o H' _=>H'=[]∧(∃v,o=.ret v∧old 0 v=true∧noY v=true)∧Q o H) ⟨rfl,⟨_,rfl,rfl,rfl⟩,hq _ ⟨rfl⟩⟩
  exact ⟨rfl,rfl,_,1000,envFor18 sm0_ok _ _ _,rfl,h⟩
 ·exact hc.elim
theorem closing_ok:ValidF Tryz.prog gl0 139 cClosing:=by
 refine valid_flat (enters_of (by kernel_rfl)) gl0_noY fun args H Q hc => ?_
 unfold cClosing at hc
 split at hc
 ·rename_i t n
  obtain ⟨⟨h0,h1,h2⟩,hq⟩:=hc
  obtain ⟨n,rfl⟩:∃w:Nat,n=w:=⟨n.toNat,by omega⟩
  obtain ⟨hv,hb',h⟩:=closing_run t n h0 (by omega) (Q:=fun o H' _=>H'=[]∧(∃v,o=.ret v∧old 0 v=true∧noY v=true)∧Q o H) ⟨rfl,⟨_,rfl,rfl,rfl⟩,hq _ ⟨rfl⟩⟩
  exact ⟨rfl,rfl,_,1000,envFor18 sm0_ok _ _ _,rfl,h⟩
 ·exact hc.elim
theorem smOc_ok:∀f g,smOc f=some g→ValidF Tryz.prog gl0 f g:=lookS_ok _ (by simp only[List.mem_cons,List.not_mem_nil,or_false,forall_eq];exact rput4_ok)
theorem o4I {w:Nat} {r:List UInt8} (hw:w<4294967296) (hr:r.length≤100) {K:List UInt8→Prop} (h:K (r++oct4 w)) :
  ∃n,AV.int .i64 (w:Int)=AV.int .i64 n∧(Lf ((4:Int)=4∧0≤n∧n<4294967296)∧∀s,Lf (s=oct4 n.toNat)→(bif decide (r.length+s.length≤9223372036854775807)&&true then (∃s',AV.str (r++s)=AV.str s'∧K s') else False)):=by
 refine ⟨_,rfl,⟨rfl,by omega,by omega⟩, ?_⟩
 rintro s ⟨rfl⟩
 exact ckI (by rw[Int.toNat_natCast];simp[oct4];omega) ⟨_,rfl,h⟩
theorem octs_run (v:W8) (hv:okW8 v) (Q:Out→List Blk→Gh→Prop) (hq:Q (.ret (.str (octs8 v))) [] {}):∃hv hb,goal_84 hv hb v Q:=by
 obtain ⟨hv',hb',e'⟩:∃hv hb,goal_84 hv hb v Q=_:=⟨_,_,vc_84 v Q⟩
 refine ⟨hv',hb',e'.mpr ?_⟩
 clear e'
 obtain ⟨h1,h2,h3,h4,h5,h6,h7,h8⟩:=hv
 have e:((((((([]++oct4 v.a)++oct4 v.b)++oct4 v.c)++oct4 v.d)++oct4 v.e)++oct4 v.f)++oct4 v.g)++oct4 v.h=octs8 v:=by
  simp only[octs8,List.append_assoc,List.nil_append]
 refine o4I (r:=[]) h1 (by simp) ?_
 refine o4I h2 (by simp[oct4]) ?_
 refine o4I h3 (by simp[oct4]) ?_
 refine o4I h4 (by simp[oct4]) ?_
 refine o4I h5 (by simp[oct4]) ?_
 refine o4I h6 (by simp[oct4]) ?_
 refine o4I h7 (by simp[oct4]) ?_
 refine o4I h8 (by simp[oct4]) ?_
 rw[e]
 exact hq
theorem octs_ok:ValidF Tryz.prog gl0 137 cOcts:=by
 refine valid_flat (enters_of (by kernel_rfl)) gl0_noY fun args H Q hc => ?_
 unfold cOcts at hc
 split at hc
 ·rename_i hs
  obtain ⟨v,⟨rfl,h1⟩,hq⟩:=hc
  obtain ⟨hv,hb',h⟩:=octs_run v h1 (Q:=fun o H' _=>H'=[]∧(∃v,o=.ret v∧old 0 v=true∧noY v=true)∧Q o H) ⟨rfl,⟨_,rfl,rfl,rfl⟩,hq _ ⟨rfl⟩⟩
  exact ⟨rfl,rfl,_,1000,envFor18 smOc_ok _ _ _,rfl,h⟩
 ·exact hc.elim
end Go.Proofs.YtjenieljapmehaaGreatDoor

set_option linter.unusedSimpArgs false
set_option linter.unusedVariables false
set_option linter.unusedSectionVars false
namespace Go.Proofs.YtjenieljapmehaaGreatDoor
open Go.RowKit
set_option maxRecDepth 1000000

def sum1M (s:List UInt8):List UInt8:=sumLM kkM startW [s]
theorem startW_ok:okW8 startW:=by unfold startW;decide
theorem sum_eq (s:List UInt8) (x:List UInt8) (hx:x=padM (s.drop (s.length/64*64)) s.length):octs8 (mixM kkM ((s.take (s.length/64*64)++x).length/64) startW (s.take (s.length/64*64)++x))=sum1M s:=by
 have ht:(s.take (s.length/64*64)).length=64*(s.length/64):=by rw[List.length_take];omega
 have hl:(s.take (s.length/64*64)++x).length/64=s.length/64+x.length/64:=by rw[List.length_append,ht];omega
 rw[hl,mix_app kkM _ _ _ _ _ ht,show s.length/64*64=64*(s.length/64) by omega,mix_take kkM _ _ _ (by omega)]
 rw[sum1M,sumLM]
 show _=endM kkM (addM kkM (startW,[],0) s).1 (addM kkM (startW,[],0) s).2.1 (addM kkM (startW,[],0) s).2.2
 rw[addM]
 dsimp only
 rw[List.nil_append,endM,Nat.zero_add,←hx]
theorem c6_start:cells6M startM=cel6 startW:=rfl
theorem sum58_run (s:List UInt8) (hs:s.length≤100000) (Q:Out→List Blk→Gh→Prop) (hq:Q (.ret (.str (sum1M s))) [] {}):∃hv hb,goal_58 hv hb s Q:=by
 obtain ⟨hv',hb',e'⟩:∃hv hb,goal_58 hv hb s Q=_:=⟨_,_,vc_58 s Q⟩
 refine ⟨hv',hb',e'.mpr ?_⟩
 clear e'
 have td:Int.tdiv (s.length:Int) 64=((s.length/64:Nat):Int):=rfl
 have e1:(((s.length/64:Nat):Int)*64).toNat=s.length/64*64:=by omega
 refine ⟨_,rfl, ?_⟩
 try dsimp only
 rw[td]
 refine wrapI (by omega) (by omega) (wrapI (by omega) (by omega) (ckI (by simp;omega) ⟨s.take (s.length/64*64),by rw[e1];rfl,ckI (by simp;omega) ⟨s.drop (s.length/64*64), ?_,_,rfl,⟨by rw[List.length_drop];omega,by omega,by omega⟩, ?_⟩⟩))
 ·rw[e1,List.take_of_length_le (by rw[List.length_drop];omega)]
 rintro x ⟨hx⟩
 rw[Int.toNat_natCast] at hx
 have hxl:x.length≤200:=by
  rw[hx]
  simp only[padM,List.length_append,List.length_replicate,List.length_singleton,List.length_drop]
  omega
 refine ckI (by simp;omega) ⟨_,rfl,startW,⟨rfl,rfl,c6_start,startW_ok,by rw[List.length_append,List.length_take];omega⟩, ?_⟩
 rintro u ⟨hu⟩
 refine ⟨u,⟨rfl,by rw[hu];exact mix_w8 _ _ _ _ startW_ok⟩, ?_⟩
 rintro y ⟨hy⟩
 rw[hy,hu,sum_eq s x hx]
 exact hq
def cSum58:Con
 | [.agg [.lst 0 sc 8 1,.lst 0 kc 64 1],.str s],H,K=>Lf (sc=cells6M startM∧kc=cells6M kkM∧s.length≤100000)∧∀x,Lf (x=sum1M s)→K (.ret (.str x)) H
 | _,_,_=>False
end Go.Proofs.YtjenieljapmehaaGreatDoor

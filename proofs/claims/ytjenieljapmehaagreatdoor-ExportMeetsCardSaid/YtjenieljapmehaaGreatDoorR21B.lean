/-
  Chapter 17: the run of Decode: records of a datagram; a panic in it is recovered.
-/
import Derived.Test.YtjenieljapmehaaGreatDoorR21A
set_option linter.unusedSimpArgs false
set_option linter.unusedVariables false
set_option linter.unusedSectionVars false
namespace Go.Proofs.YtjenieljapmehaaGreatDoor.Rc
open Go.RowKit
set_option maxRecDepth 1000000

abbrev Rc:=Int×Int×Int×List UInt8
def rcM (r:Rc):List AV:=[.int .i64 r.1,.int .i64 r.2.1,.int .i64 r.2.2.1,.str r.2.2.2]
def cellsRM:List Rc→List AV
 | []=>[]
 | r::l=>rcM r++cellsRM l
def sizeRM (s:List UInt8):Int:=beM ((s.drop 9).take 2)
def headEM (s:List UInt8):Int:=if s.length<11 then 7 else if 1000<sizeRM s then 170 else if (s.length:Int)<11+sizeRM s then 7 else 0
def firstRM (s:List UInt8):Rc:=(beM (s.take 1),beM ((s.drop 1).take 2),beM ((s.drop 3).take 6),(s.drop 11).take (sizeRM s).toNat)
def restRM (s:List UInt8):List UInt8:=s.drop (11+(sizeRM s).toNat)
def recsM:Nat→List UInt8→List Rc×Int
 | 0,_=>([],0)
 | f+1,s=>if s=[] then ([],0) else if headEM s≠0 then ([],headEM s) else if (recsM f (restRM s)).2≠0 then ([],(recsM f (restRM s)).2) else (firstRM s::(recsM f (restRM s)).1,0)
def decM (s:List UInt8):List Rc×Int:=if 1200<s.length then ([],3) else if s=[] then ([],7) else recsM s.length s
def contM (l:List Rc) (s:List UInt8):List Rc×Int:=if (recsM s.length s).2≠0 then ([],(recsM s.length s).2) else (l++(recsM s.length s).1,0)
abbrev X62:=List Rc×List UInt8×List AV×List AV×List AV×List AV
def tm62:T:=mkT [(0,.yld 0),(1,.ptr 2 1 0),(3,.ptr 3 2 0),(4,.fn (.func 105) [] [.ptr 3 2 0])]
def inv_62a (s:List UInt8):LInv where
 α:=Nat
 pre i:=Lf (i=0∧0<s.length)
 st _:=⟨tm62,[⟨.exact,true,[.nils]⟩,⟨.exact,true,[.int .i64 0]⟩,⟨.exact,true,[.str s]⟩,⟨.exact,true,[.str s,.int .i64 0]⟩]⟩
 mu _:=s.length+1
def inv_62b (s:List UInt8):LInv where
 α:=X62
 pre x:=Lf (0<x.1.length∧x.1.length+x.2.1.length≤s.length∧x.2.1=s.drop (s.length-x.2.1.length)∧contM x.1 x.2.1=contM [] s)
 st x:=⟨tm62,[⟨.exact,false,[.sl 8 (x.1.length*4) 0 x.1.length 4]⟩,⟨.exact,true,[.int .i64 0]⟩,⟨.exact,true,[.str s]⟩,⟨.exact,true,[.str s,.int .i64 ((s.length-x.2.1.length:Nat):Int)]⟩,⟨.exact,true,x.2.2.1⟩,⟨.exact,true,x.2.2.2.1⟩,⟨.exact,true,x.2.2.2.2.1⟩,⟨.exact,true,x.2.2.2.2.2⟩,⟨.grow,true,cellsRM x.1⟩]⟩
 mu x:=x.2.1.length
def dfn16:DFn:=⟨46,(.right (.region [⟨(some 2),.box (.c .nils),none,0,0⟩,⟨(some 3),.box (.c (.int .i64 (.ofNat 0))),none,0,0⟩]) (.right (.seq (.region [⟨(some 5),.mv (.t 0),none,0,0⟩,⟨(some 6),.lenS (.t 5),none,0,0⟩,⟨(some 7),.bin .gtr .it (.t 6) (.c (.int .i64 (.ofNat 1200))),none,0,0⟩]) (.cond (.t 7) (.seq (.region [⟨none,.st 1 (.t 2) (.c .nils),none,0,0⟩,⟨none,.st 1 (.t 3) (.c (.int .i64 (.ofNat 3))),none,0,0⟩]) .ret) .skip)) (.right (.seq (.region [⟨(some 8),.mv (.t 0),none,0,0⟩,⟨(some 9),.bin .eql .st (.t 8) (.c (.str [])),none,0,0⟩]) (.cond (.t 9) (.seq (.region [⟨none,.st 1 (.t 2) (.c .nils),none,0,0⟩,⟨none,.st 1 (.t 3) (.c (.int .i64 (.ofNat 7))),none,0,0⟩]) .ret) .skip)) (.left (.here [⟨(some 10),.mkfn (.func 75) [] [(.t 2),(.t 3)],none,0,0⟩] (.t 10)) (.seq (.seq (.region [⟨(some 11),.mv (.t 0),none,0,0⟩,⟨(some 12),.call (.c (.fn (.func 76) [] [])) [(.t 11)],none,0,0⟩]) (.block 0 (.rfn (.t 12) [13] (.region [⟨(some 4),.box (.c (.agg [(.int .i64 (.ofNat 0)),(.int .i64 (.ofNat 0)),(.int .i64 (.ofNat 0)),(.str [])])),none,0,0⟩,⟨none,.st 4 (.t 4) (.t 13),none,0,0⟩]) (.block 1 (.region [⟨(some 14),.ld false 1 (.t 2),none,0,0⟩,⟨(some 15),.ld true 4 (.t 4),none,0,0⟩,⟨(some 16),.bsl [(.int .i64 (.ofNat 0)),(.int .i64 (.ofNat 0)),(.int .i64 (.ofNat 0)),(.str [])] 4 1 [(0,4,(.t 15))],none,0,0⟩,⟨(some 17),.app 4 40 none (.t 14) (.t 16),none,0,0⟩,⟨none,.st 1 (.t 2) (.t 17),none,0,0⟩]))))) (.seq (.region [⟨(some 18),.ld false 1 (.t 2),none,0,0⟩,⟨none,.st 1 (.t 2) (.t 18),none,0,0⟩,⟨none,.st 1 (.t 3) (.c (.int .i64 (.ofNat 0))),none,0,0⟩]) .ret)))))),[(.cell 2 false 1),(.cell 3 false 1)],⟨75,3,[⟨(some 2),.mv (.t 3),none,0,0⟩],(.seq (.region [⟨(some 4),.mv (.t 2),none,0,0⟩,⟨(some 5),.bin .neq .ifc (.t 4) (.c .nili),none,0,0⟩]) (.cond (.t 5) (.drawn [⟨(some 6),.mv (.t 2),none,0,0⟩,⟨(some 7),.conv (.tas 31) (.t 6),none,1,1⟩,⟨none,.st 1 (.t 0) (.c .nils),none,2,0⟩,⟨none,.st 1 (.t 1) (.t 7),none,3,7⟩]) .skip))⟩⟩
theorem dfn16_ok:dfnOf Tryz.prog 46 75=some dfn16:=by kernel_rfl
def smB:SM:=lookS [(106,cUint),(107,cTake)]
theorem smB_ok:∀f g,smB f=some g→ValidF Tryz.prog gl0 f g:=lookS_ok _ (by simp only[List.mem_cons,List.not_mem_nil,or_false,forall_eq_or_imp,forall_eq];exact ⟨uint_ok,take_ok⟩)
noncomputable def env_16 (hv:Nat→Option Pa) (hb:Nat→Option Bool) (s:List UInt8):Env:=
 e04 smB (fun i=>bif Nat.beq i 104000 then some (fun _=>[[inv_62a s,inv_62b s]]) else none) hv hb
noncomputable def goal_16 (hv:Nat→Option Pa) (hb:Nat→Option Bool) (s:List UInt8) (Q:Out→List Blk→Gh→Prop):Prop:=
 callD (env_16 hv hb s) (wpx (env_16 hv hb s) 1000) dfn16 [.str s] [] {} Q
def vc_16_1:Prop:=(
(((AV.yld (0:Nat))=(AV.yld (0:Nat))) ∧
 (((AV.ptr (2:Nat) (1:Nat) (0:Nat))=(AV.ptr (2:Nat) (1:Nat) (0:Nat))) ∧
 (((AV.ptr (3:Nat) (2:Nat) (0:Nat))=(AV.ptr (3:Nat) (2:Nat) (0:Nat))) ∧
 (((AV.fn (Fn.func (105:Nat)) [] ((AV.ptr (3:Nat) (2:Nat) (0:Nat))::[]))=(AV.fn (Fn.func (105:Nat)) [] ((AV.ptr (3:Nat) (2:Nat) (0:Nat))::[]))) ∧
 True)))))
theorem vc_16 (s:List UInt8) (Q:Out→List Blk→Gh→Prop):goal_16 (lookV [(188422,.int .i64),(426000,.int .i64),(430091,.int .i64),(426018,.str),(426019,.agg [(.str),(.int .i64)]),(425998,.int .i64),(430088,.agg
 [(.str),(.int .i64)]),(430092,.agg [(.str),(.int .i64)])]) (lookB []) s Q=(exI .i64 (s.length:Int) fun n_0=>bif decide (n_0>1200) then Q (.ret (.tup [.nils,.int .i64 3])) [] {} else bif eqB s [] then Q (.ret (.tup [.nils,.int
 .i64 7])) [] {} else ((∃x_1:Nat,Lf (x_1=0∧0<s.length)∧[AV.nils]=[AV.nils]∧eqqQ [AV.int .i64 0]∧eqqQ [AV.str s]∧eqqQ [AV.str s,.int .i64 0]∧vc_16_1)∨∃x_1:List Rc.Rc×List UInt8×List AV×List AV×List AV ×
 List AV,Lf (0<x_1.1.length∧x_1.1.length+x_1.2.1.length≤s.length∧x_1.2.1=s.drop (s.length-x_1.2.1.length)∧Rc.contM x_1.1 x_1.2.1=Rc.contM [] s)∧False)∧(∀x_1:Nat,Lf (x_1=0∧0<s.length)→exI .i64 0 fun n_2=>
 exI .i64 (s.length:Int) fun n_3=>bif decide (n_2<n_3) then ∃s_4 n_5,AV.agg [.str s,.int .i64 0]=AV.agg [.str s_4,.int .i64 n_5]∧Lf (0≤n_5∧n_5≤(s_4.length:Int)∧s_4.length≤1000000∧(1:Int)≤(1:Int)∧(1:Int)
 ≤ (7:Int))∧bif decide (n_5+1≤(s_4.length:Int)) then exI .i64 (Rc.beM ((s_4.drop n_5.toNat).take 1)) fun n_6=>∃s_7 n_8,AV.agg [.str s_4,.int .i64 (n_5+1)]=AV.agg [.str s_7,.int .i64 n_8]∧∃s_9 n_10,AV.agg [.str s_7,
 .int .i64 n_8]=AV.agg [.str s_9,.int .i64 n_10]∧Lf (0≤n_10∧n_10≤(s_9.length:Int)∧s_9.length≤1000000∧(1:Int)≤(2:Int)∧(2:Int)≤(7:Int))∧bif decide (n_10+2≤(s_9.length:Int)) then exI .i64 (Rc.beM
 ((s_9.drop n_10.toNat).take 2)) fun n_11=>∃s_12 n_13,AV.agg [.str s_9,.int .i64 (n_10+2)]=AV.agg [.str s_12,.int .i64 n_13]∧∃s_14 n_15,AV.agg [.str s_12,.int .i64 n_13]=AV.agg [.str s_14,.int .i64 n_15]∧Lf (0≤n_15 ∧
 n_15≤(s_14.length:Int)∧s_14.length≤1000000∧(1:Int)≤(6:Int)∧(6:Int)≤(7:Int))∧bif decide (n_15+6≤(s_14.length:Int)) then exI .i64 (Rc.beM ((s_14.drop n_15.toNat).take 6)) fun n_16=>∃s_17 n_18,AV.agg [.str
 s_14,.int .i64 (n_15+6)]=AV.agg [.str s_17,.int .i64 n_18]∧∃s_19 n_20,AV.agg [.str s_17,.int .i64 n_18]=AV.agg [.str s_19,.int .i64 n_20]∧Lf (0≤n_20∧n_20≤(s_19.length:Int)∧s_19.length≤1000000∧(1:Int)≤(2 :
 Int)∧(2:Int)≤(7:Int))∧bif decide (n_20+2≤(s_19.length:Int)) then exI .i64 (Rc.beM ((s_19.drop n_20.toNat).take 2)) fun n_21=>∃s_22 n_23,AV.agg [.str s_19,.int .i64 (n_20+2)]=AV.agg [.str s_22,.int .i64 n_23]∧bif
 decide (n_21>1000) then Q (.ret (.tup [.nils,.int .i64 170])) [] (Gh.mk 0 1 []) else Lf (0≤n_23∧n_23≤(s_22.length:Int)∧s_22.length≤1000000∧0≤n_21∧n_21≤1000000)∧bif decide (n_23+n_21≤(s_22.length:Int)) then
 exS (.str ((s_22.drop n_23.toNat).take n_21.toNat)) fun s_24=>∃s_25 n_26,AV.agg [.str s_22,.int .i64 (n_23+n_21)]=AV.agg [.str s_25,.int .i64 n_26]∧ckQ (eqAVL [.str s_25,.int .i64 n_26] [.str s_25,.int .i64 n_26]&&true)
 ((eqqQ [Lp.mk 0 (T.n (T.n (T.n (T.n T.e (.bool false) T.e) (.ptr 1 1 0) (T.n T.e (.str s) T.e)) .undef (T.n (T.n T.e (.bool false) T.e) (.str s) T.e)) (.str s) (T.n (T.n (T.n T.e (.str s) T.e) .undef (T.n T.e (.fn (Fn.func 104) [] [.ptr 2
 1 0]) T.e)) (.ptr 0 1 0) (T.n (T.n T.e (.fn (Fn.func 75) [] [.ptr 0 1 0,.ptr 1 1 0]) T.e) (.int .i64 n_0) T.e))) [13] (AC.region [AOper.mk (Option.some (4:Nat)) (AOp.box (AO.c (.agg [.int .i64 0,.int .i64 0,.int .i64 0,.str []])))
 Option.none 0 0,AOper.mk Option.none (AOp.st 4 (AO.t 4) (AO.t 13)) Option.none 0 0]) (AC.block 1 (AC.region [AOper.mk (Option.some (14:Nat)) (AOp.ld false 1 (AO.t 2)) Option.none 0 0,AOper.mk (Option.some (15:Nat)) (AOp.ld true 4
 (AO.t 4)) Option.none 0 0,AOper.mk (Option.some (16:Nat)) (AOp.bsl [.int .i64 0,.int .i64 0,.int .i64 0,.str []] 4 1 [Prod.mk (0:Nat) (Prod.mk (4:Nat) (AO.t 15))]) Option.none 0 0,AOper.mk (Option.some (17:Nat)) (AOp.app 4 40
 Option.none (AO.t 14) (AO.t 16)) Option.none 0 0,AOper.mk Option.none (AOp.st 1 (AO.t 2) (AO.t 17)) Option.none 0 0])) Lst.ready 46]∧(1:Nat)=(1:Nat))∧((∃y_27:Nat,Lf (y_27=0∧0<s.length)∧s.length+1<s.length+1 ∧
 False)∨∃y_27:List Rc.Rc×List UInt8×List AV×List AV×List AV×List AV,Lf (0<y_27.1.length∧y_27.1.length+y_27.2.1.length≤s.length∧y_27.2.1=s.drop (s.length-y_27.2.1.length)∧Rc.contM y_27.1 y_27.2.1=Rc.contM []
 s)∧y_27.2.1.length<s.length+1∧[AV.sl 8 4 0 1 4]=[AV.sl 8 (y_27.1.length*4) 0 y_27.1.length 4]∧eqqQ [AV.int .i64 0]∧eqqQ [AV.str s]∧[AV.str s_25,.int .i64 n_26]=[AV.str s,.int .i64 ((s.length-y_27.2.1.length:Nat) :
 Int)]∧[AV.int .i64 n_6,.int .i64 n_11,.int .i64 n_16,.str s_24]=y_27.2.2.1∧[AV.str s_25,.int .i64 n_26]=y_27.2.2.2.1∧[AV.int .i64 n_6,.int .i64 n_11,.int .i64 n_16,.str s_24]=y_27.2.2.2.2.1∧[AV.int .i64 n_6,.int .i64
 n_11,.int .i64 n_16,.str s_24]=y_27.2.2.2.2.2∧[AV.int .i64 n_6,.int .i64 n_11,.int .i64 n_16,.str s_24]=Rc.cellsRM y_27.1∧vc_16_1)) else exS (.str []) fun s_24=>∃s_25 n_26,AV.agg [.str [],.int .i64 0]=AV.agg [.str s_25,
 .int .i64 n_26]∧Q (.ret (.tup [.nils,.int .i64 7])) [] (Gh.mk 0 1 []) else exI .i64 0 fun n_21=>∃s_22 n_23,AV.agg [.str [],.int .i64 0]=AV.agg [.str s_22,.int .i64 n_23]∧Q (.ret (.tup [.nils,.int .i64 7])) [] (Gh.mk 0 1 [])
 else exI .i64 0 fun n_16=>∃s_17 n_18,AV.agg [.str [],.int .i64 0]=AV.agg [.str s_17,.int .i64 n_18]∧Q (.ret (.tup [.nils,.int .i64 7])) [] (Gh.mk 0 1 []) else exI .i64 0 fun n_11=>∃s_12 n_13,AV.agg [.str [],.int .i64 0] =
 AV.agg [.str s_12,.int .i64 n_13]∧Q (.ret (.tup [.nils,.int .i64 7])) [] (Gh.mk 0 1 []) else exI .i64 0 fun n_6=>∃s_7 n_8,AV.agg [.str [],.int .i64 0]=AV.agg [.str s_7,.int .i64 n_8]∧Q (.ret (.tup [.nils,.int .i64 7])) []
 (Gh.mk 0 1 []) else Q (.ret (.tup [.nils,.int .i64 0])) [] (Gh.mk 0 1 []))∧∀x_1:List Rc.Rc×List UInt8×List AV×List AV×List AV×List AV,Lf (0<x_1.1.length∧x_1.1.length+x_1.2.1.length≤s.length∧x_1.2.1=s.drop
 (s.length-x_1.2.1.length)∧Rc.contM x_1.1 x_1.2.1=Rc.contM [] s)→exI .i64 ((s.length-x_1.2.1.length:Nat):Int) fun n_2=>exI .i64 (s.length:Int) fun n_3=>bif decide (n_2<n_3) then ∃s_4 n_5,AV.agg [.str s,.int .i64
 ((s.length-x_1.2.1.length:Nat):Int)]=AV.agg [.str s_4,.int .i64 n_5]∧Lf (0≤n_5∧n_5≤(s_4.length:Int)∧s_4.length≤1000000∧(1:Int)≤(1:Int)∧(1:Int)≤(7:Int))∧bif decide (n_5+1≤(s_4.length:Int)) then
 exI .i64 (Rc.beM ((s_4.drop n_5.toNat).take 1)) fun n_6=>∃s_7 n_8,AV.agg [.str s_4,.int .i64 (n_5+1)]=AV.agg [.str s_7,.int .i64 n_8]∧∃s_9 n_10,AV.agg [.str s_7,.int .i64 n_8]=AV.agg [.str s_9,.int .i64 n_10]∧Lf (0 ≤
 n_10∧n_10≤(s_9.length:Int)∧s_9.length≤1000000∧(1:Int)≤(2:Int)∧(2:Int)≤(7:Int))∧bif decide (n_10+2≤(s_9.length:Int)) then exI .i64 (Rc.beM ((s_9.drop n_10.toNat).take 2)) fun n_11=>∃s_12 n_13,AV.agg
 [.str s_9,.int .i64 (n_10+2)]=AV.agg [.str s_12,.int .i64 n_13]∧∃s_14 n_15,AV.agg [.str s_12,.int .i64 n_13]=AV.agg [.str s_14,.int .i64 n_15]∧Lf (0≤n_15∧n_15≤(s_14.length:Int)∧s_14.length≤1000000∧(1:Int) ≤
 (6:Int)∧(6:Int)≤(7:Int))∧bif decide (n_15+6≤(s_14.length:Int)) then exI .i64 (Rc.beM ((s_14.drop n_15.toNat).take 6)) fun n_16=>∃s_17 n_18,AV.agg [.str s_14,.int .i64 (n_15+6)]=AV.agg [.str s_17,.int .i64 n_18]
 ∧ ∃s_19 n_20,AV.agg [.str s_17,.int .i64 n_18]=AV.agg [.str s_19,.int .i64 n_20]∧Lf (0≤n_20∧n_20≤(s_19.length:Int)∧s_19.length≤1000000∧(1:Int)≤(2:Int)∧(2:Int)≤(7:Int))∧bif decide (n_20+2 ≤
 (s_19.length:Int)) then exI .i64 (Rc.beM ((s_19.drop n_20.toNat).take 2)) fun n_21=>∃s_22 n_23,AV.agg [.str s_19,.int .i64 (n_20+2)]=AV.agg [.str s_22,.int .i64 n_23]∧bif decide (n_21>1000) then Q (.ret (.tup [.nils,.int
 .i64 170])) [] (Gh.mk 0 1 []) else Lf (0≤n_23∧n_23≤(s_22.length:Int)∧s_22.length≤1000000∧0≤n_21∧n_21≤1000000)∧bif decide (n_23+n_21≤(s_22.length:Int)) then exS (.str ((s_22.drop n_23.toNat).take n_21.toNat)) fun
 s_24=>∃s_25 n_26,AV.agg [.str s_22,.int .i64 (n_23+n_21)]=AV.agg [.str s_25,.int .i64 n_26]∧ckQ (eqAVL [.str s_25,.int .i64 n_26] [.str s_25,.int .i64 n_26]&&true) (ckQ (Nat.beq (Rc.cellsRM x_1.1).length (x_1.1.length*4)
 && true&&Nat.beq (0+x_1.1.length*4) (x_1.1.length*4)&&Nat.ble (x_1.1.length+1) 1099511627776&&Nat.ble ((x_1.1.length+1)*40) 1099511627776) ((eqqQ [Lp.mk 0 (T.n (T.n (T.n (T.n T.e (.bool false) T.e) (.ptr 1 1 0) (T.n T.e
 (.str s) T.e)) .undef (T.n (T.n T.e (.bool false) T.e) (.str s) T.e)) (.str s) (T.n (T.n (T.n T.e (.str s) T.e) .undef (T.n T.e (.fn (Fn.func 104) [] [.ptr 2 1 0]) T.e)) (.ptr 0 1 0) (T.n (T.n T.e (.fn (Fn.func 75) [] [.ptr 0 1 0,.ptr 1 1
 0]) T.e) (.int .i64 n_0) T.e))) [13] (AC.region [AOper.mk (Option.some (4:Nat)) (AOp.box (AO.c (.agg [.int .i64 0,.int .i64 0,.int .i64 0,.str []]))) Option.none 0 0,AOper.mk Option.none (AOp.st 4 (AO.t 4) (AO.t 13)) Option.none 0
 0]) (AC.block 1 (AC.region [AOper.mk (Option.some (14:Nat)) (AOp.ld false 1 (AO.t 2)) Option.none 0 0,AOper.mk (Option.some (15:Nat)) (AOp.ld true 4 (AO.t 4)) Option.none 0 0,AOper.mk (Option.some (16:Nat)) (AOp.bsl [.int .i64 0,
 .int .i64 0,.int .i64 0,.str []] 4 1 [Prod.mk (0:Nat) (Prod.mk (4:Nat) (AO.t 15))]) Option.none 0 0,AOper.mk (Option.some (17:Nat)) (AOp.app 4 40 Option.none (AO.t 14) (AO.t 16)) Option.none 0 0,AOper.mk Option.none (AOp.st 1
 (AO.t 2) (AO.t 17)) Option.none 0 0])) Lst.ready 46]∧(1:Nat)=(1:Nat))∧((∃y_27:Nat,Lf (y_27=0∧0<s.length)∧s.length+1<x_1.2.1.length∧False)∨∃y_27:List Rc.Rc×List UInt8×List AV×List AV×List AV×List
 AV,Lf (0<y_27.1.length∧y_27.1.length+y_27.2.1.length≤s.length∧y_27.2.1=s.drop (s.length-y_27.2.1.length)∧Rc.contM y_27.1 y_27.2.1=Rc.contM [] s)∧y_27.2.1.length<x_1.2.1.length∧[AV.sl 8 (x_1.1.length*4+4) 0
 (x_1.1.length+1) 4]=[AV.sl 8 (y_27.1.length*4) 0 y_27.1.length 4]∧eqqQ [AV.int .i64 0]∧eqqQ [AV.str s]∧[AV.str s_25,.int .i64 n_26]=[AV.str s,.int .i64 ((s.length-y_27.2.1.length:Nat):Int)]∧x_1.2.2.1=y_27.2.2.1 ∧
 x_1.2.2.2.1=y_27.2.2.2.1∧x_1.2.2.2.2.1=y_27.2.2.2.2.1∧x_1.2.2.2.2.2=y_27.2.2.2.2.2∧Rc.cellsRM x_1.1++[AV.int .i64 n_6,.int .i64 n_11,.int .i64 n_16,.str s_24]=Rc.cellsRM y_27.1∧vc_16_1))) else exS (.str []) fun s_24=>
 ∃s_25 n_26,AV.agg [.str [],.int .i64 0]=AV.agg [.str s_25,.int .i64 n_26]∧Q (.ret (.tup [.nils,.int .i64 7])) [] (Gh.mk 0 1 []) else exI .i64 0 fun n_21=>∃s_22 n_23,AV.agg [.str [],.int .i64 0]=AV.agg [.str s_22,.int .i64
 n_23]∧Q (.ret (.tup [.nils,.int .i64 7])) [] (Gh.mk 0 1 []) else exI .i64 0 fun n_16=>∃s_17 n_18,AV.agg [.str [],.int .i64 0]=AV.agg [.str s_17,.int .i64 n_18]∧Q (.ret (.tup [.nils,.int .i64 7])) [] (Gh.mk 0 1 []) else exI
 .i64 0 fun n_11=>∃s_12 n_13,AV.agg [.str [],.int .i64 0]=AV.agg [.str s_12,.int .i64 n_13]∧Q (.ret (.tup [.nils,.int .i64 7])) [] (Gh.mk 0 1 []) else exI .i64 0 fun n_6=>∃s_7 n_8,AV.agg [.str [],.int .i64 0]=AV.agg [.str
 s_7,.int .i64 n_8]∧Q (.ret (.tup [.nils,.int .i64 7])) [] (Gh.mk 0 1 []) else Q (.ret (.tup [.sl 8 (x_1.1.length*4) 0 x_1.1.length 4,.int .i64 0])) [Blk.mk BK.exact false [.sl 8 (x_1.1.length*4) 0 x_1.1.length 4],Blk.mk BK.exact
 true [.int .i64 0],Blk.mk BK.exact true [.str s],Blk.mk BK.exact true [.str s,.int .i64 ((s.length-x_1.2.1.length:Nat):Int)],Blk.mk BK.exact true x_1.2.2.1,Blk.mk BK.exact true x_1.2.2.2.1,Blk.mk BK.exact true x_1.2.2.2.2.1,
 Blk.mk BK.exact true x_1.2.2.2.2.2,Blk.mk BK.grow true (Rc.cellsRM x_1.1)] (Gh.mk 0 1 [])):=by kernel_rfl


theorem be_nn (s:List UInt8):0≤beM s:=by unfold beM;omega
theorem rest_lt {s:List UInt8} (h:s≠[]):(restRM s).length<s.length:=by
 have:0<s.length:=List.length_pos_iff.2 h
 rw[restRM,List.length_drop];omega
theorem recs_fuel:∀ (f g:Nat) (s:List UInt8),s.length≤f→s.length≤g→recsM f s=recsM g s
 | 0,g,s,h,_=>by
  obtain rfl:=List.length_eq_zero_iff.1 (Nat.le_zero.1 h)
  cases g<;>rfl
 | f+1,0,s,_,h=>by
  obtain rfl:=List.length_eq_zero_iff.1 (Nat.le_zero.1 h)
  rfl
 | f+1,g+1,s,h1,h2=>by
  rw[recsM,recsM]
  by_cases h:s=[]
  ·rw[if_pos h,if_pos h]
  ·have hr:=rest_lt h
   rw[recs_fuel f g (restRM s) (by omega) (by omega)]
theorem recs_step {s:List UInt8} (h:s≠[]):recsM s.length s=if headEM s≠0 then ([],headEM s) else if (recsM (restRM s).length (restRM s)).2≠0 then ([],(recsM (restRM s).length (restRM s)).2) else (firstRM s::(recsM (restRM s).length (restRM s)).1,0):=by
 have hp:0<s.length:=List.length_pos_iff.2 h
 have hr:=rest_lt h
 obtain ⟨n,hn⟩:∃n,s.length=n+1:=⟨s.length-1,by omega⟩
 rw[hn,recsM,if_neg h,recs_fuel n (restRM s).length (restRM s) (by omega) (Nat.le_refl _)]
theorem recs_err:∀ (f:Nat) (s:List UInt8),(recsM f s).2≠0→(recsM f s).1=[]
 | 0,s,h=>absurd rfl h
 | f+1,s,h=>by
  rw[recsM] at h ⊢
  split
  ·rfl
  ·rename_i h1
   rw[if_neg h1] at h
   split
   ·rfl
   ·rename_i h2
    rw[if_neg h2] at h
    split
    ·rfl
    ·rename_i h3
     rw[if_neg h3] at h
     exact absurd rfl h
theorem cont_nil (s:List UInt8):contM [] s=recsM s.length s:=by
 rw[contM]
 split
 ·rename_i h
  have:=recs_err _ _ h
  rw[←this]
 ·rename_i h
  have h0:(recsM s.length s).2=0:=Decidable.of_not_not h
  rw[List.nil_append,←h0]
theorem cont_end (l:List Rc):contM l []=(l,0):=by
 have e:recsM ([]:List UInt8).length []=([],0):=rfl
 rw[contM,e,if_neg (by simp),List.append_nil]
theorem cont_err {l:List Rc} {s:List UInt8} (h:s≠[]) (hh:headEM s≠0):contM l s=([],headEM s):=by
 have e:recsM s.length s=([],headEM s):=by rw[recs_step h,if_pos hh]
 rw[contM,e,if_pos hh]
theorem cont_step {l:List Rc} {s:List UInt8} (h:s≠[]) (hh:headEM s=0):contM l s=contM (l++[firstRM s]) (restRM s):=by
 by_cases h2:(recsM (restRM s).length (restRM s)).2=0
 ·have e:recsM s.length s=(firstRM s::(recsM (restRM s).length (restRM s)).1,0):=by rw[recs_step h,if_neg (by simp[hh]),if_neg (by simp[h2])]
  rw[contM,contM,e,if_neg (by simp),if_neg (by simp[h2])]
  simp
 ·have e:recsM s.length s=([],(recsM (restRM s).length (restRM s)).2):=by rw[recs_step h,if_neg (by simp[hh]),if_pos h2]
  rw[contM,contM,e,if_pos h2,if_pos h2]
theorem dec_cont {s:List UInt8} (h1:¬ 1200<s.length) (h2:s≠[]):decM s=contM [] s:=by
 rw[decM,if_neg h1,if_neg h2,cont_nil]
theorem cellsR_app:∀ (a b:List Rc),cellsRM (a++b)=cellsRM a++cellsRM b
 | [],b=>rfl
 | r::a,b=>by rw[List.cons_append,cellsRM,cellsRM,cellsR_app a b,List.append_assoc]
theorem cellsR_len:∀l:List Rc,(cellsRM l).length=l.length*4
 | []=>rfl
 | r::l=>by rw[cellsRM,List.length_append,cellsR_len l,List.length_cons];show 4+_=_;omega
theorem eqAVL_si (s:List UInt8) (n:Int):eqAVL [AV.str s,AV.int .i64 n] [AV.str s,AV.int .i64 n]=true:=by
 simp[eqAVL,eqAV,eqB_refl]

theorem decode_run (s:List UInt8) (hs:s.length≤9223372036854775807) (Q:Out→List Blk→Gh→Prop)
  (hq0:∀e g,decM s=([],e)→Q (.ret (.tup [.nils,.int .i64 e])) [] g)
  (hq1:∀l g b1 b2 b3 d4 d5 d6 d7 b0,decM s=(l,0)→0<l.length→Q (.ret (.tup [.sl 8 (l.length*4) 0 l.length 4,.int .i64 0])) [b0,b1,b2,b3,d4,d5,d6,d7,⟨.grow,true,cellsRM l⟩] g):∃hv hb,goal_16 hv hb s Q:=by
 obtain ⟨hv,hb',e⟩:∃hv hb,goal_16 hv hb s Q=_:=⟨_,_,vc_16 s Q⟩
 refine ⟨hv,hb',e.mpr ?_⟩
 clear e
 refine ⟨_,rfl,splitD (fun h=>hq0 3 _ (by rw[decM,if_pos (by omega)])) (fun h => ?_)⟩
 have hle:¬ 1200<s.length:=by omega
 by_cases hn:s=[]
 ·subst hn
  exact hq0 7 _ rfl
 rw[eqB_iff,show (s==[])=false by simpa using hn,cond_false]
 have hpos:0<s.length:=List.length_pos_iff.2 hn
 have hdec:=dec_cont hle hn
 -- the ends of a round
 have err:∀ (l:List Rc) (r:List UInt8) (e:Int) g,r≠[]→contM l r=contM [] s→headEM r=e→e≠0→Q (.ret (.tup [.nils,.int .i64 e])) [] g:=fun l r e g h1 h2 h3 h4=>by
  refine hq0 e g ?_
  rw[hdec,←h2,cont_err h1 (by rw[h3];exact h4),h3]
 refine ⟨.inl ⟨0,⟨rfl,hpos⟩,rfl,rfl,rfl,rfl,⟨rfl,rfl,rfl,rfl,trivial⟩⟩, ?_, ?_⟩
 ·rintro _ ⟨rfl,_⟩
  refine ⟨_,rfl,_,rfl,splitD (fun _ => ?_) (fun x=>absurd x (by omega))⟩
  have sh:∀e g,headEM s=e→e≠0→Q (.ret (.tup [.nils,.int .i64 e])) [] g:=fun e g h1 h2=>err [] s e g hn rfl h1 h2
  have e7:s.length<11→∀g,Q (.ret (.tup [.nils,.int .i64 7])) [] g:=fun h g=>sh 7 g (by rw[headEM,if_pos h]) (by omega)
  refine ⟨s,0,rfl,⟨by omega⟩,splitD (fun _ => ?_) (fun x=>absurd x (by omega))⟩
  refine ⟨_,rfl,s,_,rfl,s,_,rfl,⟨by omega⟩,splitD (fun h2 => ?_) (fun x=>⟨_,rfl,_,_,rfl,e7 (by omega) _⟩)⟩
  refine ⟨_,rfl,s,_,rfl,s,_,rfl,⟨by omega⟩,splitD (fun h3 => ?_) (fun x=>⟨_,rfl,_,_,rfl,e7 (by omega) _⟩)⟩
  refine ⟨_,rfl,s,_,rfl,s,_,rfl,⟨by omega⟩,splitD (fun h4 => ?_) (fun x=>⟨_,rfl,_,_,rfl,e7 (by omega) _⟩)⟩
  have h11:11≤s.length:=by omega
  have hsz:beM (List.take 2 (List.drop (Int.toNat (0+1+2+6)) s))=sizeRM s:=rfl
  have hsn:0≤sizeRM s:=be_nn _
  refine ⟨_,rfl,s,_,rfl, ?_⟩
  rw[hsz]
  refine splitD (fun h5=>sh 170 _ (by rw[headEM,if_neg (by omega),if_pos h5]) (by omega)) (fun h5=>⟨⟨by omega⟩,splitD (fun h6 => ?_) (fun h6=>⟨_,rfl,_,_,rfl,sh 7 _ (by rw[headEM,if_neg (by omega),if_neg h5,if_pos (by omega)]) (by omega)⟩)⟩)
  have hh:headEM s=0:=by rw[headEM,if_neg (by omega),if_neg h5,if_neg (by omega)]
  have hrl:(restRM s).length=s.length-(11+(sizeRM s).toNat):=by rw[restRM,List.length_drop]
  refine ⟨_,rfl,s,_,rfl,ckI (by rw[eqAVL_si];rfl) ⟨⟨rfl,rfl⟩,.inr ⟨([firstRM s],restRM s,_,_,_,_),⟨by simp, ?_, ?_, ?_⟩, ?_,rfl,rfl,rfl, ?_,rfl,rfl,rfl,rfl, ?_, ?_⟩⟩⟩
  ·simp only[List.length_cons,List.length_nil];omega
  ·rw[hrl,show s.length-(s.length-(11+(sizeRM s).toNat))=11+(sizeRM s).toNat by omega];rfl
  ·exact (cont_step (l:=[]) hn hh).symm
  ·dsimp only;omega
  ·congr 3
   dsimp only
   omega
  ·rw[show Int.toNat (0+1+2+6+2)=11 from rfl]
   rfl
  ·exact ⟨rfl,rfl,rfl,rfl,trivial⟩
 ·rintro ⟨l,r,d4,d5,d6,d7⟩ ⟨a1,a2,a3,a4⟩
  dsimp only at a1 a2 a3 a4 ⊢
  obtain ⟨p,hp⟩:∃p,p=s.length-r.length:=⟨_,rfl⟩
  rw[←hp] at a3 ⊢
  have hrs:r.length=s.length-p:=by rw[a3,List.length_drop]
  have hdd:∀k,s.drop (p+k)=r.drop k:=fun k=>by rw[a3,List.drop_drop]
  refine ⟨_,rfl,_,rfl,splitD (fun hlt => ?_) (fun hge => ?_)⟩
  ·have hrn:r≠[]:=fun h=>by rw[h] at hrs;simp at hrs;omega
   have sh:∀e g,headEM r=e→e≠0→Q (.ret (.tup [.nils,.int .i64 e])) [] g:=fun e g h1 h2=>err l r e g hrn a4 h1 h2
   have e7:r.length<11→∀g,Q (.ret (.tup [.nils,.int .i64 7])) [] g:=fun h g=>sh 7 g (by rw[headEM,if_pos h]) (by omega)
   refine ⟨s,p,rfl,⟨by omega⟩,splitD (fun _ => ?_) (fun x=>absurd x (by omega))⟩
   refine ⟨_,rfl,s,_,rfl,s,_,rfl,⟨by omega⟩,splitD (fun h2 => ?_) (fun x=>⟨_,rfl,_,_,rfl,e7 (by omega) _⟩)⟩
   refine ⟨_,rfl,s,_,rfl,s,_,rfl,⟨by omega⟩,splitD (fun h3 => ?_) (fun x=>⟨_,rfl,_,_,rfl,e7 (by omega) _⟩)⟩
   refine ⟨_,rfl,s,_,rfl,s,_,rfl,⟨by omega⟩,splitD (fun h4 => ?_) (fun x=>⟨_,rfl,_,_,rfl,e7 (by omega) _⟩)⟩
   have h11:11≤r.length:=by omega
   have hsz:beM (List.take 2 (List.drop (Int.toNat ((p:Int)+1+2+6)) s))=sizeRM r:=by
    rw[show Int.toNat ((p:Int)+1+2+6)=p+9 by omega,hdd];rfl
   have hsn:0≤sizeRM r:=be_nn _
   have hrl:(restRM r).length=r.length-(11+(sizeRM r).toNat):=by rw[restRM,List.length_drop]
   refine ⟨_,rfl,s,_,rfl, ?_⟩
   rw[hsz]
   refine splitD (fun h5=>sh 170 _ (by rw[headEM,if_neg (by omega),if_pos h5]) (by omega)) (fun h5=>⟨⟨by omega⟩,splitD (fun h6 => ?_) (fun h6=>⟨_,rfl,_,_,rfl,sh 7 _ (by rw[headEM,if_neg (by omega),if_neg h5,if_pos (by omega)]) (by omega)⟩)⟩)
   have hh:headEM r=0:=by rw[headEM,if_neg (by omega),if_neg h5,if_neg (by omega)]
   have hcl:=cellsR_len l
   refine ⟨_,rfl,s,_,rfl,ckI (by rw[eqAVL_si];rfl) (ckI (by rw[hcl];simp;omega) ⟨⟨rfl,rfl⟩,.inr ⟨(l++[firstRM r],restRM r,d4,d5,d6,d7),⟨by simp, ?_, ?_, ?_⟩, ?_, ?_,rfl,rfl, ?_,rfl,rfl,rfl,rfl, ?_, ?_⟩⟩)⟩
   ·simp only[List.length_append,List.length_cons,List.length_nil];omega
   ·rw[hrl,show s.length-(r.length-(11+(sizeRM r).toNat))=p+(11+(sizeRM r).toNat) by omega,hdd];rfl
   ·rw[←a4];exact (cont_step hrn hh).symm
   ·dsimp only;omega
   ·simp only[List.length_append,List.length_cons,List.length_nil,Nat.add_mul]
   ·congr 3
    dsimp only
    omega
   ·rw[cellsR_app]
    congr 1
    rw[show Int.toNat ((p:Int))=p+0 by omega,show Int.toNat ((p:Int)+1)=p+1 by omega,show Int.toNat ((p:Int)+1+2)=p+3 by omega,show Int.toNat ((p:Int)+1+2+6+2)=p+11 by omega,hdd,hdd,hdd,hdd]
    rfl
   ·exact ⟨rfl,rfl,rfl,rfl,trivial⟩
  ·have hr0:r=[]:=List.length_eq_zero_iff.1 (by omega)
   subst hr0
   exact hq1 l _ _ _ _ _ _ _ _ _ (by rw[hdec,←a4,cont_end]) a1

def plainB:AV→Bool
 | .int _ _=>true | .bool _=>true | .str _=>true | .nils=>true | .nilp=>true | _=>false
theorem map_plain (τ:Nat) (H:List Blk) (d:Nat):∀l:List AV,(∀x∈l,plainB x=true)→l.map (fun x=>frzV τ H (d+1) x)=l
 | [],_=>rfl
 | x::l,h=>by
  have hx:frzV τ H (d+1) x=x:=by
   have:=h x (by simp)
   cases x<;>first | rfl | simp[plainB] at this
  rw[List.map_cons,map_plain τ H d l fun y hy=>h y (by simp[hy]),hx]
theorem frz_sl {τ:Nat} {H:List Blk} {d id tot off len sz:Nat} {b:Blk} {cs:List AV} (hb:H[id]? = some b) (h1:b.cs.length=tot) (h2:off+len*sz≤tot) (hk:b.k≠.ro) (hc:(b.cs.drop off).take (len*sz)=cs) (hp:∀x∈cs,plainB x=true) :
  frzV τ H (d+2) (.sl id tot off len sz)=.lst τ cs len sz:=by
 have c1:b.cs.length.beq tot=true:=beq_t h1
 have c2:(off+len*sz).ble tot=true:=ble_t h2
 have c3:(b.k !=.ro)=true:=by simpa using hk
 rw[frzV]
 simp only[hb,c1,c2,c3,Bool.and_true,cond_true,hc,map_plain τ H d cs hp]
theorem cellsR_plain:∀l:List Rc,∀x∈cellsRM l,plainB x=true
 | [],x,h=>by simp[cellsRM] at h
 | r::l,x,h=>by
  rw[cellsRM,List.mem_append] at h
  rcases h with h | h
  ·simp only[rcM,List.mem_cons,List.not_mem_nil,or_false] at h
   rcases h with rfl | rfl | rfl | rfl<;>rfl
  ·exact cellsR_plain l x h
theorem frz_recs {H:List Blk} {id:Nat} {l:List Rc} {e:Int} (hb:H[id]? = some ⟨.grow,true,cellsRM l⟩):nlR [4] (frzV 0 H 9 (.tup [.sl id (l.length*4) 0 l.length 4,.int .i64 e]))=.tup [.lst 0 (cellsRM l) l.length 4,.int .i64 e]:=by
 have h:=frz_sl (τ:=0) (d:=6) (cs:=cellsRM l) (off:=0) (len:=l.length) (sz:=4) hb (cellsR_len l) (by omega) (by simp) (by rw[List.drop_zero];exact List.take_of_length_le (by rw[cellsR_len];omega)) (cellsR_plain l)
 have e1:frzV 0 H 9 (.tup [.sl id (l.length*4) 0 l.length 4,.int .i64 e])=.tup [frzV 0 H 8 (.sl id (l.length*4) 0 l.length 4),.int .i64 e]:=rfl
 rw[e1,h]
 rfl
def cDec:Con
 | [.str s],H,K=>Lf (s.length≤9223372036854775807)∧∀l e,Lf (decM s=(l,e))→K (.ret (.tup [.lst 0 (cellsRM l) l.length 4,.int .i64 e])) H
 | _,_,_=>False
theorem dec_ok:ValidF Tryz.prog gl0 46 cDec:=valid_frzD dfn16_ok (enters_of (by kernel_rfl)) gl0_noY 9 (nlR [4]) (wk_nlR _) fun args H Q hc=>by
 unfold cDec at hc
 split at hc
 ·rename_i s
  obtain ⟨⟨h1⟩,hq⟩:=hc
  obtain ⟨hv,hb',h⟩:=decode_run s h1 (Q:=fun o H' _=>∃v,o=.ret v∧Q (.ret (nlR [4] (frzV 0 H' 9 v))) H) (fun e g hd=>⟨_,rfl,hq [] e ⟨hd⟩⟩) (fun l g b1 b2 b3 d4 d5 d6 d7 b0 hd hl=>⟨_,rfl,by
   rw[frz_recs rfl]
   exact hq l 0 ⟨hd⟩⟩)
  exact ⟨rfl,rfl,_,1000,envFor04 smB_ok _ _ _,rfl,h⟩
 ·exact hc.elim
end Go.Proofs.YtjenieljapmehaaGreatDoor.Rc

/-
  Chapter 24: Decode.
-/
import Derived.Test.YtafchcmemeinlaaDoorCmH
set_option linter.unusedSimpArgs false
set_option linter.unusedVariables false
set_option linter.unusedSectionVars false
namespace Go.Proofs.YtafchcmemeinlaaDoor
open Go.RowKit
set_option maxRecDepth 1000000

def dC (s:List UInt8):Nat:=if 4≤s.length then 4+4*((s.getD 2 0).toNat*256+(s.getD 3 0).toNat) else 4
def aH4 (s:List UInt8):Ctl×Bool:=eD ((s.getD 1 0).toNat:Int) (((s.getD 0 0).toNat%32:Nat):Int) ((s.take (dC s)).drop 4)
def gW:Nat→List UInt8→List Ctl→Bool→Option (List Ctl×Bool)
 | 0,_,acc,g=>some (acc,g)
 | n+1,s,acc,g=>if s=[] then some (acc,g) else if s.length<dC s then none else gW n (s.drop (dC s)) (acc++[(aH4 s).1]) (g&&(aH4 s).2)
def bEp (s0:List UInt8) (acc:List Ctl) (g:Bool) (r:List UInt8):Prop:=acc.length*4+r.length≤s0.length∧(∀c∈acc,okC c)∧∃f,r.length≤f∧gW s0.length s0 [] true=gW f r acc g
def bQa:SM:=gH [(24,bGx),(38,bDn)]
theorem bDy:∀f g,bQa f=some g→aO Tryd.prog glC f g:=bW _ (by simp only[List.mem_cons,List.not_mem_nil,or_false,forall_eq_or_imp,forall_eq];exact ⟨bHx,bDf⟩)
def bIt (s0:List UInt8) (s:S):List (List LInv):=match s.hp with
 | [b0,b1,⟨_,_,_⟩,⟨_,_,_⟩,⟨_,_,_⟩]=>[[
  { α:=Nat,pre:=fun i=>Lf (i=0∧s0≠[]),st:=fun i=>⟨mkT [(0,s.tm.get 0),(1,s.tm.get 1)],s.hp⟩,mu:=fun i=>s0.length+1 },
  { α:=List Ctl×Bool×List UInt8×List AV×List AV,pre:=fun x=>Lf (1≤x.1.length∧bEp s0 x.1 x.2.1 x.2.2.1),st:=fun x=>⟨mkT [(0,s.tm.get 0),(1,s.tm.get 1)],[b0,b1,⟨.exact,false,[.sl 7 (13*x.1.length) 0 x.1.length 13]⟩,⟨.exact,true,[.bool x.2.1]⟩,⟨.exact,true,[.str x.2.2.1]⟩,⟨.exact,true,x.2.2.2.1⟩,⟨.exact,true,x.2.2.2.2⟩,⟨.grow,true,aG x.1⟩]⟩,mu:=fun x=>x.2.2.1.length }]]
 | _=>[]
noncomputable def aPi (hv:Nat→Option Pa) (hb:Nat→Option Bool) (s0:List UInt8):Env:=e24 bQa (fun i=>bif Nat.beq i 57000 then some (bIt s0) else none) hv hb
noncomputable def aF7 (hv:Nat→Option Pa) (hb:Nat→Option Bool) (s:List UInt8) (Q:Out→List Blk→Gh→Prop):Prop:=
 bH (aPi hv hb s) (wpx (aPi hv hb s) 1000) 14 [.str s] [] {} Q
def lpK (s:List UInt8) (n_0:Int):Prop:=
aK [Lp.mk 0 (T.n (T.n (T.n (T.n (T.n T.e (.str s) T.e) .undef T.e) (.ptr 1 1 0) T.e) .undef (T.n (T.n (T.n T.e (.str s) T.e) .undef T.e) (.ptr 3 1 0) (T.n T.e (.int .i64 n_0) T.e))) (.str s) (T.n (T.n (T.n (T.n T.e (.bool
 false) T.e) .undef T.e) (.ptr 2 1 0) (T.n T.e (.str s) T.e)) (.ptr 0 1 0) (T.n (T.n (T.n T.e (.fn (Fn.func 57) [] [.ptr 4 1 0]) T.e) .undef T.e) .undef (T.n T.e (.bool false) T.e)))) [19,20] (AC.seq (AC.region [AOper.mk
 (Option.some (6:Nat)) (AOp.mv (AO.t 19)) Option.none 0 0]) (AC.region [AOper.mk (Option.some (7:Nat)) (AOp.mv (AO.t 20)) Option.none 0 0])) (AC.block 1 (AC.seq (AC.seq (AC.region [AOper.mk (Option.some (21:Nat)) (AOp.mv (AO.t 7))
 Option.none 0 0,AOper.mk (Option.some (22:Nat)) (AOp.un Go.UnOp.not (AO.t 21)) Option.none 0 0]) (AC.cond (AO.t 22) (AC.seq (AC.region [AOper.mk Option.none (AOp.st 1 (AO.t 2) (AO.c .nils)) Option.none 0 0,AOper.mk Option.none (AOp.st
 1 (AO.t 3) (AO.c (.int .i64 7))) Option.none 0 0]) AC.ret) AC.skip)) (AC.seq (AC.drawn [AOper.mk (Option.some (24:Nat)) (AOp.mv (AO.t 6)) Option.none 0 0,AOper.mk (Option.some (25:Nat)) (AOp.ixS (AO.t 24) (AO.c (.int
 IntKind.i64 1))) Option.none 1 1,AOper.mk (Option.some (26:Nat)) (AOp.conv (CV.toInt IntKind.i64) (AO.t 25)) Option.none 2 3,AOper.mk (Option.some (27:Nat)) (AOp.mv (AO.t 6)) Option.none 3 0,AOper.mk (Option.some (28:Nat))
 (AOp.ixS (AO.t 27) (AO.c (.int .i64 0))) Option.none 4 8,AOper.mk (Option.some (29:Nat)) (AOp.bin Go.BinOp.and Sh.it (AO.t 28) (AO.c (.int .u8 31))) Option.none 5 24,AOper.mk (Option.some (30:Nat)) (AOp.conv (CV.toInt
 IntKind.i64) (AO.t 29)) Option.none 6 56,AOper.mk (Option.some (31:Nat)) (AOp.mv (AO.t 6)) Option.none 7 0,AOper.mk (Option.some (32:Nat)) (AOp.slS (AO.t 31) (Option.some (AO.c (.int .i64 4))) Option.none) Option.none 8 128,
 AOper.mk (Option.some (8:Nat)) (AOp.box (AO.c (.agg [.int .i64 0,.int .i64 0,.int .i64 0,.int .i64 0,.int .i64 0,.int .i64 0,.int .i64 0,.int .i64 0,.nils,.nils,.int
 IntKind.i64 0,.int .i64 0,.nils]))) Option.none 13 0,AOper.mk (Option.some (33:Nat)) (AOp.call (AO.c (.fn (Fn.func 38) [] [])) [AO.t 26,AO.t 30,AO.t 32]) Option.none 9 511,AOper.mk (Option.some (23:Nat)) (AOp.mv (AO.t 33))
 Option.none 10 1023,AOper.mk (Option.some (34:Nat)) (AOp.ext (AO.t 23) 0) Option.none 11 2047,AOper.mk (Option.some (35:Nat)) (AOp.ext (AO.t 23) 1) Option.none 12 2047,AOper.mk Option.none (AOp.st 13 (AO.t 8) (AO.t 34)) Option.none
 14 12287,AOper.mk (Option.some (9:Nat)) (AOp.mv (AO.t 35)) Option.none 15 32767]) (AC.drawn [AOper.mk (Option.some (36:Nat)) (AOp.ld false 1 (AO.t 4)) Option.none 0 0,AOper.mk (Option.some (37:Nat)) (AOp.ld true 13 (AO.t
 8)) Option.none 1 0,AOper.mk (Option.some (38:Nat)) (AOp.bsl [.int .i64 0,.int .i64 0,.int .i64 0,.int .i64 0,.int .i64 0,.int .i64 0,.int .i64 0,.int .i64 0,.nils,.nils,
 .int .i64 0,.int .i64 0,.nils] 13 1 [Prod.mk (0:Nat) (Prod.mk (13:Nat) (AO.t 37))]) Option.none 2 2,AOper.mk (Option.some (40:Nat)) (AOp.ld false 1 (AO.t 5)) Option.none 4 0,AOper.mk (Option.some (39:Nat))
 (AOp.app 13 152 Option.none (AO.t 36) (AO.t 38)) Option.none 3 7,AOper.mk (Option.some (41:Nat)) (AOp.mv (AO.t 40)) Option.none 5 31,AOper.mk (Option.some (42:Nat)) (AOp.mv (AO.t 9)) (Option.some (Prod.mk (41:Nat) true)) 6 63,
 AOper.mk (Option.some (43:Nat)) (AOp.pick (AO.t 41) (AO.t 42) (AO.c (.bool false))) Option.none 7 127,AOper.mk Option.none (AOp.st 1 (AO.t 4) (AO.t 39)) Option.none 8 63,AOper.mk Option.none (AOp.st 1 (AO.t 5) (AO.t 43))
 Option.none 9 511])))) Lst.ready 14]
abbrev aM3:Out:=.ret (.tup [.nils,.int .i64 7])
abbrev aZ4 (x_1:Nat) (s:List UInt8):Prop:=Lf (x_1=0∧s≠[])
abbrev aS8:Prop:=[AV.nils]=[AV.nils]
abbrev aX5:Prop:=aK [AV.int .i64 0]
abbrev aEq:Prop:=aK (AV.yld 0)∧aK (AV.ptr 4 1 0)∧True
abbrev aS3 (x_1:List Ctl×Bool×List UInt8×List AV×List AV) (s:List UInt8):Prop:=Lf (1≤x_1.1.length∧bEp s x_1.1 x_1.2.1 x_1.2.2.1)
abbrev bH6:Prop:=[AV.nils]=[AV.nils]∧aK [AV.int .i64 0]∧False
abbrev aP6 (n_5:Int):Nat:=(n_5%18446744073709551616).toNat
abbrev aHr (n_10:Int):Bool:=decide (0≤n_10)&&true
abbrev aPb (s_12:List UInt8):Int:=(UInt8.toNat (s_12.getD 1 (UInt8.ofNat 0)):Int)
abbrev aN5 (s_12:List UInt8):Int:=(UInt8.toNat (s_12.getD 0 (UInt8.ofNat 0)):Int)
abbrev aN6 (n_15:Int):Int:=(((n_15%256).toNat &&& 31:Nat):Int)
abbrev aHi (s_12:List UInt8):Bool:=Nat.ble 4 s_12.length&&Nat.ble s_12.length s_12.length
abbrev aGj (s_12:List UInt8):AV:=.str ((s_12.drop 4).take (s_12.length-4))
abbrev aO5 (n_17:Int) (s_18:List UInt8):Prop:=Lf (0≤n_17∧n_17≤31∧s_18.length≤10000)
abbrev aIo (s:List UInt8) (n_0:Int):Prop:=lpK s n_0∧(1:Nat)=(1:Nat)
abbrev aOb (s:List UInt8):Prop:=∃y_22:Nat,Lf (y_22=0∧s≠[])∧s.length+1<s.length+1∧bH6
abbrev aQm:AV:=.sl 7 13 0 1 13
abbrev aQv (y_22:List Ctl×Bool×List UInt8×List AV×List AV):AV:=.sl 7 (13*y_22.1.length) 0 y_22.1.length 13
abbrev aMj (ct_19:Ctl):List AV:=[.int .i64 ct_19.1,.int .i64 ct_19.2,.int .i64 ct_19.3,.int .i64 ct_19.4,.int .i64 ct_19.5,.int .i64 ct_19.6,.int .i64 ct_19.7,.int .i64 ct_19.8,.lst 0 (aF ct_19.9) ct_19.9.length 7,.lst 0 (aA ct_19.10) ct_19.10.length 1,.int .i64 ct_19.11,.int .i64 ct_19.12,.lst 0 (aA ct_19.13) ct_19.13.length 1]
abbrev bN9 (ct_11:Ctl):List AV:=[.int .i64 ct_11.1,.int .i64 ct_11.2,.int .i64 ct_11.3,.int .i64 ct_11.4,.int .i64 ct_11.5,.int .i64 ct_11.6,.int .i64 ct_11.7,.int .i64 ct_11.8,.lst 0 (aF ct_11.9) ct_11.9.length 7,.lst 0 (aA ct_11.10) ct_11.10.length 1,.int .i64 ct_11.11,.int .i64 ct_11.12,.lst 0 (aA ct_11.13) ct_11.13.length 1]
abbrev bEs (l_2:List Ctl):Prop:=l_2.length≤1000000∧∀c_3:Ctl,Membership.mem l_2 c_3→okC c_3
abbrev aMi (Q:Out→List Blk→Gh→Prop):Prop:=Q (.ret (.tup [.nils,.int .i64 5])) [] (Gh.mk 0 1 [])
abbrev aQ0:AV:=.int .i64 0
abbrev aZq (x_1:List Ctl×Bool×List UInt8×List AV×List AV):Bool:=Nat.beq (aG x_1.1).length (13*x_1.1.length)&&true&&Nat.beq (0+x_1.1.length*13) (13*x_1.1.length)&&Nat.ble (x_1.1.length+1) 1099511627776&&Nat.ble ((x_1.1.length+1)*152) 1099511627776
abbrev aLp (x_1:List Ctl×Bool×List UInt8×List AV×List AV):Bool:=bK [.bool x_1.2.1] [.bool x_1.2.1]&&true
abbrev aTv (x_1 y_22:List Ctl×Bool×List UInt8×List AV×List AV):Prop:=[AV.sl 7 (13*x_1.1.length+13) 0 (x_1.1.length+1) 13]=[AV.sl 7 (13*y_22.1.length) 0 y_22.1.length 13]
abbrev bM3 (s_21:List UInt8) (y_22 x_1:List Ctl×Bool×List UInt8×List AV×List AV) (ct_19:Ctl):Prop:=[AV.str s_21]=[AV.str y_22.2.2.1]∧x_1.2.2.2.1=y_22.2.2.2.1∧x_1.2.2.2.2=y_22.2.2.2.2∧aG x_1.1++aMj ct_19=aG y_22.1∧aEq
abbrev bD4 (s:List UInt8) (n_0:Int) (x_1:List Ctl×Bool×List UInt8×List AV×List AV) (s_21:List UInt8) (ct_19:Ctl):Prop:=(lpK s n_0∧(1:Nat)=(1:Nat))∧((∃y_22:Nat,Lf (y_22=0∧s≠[])∧s.length+1<x_1.2.2.1.length∧bH6)∨∃y_22:List Ctl×Bool×List UInt8×List AV×List AV,aS3 y_22 s∧y_22.2.2.1.length<x_1.2.2.1.length∧aS8∧aX5∧aTv x_1 y_22∧[AV.bool true]=[AV.bool y_22.2.1]∧bM3 s_21 y_22 x_1 ct_19)
abbrev bEe (s:List UInt8) (x_1:List Ctl×Bool×List UInt8×List AV×List AV):Prop:=∃y_14:Nat,Lf (y_14=0∧s≠[])∧s.length+1<x_1.2.2.1.length∧bH6
abbrev bLk (s:List UInt8) (n_0:Int) (x_1:List Ctl×Bool×List UInt8×List AV×List AV) (s_21:List UInt8) (ct_19:Ctl):Prop:=aIo s n_0∧(bEe s x_1∨∃y_22:List Ctl×Bool×List UInt8×List AV×List AV,aS3 y_22 s∧y_22.2.2.1.length<x_1.2.2.1.length∧aS8∧aX5∧aTv x_1 y_22∧[AV.bool false]=[AV.bool y_22.2.1]∧[AV.str s_21]=[AV.str y_22.2.2.1]∧x_1.2.2.2.1=y_22.2.2.2.1∧x_1.2.2.2.2=y_22.2.2.2.2∧aG x_1.1++aMj ct_19=aG y_22.1∧aEq)
abbrev bLv (x_1:List Ctl×Bool×List UInt8×List AV×List AV) (n_10:Int) (s:List UInt8) (n_0:Int) (ct_19:Ctl):Prop:=ckQ (aZq x_1) (ckQ (bK [.bool x_1.2.1] [.bool x_1.2.1]&&true) (ckQ (aHr n_10&&Nat.ble n_10.toNat x_1.2.2.1.length&&Nat.ble x_1.2.2.1.length x_1.2.2.1.length) (exS (.str ((x_1.2.2.1.drop n_10.toNat).take (x_1.2.2.1.length-n_10.toNat))) (fun s_21=>bLk s n_0 x_1 s_21 ct_19))))
abbrev aSv (x_1:List Ctl×Bool×List UInt8×List AV×List AV):Bool:=Nat.ble 4 x_1.2.2.1.length&&Nat.ble x_1.2.2.1.length x_1.2.2.1.length
abbrev aOk (x_1:List Ctl×Bool×List UInt8×List AV×List AV):AV:=.str ((x_1.2.2.1.drop 4).take (x_1.2.2.1.length-4))
abbrev aXi (x_1:List Ctl×Bool×List UInt8×List AV×List AV):Blk:=Blk.mk BK.exact false [.sl 7 (13*x_1.1.length) 0 x_1.1.length 13]
theorem bOp (s:List UInt8) (Q:Out→List Blk→Gh→Prop):aF7 (bG [(57357,.int .i64),(233479,.int .i64),(233483,.int .u8),(233484,.int .i64),(233485,.int .i64),(233487,.int .u8),(233488,.int .i64),(233489,.int
 .i64),(233490,.int .i64),(233491,.int .i64),(233493,.int .i64),(233502,.str),(57369,.int .u8),(57370,.int .i64),(57372,.int .u8),(57373,.int .u8),(57374,.int .i64),(57376,.str),(233507,.str)]) (bF []) s Q=(exI
 IntKind.i64 (s.length:Int) (fun n_0=>bif decide (n_0>1200) then Q (.ret (.tup [.nils,.int .i64 3])) [] {} else bif eqB s [] then Q aM3 [] {} else ((∃x_1:Nat,aZ4 x_1 s∧aS8∧aX5∧aS8∧aK [AV.bool true]∧aK
 [AV.str s]∧aEq)∨∃x_1:List Ctl×Bool×List UInt8×List AV×List AV,aS3 x_1 s∧bH6)∧(∀x_1:Nat,aZ4 x_1 s→bif !eqB s [] then exI .i64 (s.length:Int) (fun n_2=>bif decide (n_2≥4) then ckQ (Nat.blt 2
 s.length) (exI .u8 (UInt8.toNat (s.getD 2 (UInt8.ofNat 0)):Int) (fun n_3=>exW .i64 n_3 (fun n_4=>exW .i64 (n_4*256) (fun n_5=>ckQ (Nat.blt 3 s.length) (exI .u8 (UInt8.toNat (s.getD 3 (UInt8.ofNat 0)) :
 Int) (fun n_6=>exW .i64 n_6 (fun n_7=>exW .i64 ((aP6 n_5 ||| aP6 n_7:Nat):Int) (fun n_8=>exW .i64 (4*n_8) (fun n_9=>exW .i64 (4+n_9) (fun n_10=>exI .i64 (s.length:Int) (fun n_11=>
 bif decide (n_11<n_10) then Q aM3 [] (Gh.mk 0 1 []) else ckQ (aHr n_10&&Nat.ble n_10.toNat s.length) (exS (.str ((s.drop 0).take (n_10.toNat-0))) (fun s_12=>ckQ (Nat.blt 1 s_12.length) (exI .u8 (aPb s_12) (fun n_13=>
 exW .i64 n_13 (fun n_14=>ckQ (Nat.blt 0 s_12.length) (exI .u8 (aN5 s_12) (fun n_15=>exW .u8 (aN6 n_15) (fun n_16=>exW .i64 n_16 (fun n_17=>ckQ (aHi s_12) (exS (aGj s_12) (fun s_18=>aO5 n_17
 s_18∧∀ct_19:Ctl,∀f_20:Bool,Lf (eD n_14 n_17 s_18=Prod.mk ct_19 f_20)→bif f_20 then ckQ (aHr n_10&&Nat.ble n_10.toNat s.length&&Nat.ble s.length s.length) (exS (.str ((s.drop n_10.toNat).take (s.length-n_10.toNat)))
 (fun s_21=>aIo s n_0∧(aOb s∨∃y_22:List Ctl×Bool×List UInt8×List AV×List AV,aS3 y_22 s∧y_22.2.2.1.length<s.length+1∧aS8∧aX5∧[aQm]=[aQv y_22]∧[AV.bool true]=[AV.bool y_22.2.1]∧[AV.str s_21] =
 [AV.str y_22.2.2.1]∧aMj ct_19=y_22.2.2.2.1∧aMj ct_19=y_22.2.2.2.2∧aMj ct_19=aG y_22.1∧aEq))) else ckQ (aHr n_10&&Nat.ble n_10.toNat s.length&&Nat.ble s.length s.length) (exS (.str ((s.drop n_10.toNat).take
 (s.length-n_10.toNat))) (fun s_21=>aIo s n_0∧(aOb s∨∃y_22:List Ctl×Bool×List UInt8×List AV×List AV,aS3 y_22 s∧y_22.2.2.1.length<s.length+1∧aS8∧aX5∧[aQm]=[aQv y_22]∧[AV.bool false]=[AV.bool
 y_22.2.1]∧[AV.str s_21]=[AV.str y_22.2.2.1]∧aMj ct_19=y_22.2.2.2.1∧aMj ct_19=y_22.2.2.2.2∧aMj ct_19=aG y_22.1∧aEq))))))))))))))))))))))))) else exI .i64 (s.length:Int) (fun n_3=>bif decide (n_3<4)
 then Q aM3 [] (Gh.mk 0 1 []) else ckQ (Nat.ble 4 s.length) (exS (.str ((s.drop 0).take 4)) (fun s_4=>ckQ (Nat.blt 1 s_4.length) (exI .u8 (aPb s_4) (fun n_5=>exW .i64 n_5 (fun n_6=>ckQ (Nat.blt 0 s_4.length) (exI
 IntKind.u8 (aN5 s_4) (fun n_7=>exW .u8 (aN6 n_7) (fun n_8=>exW .i64 n_8 (fun n_9=>ckQ (aHi s_4) (exS (aGj s_4) (fun s_10=>aO5 n_9 s_10∧∀ct_11:Ctl,∀f_12:Bool,Lf (eD n_6 n_9 s_10=Prod.mk ct_11
 f_12)→bif f_12 then ckQ (aHi s) (exS (aGj s) (fun s_13=>aIo s n_0∧(aOb s∨∃y_14:List Ctl×Bool×List UInt8×List AV×List AV,aS3 y_14 s∧y_14.2.2.1.length<s.length+1∧aS8∧aX5∧[aQm]=[aQv y_14] ∧
 [AV.bool true]=[AV.bool y_14.2.1]∧[AV.str s_13]=[AV.str y_14.2.2.1]∧bN9 ct_11=y_14.2.2.2.1∧aMj ct_11=y_14.2.2.2.2∧aMj ct_11=aG y_14.1∧aEq))) else ckQ (aHi s) (exS (aGj s) (fun s_13=>aIo s n_0∧(aOb
 s∨∃y_14:List Ctl×Bool×List UInt8×List AV×List AV,aS3 y_14 s∧y_14.2.2.1.length<s.length+1∧aS8∧aX5∧[aQm]=[aQv y_14]∧[AV.bool false]=[AV.bool y_14.2.1]∧[AV.str s_13]=[AV.str y_14.2.2.1]∧aMj ct_11
 = y_14.2.2.2.1∧bN9 ct_11=y_14.2.2.2.2∧aMj ct_11=aG y_14.1∧aEq)))))))))))))))) else ∃l_2:List Ctl,Lf (([]:List AV)=aG l_2∧0=l_2.length∧bEs l_2)∧∀s_3:List UInt8,∀e_4:Int,Lf (aD6 l_2 =
 Prod.mk s_3 e_4)→bif e_4 !=0 then aMi Q else bif !eqB s_3 s then aMi Q else Q (.ret (.tup [.nils,aQ0])) [] (Gh.mk 0 1 []))∧∀x_1:List Ctl×Bool×List UInt8×List AV×List AV,aS3 x_1 s→bif !eqB x_1.2.2.1 [] then exI
 IntKind.i64 (x_1.2.2.1.length:Int) (fun n_2=>bif decide (n_2≥4) then ckQ (Nat.blt 2 x_1.2.2.1.length) (exI .u8 (UInt8.toNat (x_1.2.2.1.getD 2 (UInt8.ofNat 0)):Int) (fun n_3=>exW .i64 n_3 (fun n_4=>exW .i64
 (n_4*256) (fun n_5=>ckQ (Nat.blt 3 x_1.2.2.1.length) (exI .u8 (UInt8.toNat (x_1.2.2.1.getD 3 (UInt8.ofNat 0)):Int) (fun n_6=>exW .i64 n_6 (fun n_7=>exW .i64 ((aP6 n_5 ||| aP6 n_7:Nat):Int) (fun n_8=>
 exW .i64 (4*n_8) (fun n_9=>exW .i64 (4+n_9) (fun n_10=>exI .i64 (x_1.2.2.1.length:Int) (fun n_11=>bif decide (n_11<n_10) then Q aM3 [] (Gh.mk 0 1 []) else ckQ (aHr n_10&&Nat.ble n_10.toNat
 x_1.2.2.1.length) (exS (.str ((x_1.2.2.1.drop 0).take (n_10.toNat-0))) (fun s_12=>ckQ (Nat.blt 1 s_12.length) (exI .u8 (aPb s_12) (fun n_13=>exW .i64 n_13 (fun n_14=>ckQ (Nat.blt 0 s_12.length) (exI .u8
 (aN5 s_12) (fun n_15=>exW .u8 (aN6 n_15) (fun n_16=>exW .i64 n_16 (fun n_17=>ckQ (aHi s_12) (exS (aGj s_12) (fun s_18=>aO5 n_17 s_18∧∀ct_19:Ctl,∀f_20:Bool,Lf (eD n_14 n_17 s_18=Prod.mk ct_19
 f_20)→bif f_20 then bif x_1.2.1 then ckQ (aZq x_1) (ckQ (aLp x_1) (ckQ (aHr n_10&&Nat.ble n_10.toNat x_1.2.2.1.length&&Nat.ble x_1.2.2.1.length x_1.2.2.1.length) (exS (.str ((x_1.2.2.1.drop n_10.toNat).take (x_1.2.2.1.length -
 n_10.toNat))) (fun s_21=>bD4 s n_0 x_1 s_21 ct_19)))) else bLv x_1 n_10 s n_0 ct_19 else bif x_1.2.1 then bLv x_1 n_10 s n_0 ct_19 else bLv x_1 n_10 s n_0 ct_19)))))))))))))))))))))) else exI .i64 (x_1.2.2.1.length:Int)
 (fun n_3=>bif decide (n_3<4) then Q aM3 [] (Gh.mk 0 1 []) else ckQ (Nat.ble 4 x_1.2.2.1.length) (exS (.str ((x_1.2.2.1.drop 0).take 4)) (fun s_4=>ckQ (Nat.blt 1 s_4.length) (exI .u8 (aPb s_4) (fun n_5=>exW .i64
 n_5 (fun n_6=>ckQ (Nat.blt 0 s_4.length) (exI .u8 (aN5 s_4) (fun n_7=>exW .u8 (aN6 n_7) (fun n_8=>exW .i64 n_8 (fun n_9=>ckQ (aHi s_4) (exS (aGj s_4) (fun s_10=>aO5 n_9 s_10∧∀ct_11:Ctl,∀f_12
 : Bool,Lf (eD n_6 n_9 s_10=Prod.mk ct_11 f_12)→bif f_12 then bif x_1.2.1 then ckQ (aZq x_1) (ckQ (aLp x_1) (ckQ (aSv x_1) (exS (aOk x_1) (fun s_13=>bD4 s n_0 x_1 s_13 ct_11)))) else ckQ (aZq x_1) (ckQ (aLp x_1) (ckQ
 (aSv x_1) (exS (aOk x_1) (fun s_13=>aIo s n_0∧(bEe s x_1∨∃y_14:List Ctl×Bool×List UInt8×List AV×List AV,aS3 y_14 s∧y_14.2.2.1.length<x_1.2.2.1.length∧aS8∧aK [AV.int .i64 0]∧aTv x_1 y_14 ∧
 [AV.bool false]=[AV.bool y_14.2.1]∧bM3 s_13 y_14 x_1 ct_11))))) else bif x_1.2.1 then ckQ (aZq x_1) (ckQ (aLp x_1) (ckQ (aSv x_1) (exS (aOk x_1) (fun s_13=>bLk s n_0 x_1 s_13 ct_11)))) else ckQ (aZq x_1) (ckQ (aLp x_1)
 (ckQ (aSv x_1) (exS (aOk x_1) (fun s_13=>bLk s n_0 x_1 s_13 ct_11))))))))))))))))) else ckQ (Nat.beq (aG x_1.1).length (13*x_1.1.length)&&Nat.ble (0+x_1.1.length*13) (13*x_1.1.length)&&true) (∃l_2:List Ctl,Lf
 (List.map (fun (x_3:AV)=>dK 1 [Blk.mk BK.exact true [.nils],Blk.mk BK.exact true [aQ0],aXi x_1,Blk.mk BK.exact true [.bool x_1.2.1],Blk.mk BK.exact true [.str x_1.2.2.1],Blk.mk BK.exact true x_1.2.2.2.1,Blk.mk BK.exact true
 x_1.2.2.2.2,Blk.mk BK.grow true (aG x_1.1)] 8 x_3) (((aG x_1.1).drop 0).take (x_1.1.length*13))=aG l_2∧x_1.1.length=l_2.length∧bEs l_2)∧∀s_3:List UInt8,∀e_4:Int,Lf (aD6 l_2=Prod.mk s_3 e_4)→bif
 x_1.2.1 then bif e_4 !=0 then aMi Q else bif !eqB s_3 s then aMi Q else Q (.ret (.tup [.sl 7 (13*x_1.1.length) 0 x_1.1.length 13,aQ0])) [aXi x_1,Blk.mk BK.exact true [aQ0],aXi x_1,Blk.mk BK.exact true [.bool x_1.2.1],
 Blk.mk BK.exact true [.str x_1.2.2.1],Blk.mk BK.exact true x_1.2.2.2.1,Blk.mk BK.exact true x_1.2.2.2.2,Blk.mk BK.grow true (aG x_1.1)] (Gh.mk 0 1 []) else aMi Q))):=by kernel_rfl

theorem yX:∀ (n:Nat) (l:List UInt8) (b:Bool),(eU n l b).1.length=n
 | 0,_,_=>rfl
 | n+1,l,b=>by rw[eU];simp[yX n]
theorem aJ9:∀ (n:Nat) (l:List UInt8) (b:Bool),(gZ n l b).1.length≤17*n
 | 0,_,_=>by simp[gZ]
 | n+1,l,b=>by
  rw[gZ]
  split
  ·have h1:=aJ9 n (tkM 2 (tkM 2 l b).2.1 (tkM 2 l b).2.2).2.1 (tkM 2 (tkM 2 l b).2.1 (tkM 2 l b).2.2).2.2
   have h2:=qE (tkM 2 l b).1 (tkM 2 (tkM 2 l b).2.1 (tkM 2 l b).2.2).1 16
   simp only[List.length_append,List.length_cons]
   omega
  ·simp
theorem qQ (sg:List Int):∀ (n i:Nat) (la:Int) (l:List UInt8) (b:Bool) (acc:List Int),(eH sg n i la l b acc).1.length≤acc.length+n
 | 0,_,_,_,_,acc=>by simp[eH]
 | n+1,i,la,l,b,acc=>by
  rw[eH]
  split
  ·first | (simp;done) | (simp;omega)
  ·split
   ·exact Nat.le_trans (qQ sg n _ _ _ _ _) (by simp;omega)
   ·split
    ·exact Nat.le_trans (qQ sg n _ _ _ _ _) (by simp;omega)
    ·exact Nat.le_trans (qQ sg n _ _ _ _ _) (by simp;omega)
theorem aTj {k c:Int} {s:List UInt8} {ct:Ctl} {f:Bool} (h:eD k c s=(ct,f)) (hc:0≤c∧c≤31) (hs:s.length≤10000):okC ct:=by
 have e:ct=(eD k c s).1:=by rw[h]
 subst e
 have nil:∀k n:Int,okC ⟨k,n,0,0,0,0,0,0,[],[],0,0,[]⟩:=fun k n=>⟨Nat.zero_le _,Nat.zero_le _,Nat.zero_le _⟩
 have h00:∀k,okC (nJ k s).1:=fun k=>by
  unfold nJ
  split
  exact ⟨Nat.zero_le _,Nat.zero_le _,Nat.zero_le _⟩
 unfold eD
 split
 ·have hl:=yX c.toNat
  unfold aEj
  repeat' split
  rename_i l5 b5 _ _ rs l6 b6 hr
  have:=hl l5 b5
  rw[hr] at this
  exact ⟨by dsimp only at this ⊢;omega,Nat.zero_le _,Nat.zero_le _⟩
 ·split
  ·have hl:=yX c.toNat
   unfold aFa
   repeat' split
   rename_i l5 b5 _ _ rs l6 b6 hr
   have:=hl l5 b5
   rw[hr] at this
   exact ⟨by dsimp only at this ⊢;omega,Nat.zero_le _,Nat.zero_le _⟩
  ·split
   ·exact h00 _
   ·split
    ·unfold aFg
     repeat' split
     exact ⟨Nat.zero_le _,Nat.zero_le _,Nat.zero_le _⟩
    ·split
     ·unfold bKw
      split
      rename_i n l b h0
      split
      rename_i n1 l1 b1 h1
      split
      rename_i lo l2 b2 h2
      have t0:=(nG h0 (by decide)).1
      have t1:=(nG h1 (by decide)).1
      have t2:=aJ9 l1.length l1 b1
      rw[h2] at t2
      exact ⟨Nat.zero_le _,by dsimp only at t2 ⊢;omega,Nat.zero_le _⟩
     ·split
      ·unfold bJc
       split
       split
       split
       split
       rename_i cc l3 b3 h3
       split
       split
       split
       split
       rename_i tm bf h8
       have t3:=nI h3
       have t8:=congrArg (fun p=>p.1.length) h8
       dsimp only at t8
       have t9:=qQ
       refine ⟨Nat.zero_le _,Nat.zero_le _, ?_⟩
       dsimp only
       rw[←t8]
       refine Nat.le_trans (qQ _ _ _ _ _ _ _) ?_
       simp only[List.length_nil]
       omega
      ·exact h00 _
theorem aF5 (r:List UInt8):4≤dC r:=by unfold dC;split<;>omega
theorem bJv {r:List UInt8} {ct:Ctl} {f:Bool} (h:aH4 r=(ct,f)) (hr:r.length≤1200):okC ct:=
 aTj h ⟨by omega,by omega⟩ (by rw[List.length_drop,List.length_take];omega)
theorem uR (s0:List UInt8):bEp s0 [] true s0:=⟨by simp,by simp,_,Nat.le_refl _,rfl⟩
theorem aCc {s0 r:List UInt8} {acc:List Ctl} {g f:Bool} {ct:Ctl} (h:bEp s0 acc g r) (hs:s0.length≤1200) (hr:r≠[]) (hl:dC r≤r.length) (e:aH4 r=(ct,f)):bEp s0 (acc++[ct]) (g&&f) (r.drop (dC r)):=by
 obtain ⟨h1,h2,n,h3,h4⟩:=h
 have hp:=aF5 r
 obtain ⟨n,rfl⟩:∃m,n=m+1:=⟨n-1,by have:=List.length_pos_iff.2 hr;omega⟩
 refine ⟨by simp only[List.length_append,List.length_cons,List.length_nil,List.length_drop];omega, ?_,n,by rw[List.length_drop];omega, ?_⟩
 ·intro c hc
  rw[List.mem_append] at hc
  rcases hc with hc | hc
  ·exact h2 c hc
  ·simp only[List.mem_cons,List.not_mem_nil,or_false] at hc
   subst hc
   exact bJv e (by omega)
 ·rw[h4,gW,if_neg hr,if_neg (by omega),e]
theorem qL {s0 r:List UInt8} {acc:List Ctl} {g:Bool} (h:bEp s0 acc g r) (hr:r≠[]) (hl:r.length<dC r):gW s0.length s0 [] true=none:=by
 obtain ⟨h1,h2,n,h3,h4⟩:=h
 obtain ⟨n,rfl⟩:∃m,n=m+1:=⟨n-1,by have:=List.length_pos_iff.2 hr;omega⟩
 rw[h4,gW,if_neg hr,if_pos hl]
theorem bDo {s0:List UInt8} {acc:List Ctl} {g:Bool} (h:bEp s0 acc g []):gW s0.length s0 [] true=some (acc,g):=by
 obtain ⟨h1,h2,n,h3,h4⟩:=h
 rw[h4]
 cases n with
 | zero=>rfl
 | succ n=>rw[gW,if_pos rfl]
theorem hdI {r:List UInt8} (h4:4≤r.length) {K:Int→Prop} (h:K ((dC r:Nat):Int)) :
  ckQ (Nat.blt 2 r.length) (exI .u8 ((r.getD 2 (UInt8.ofNat 0)).toNat:Int) fun n3=>exW .i64 n3 fun n4=>exW .i64 (n4*256) fun n5=>ckQ (Nat.blt 3 r.length) (exI .u8 ((r.getD 3 (UInt8.ofNat 0)).toNat:Int) fun n6=>exW .i64 n6 fun n7=>exW .i64 (((n5%18446744073709551616).toNat ||| (n7%18446744073709551616).toNat:Nat):Int) fun n8=>exW .i64 (4*n8) fun n9=>exW .i64 (4+n9) fun n10=>K n10)):=by
 have e:(UInt8.ofNat 0)=(0:UInt8):=rfl
 rw[e]
 rw[dC,if_pos h4] at h
 have h2:=(r.getD 2 0).toNat_lt
 have h3:=(r.getD 3 0).toNat_lt
 generalize (r.getD 2 0).toNat=a at h h2 ⊢
 generalize (r.getD 3 0).toNat=b at h h3 ⊢
 refine ckI (by simp;omega) ⟨_,rfl,aC (by omega) (by omega) (aC (by omega) (by omega) (ckI (by simp;omega) ⟨_,rfl,aC (by omega) (by omega) ?_⟩))⟩
 have e1:(((a:Nat):Int)*256%18446744073709551616).toNat=2^8*a:=by omega
 have e2:(((b:Nat):Int)%18446744073709551616).toNat=b:=by omega
 rw[e1,e2,←Nat.two_pow_add_eq_or_of_lt (by omega) a]
 refine aC (by omega) (by omega) (aC (by omega) (by omega) (aC (by omega) (by omega) ?_))
 rwa [show (4+4*((2^8*a+b:Nat):Int))=((4+4*(a*256+b):Nat):Int) by omega]
theorem pkI {p:List UInt8} (hp:4≤p.length∧p.length≤10000) {K:Ctl→Bool→Prop} (h:∀ct f,eD ((p.getD 1 0).toNat:Int) (((p.getD 0 0).toNat%32:Nat):Int) (p.drop 4)=(ct,f)→K ct f) :
  ckQ (Nat.blt 1 p.length) (exI .u8 ((p.getD 1 (UInt8.ofNat 0)).toNat:Int) fun n13=>exW .i64 n13 fun n14=>ckQ (Nat.blt 0 p.length) (exI .u8 ((p.getD 0 (UInt8.ofNat 0)).toNat:Int) fun n15=>exW .u8 (((n15%256).toNat &&& 31:Nat):Int) fun n16=>exW .i64 n16 fun n17=>ckQ (Nat.ble 4 p.length&&p.length.ble p.length) (exS (AV.str ((p.drop 4).take (p.length-4))) fun s18=>Lf (0≤n17∧n17≤31∧s18.length≤10000)∧∀ct f,Lf (eD n14 n17 s18=(ct,f))→K ct f))):=by
 have e:(UInt8.ofNat 0)=(0:UInt8):=rfl
 rw[e]
 have h2:=(p.getD 1 0).toNat_lt
 have h3:=(p.getD 0 0).toNat_lt
 generalize (p.getD 1 0).toNat=a at h h2 ⊢
 generalize (p.getD 0 0).toNat=b at h h3 ⊢
 refine ckI (by simp;omega) ⟨_,rfl,aC (by omega) (by omega) (ckI (by simp;omega) ⟨_,rfl, ?_⟩)⟩
 have e1:(((b:Nat):Int)%256).toNat &&& 31=b%32:=by
  rw[show (31:Nat)=2^5-1 from rfl,Nat.and_two_pow_sub_one_eq_mod];omega
 dsimp only
 rw[e1]
 refine bH2 (by omega) (by omega) (aC (by omega) (by omega) (ckI (by simp;omega) ⟨p.drop 4,by rw[List.take_of_length_le (by simp)],⟨by omega,by omega,by simp;omega⟩, ?_⟩))
 rintro ct f ⟨hr⟩
 exact h ct f hr
theorem aEu {r:List UInt8} {ct:Ctl} {f:Bool} (hl:dC r≤r.length) (h:eD (((r.take (dC r)).getD 1 0).toNat:Int) ((((r.take (dC r)).getD 0 0).toNat%32:Nat):Int) ((r.take (dC r)).drop 4)=(ct,f)):aH4 r=(ct,f):=by
 have hp:=aF5 r
 have g:∀j,j<4→(r.take (dC r)).getD j 0=r.getD j 0:=fun j hj=>by
  rw[List.getD_eq_getElem?_getD,List.getD_eq_getElem?_getD,List.getElem?_take,if_pos (by omega)]
 rw[g 1 (by omega),g 0 (by omega)] at h
 exact h
def fV (s:List UInt8):List Ctl×Int:=
 if 1200<s.length then ([],3) else if s=[] then ([],7) else match gW s.length s [] true with
 | none=>([],7)
 | some p=>if p.2=true∧bP p.1=true∧bX p.1=s then (p.1,0) else ([],5)
def bMk (v:AV) (H:List Blk):AV:=nlR [13,0] (dK 0 H 9 v)
theorem iK (τ:Nat) (H:List Blk) (d:Nat):∀l:List Ctl,(aG l).map (fun x=>dK τ H (d+1) x)=aG l
 | []=>rfl
 | c::l=>by
  have e:aG (c::l)=ctC c++aG l:=rfl
  rw[e,List.map_append,iK τ H d l]
  rfl
theorem oP (l:List Ctl) (c:Ctl):aG (l++[c])=aG l++ctC c:=by
 simp only[aG,List.flatMap_append,List.flatMap_cons,List.flatMap_nil,List.append_nil]
theorem aWb {H:List Blk} {l:List Ctl} {n m:Nat} (hb:H[7]? = some ⟨.grow,true,aG l⟩) (hn:n=13*l.length) (hm:m=l.length) (e:Int):bMk (.tup [.sl 7 n 0 m 13,.int .i64 e]) H=.tup [.lst 0 (aG l) l.length 13,.int .i64 e]:=by
 subst hn hm
 have h:dK 0 H 8 (.sl 7 (13*l.length) 0 l.length 13)=.lst 0 (aG l) l.length 13:=by
  rw[dK]
  have c1:(aG l).length.beq (13*l.length)=true:=aVs (bJ l)
  have c2:(0+l.length*13).ble (13*l.length)=true:=aXd (by omega)
  simp only[hb,c1,c2]
  rw[List.drop_zero,List.take_of_length_le (by rw[bJ];omega),iK]
  rfl
 show nlR [13,0] (.tup [dK 0 H 8 (.sl 7 (13*l.length) 0 l.length 13),.int .i64 e])=_
 rw[h]
 rfl
theorem bEl (s:List UInt8) (Q:Out→List Blk→Gh→Prop) (hq:∀l e,fV s=(l,e)→∀v H g,bMk v H=.tup [.lst 0 (aG l) l.length 13,.int .i64 e]→Q (.ret v) H g):∃hv hb,aF7 hv hb s Q:=by
 obtain ⟨hv,hb',e⟩:∃hv hb,aF7 hv hb s Q=_:=⟨_,_,bOp s Q⟩
 refine ⟨hv,hb',e.mpr ?_⟩
 delta aM3 aZ4 aS8 aX5 aEq aS3 bH6 aP6 aHr aPb aN5 aN6 aHi aGj aO5 aIo aOb aQm aQv aMj bN9 bEs aMi aQ0 aZq aLp aTv bM3 bD4 bEe bLk bLv aSv aOk aXi
 clear e
 refine ⟨_,rfl,aD (fun h1 => ?_) (fun h1 => ?_)⟩
 ·exact hq _ _ (by rw[fV,if_pos (by omega)]) _ _ _ rfl
 rw[aG1]
 refine aD (fun h2 => ?_) (fun h2 => ?_)
 ·exact hq _ _ (by rw[fV,if_neg (by omega),if_pos h2]) _ _ _ rfl
 have hs:s.length≤1200:=by omega
 have no:gW s.length s [] true=none→∀H g,Q (.ret (.tup [.nils,.int .i64 7])) H g:=fun h H g=>hq [] 7 (by rw[fV,if_neg (by omega),if_neg h2,h]) _ _ _ rfl
 refine ⟨.inl ⟨0,⟨rfl,h2⟩,rfl,rfl,rfl,rfl,rfl,rfl,rfl,trivial⟩, ?_, ?_⟩
 ·rintro i ⟨rfl,_⟩
  have hp:=aF5 s
  refine fG (aD (fun h=>absurd h h2) (fun _=>⟨_,rfl,aD (fun h4 => ?_) (fun h4 => ?_)⟩))
  ·refine hdI (by omega) ⟨_,rfl,aD (fun hl=>no (qL (uR s) h2 (by omega)) _ _) (fun hl => ?_)⟩
   have hl:dC s≤s.length:=by omega
   refine ckI (by simp;omega) ⟨s.take (dC s),by simp,pkI ⟨by rw[List.length_take];omega,by rw[List.length_take];omega⟩ (fun ct f hrd => ?_)⟩
   have hpk:=aEu hl hrd
   refine splitB (fun hf => ?_) (fun hf => ?_)
   ·exact ckI (by simp;omega) ⟨s.drop (dC s),by rw[Int.toNat_natCast,List.take_of_length_le (by simp)],⟨rfl,rfl⟩,.inr ⟨([ct],true,s.drop (dC s),ctC ct,ctC ct),⟨by simp,by have:=aCc (uR s) hs h2 hl hpk;simpa [hf] using this⟩,by dsimp only;rw[List.length_drop];omega,rfl,rfl,rfl,rfl,rfl,rfl,rfl,rfl,rfl,rfl,trivial⟩⟩
   ·exact ckI (by simp;omega) ⟨s.drop (dC s),by rw[Int.toNat_natCast,List.take_of_length_le (by simp)],⟨rfl,rfl⟩,.inr ⟨([ct],false,s.drop (dC s),ctC ct,ctC ct),⟨by simp,by have:=aCc (uR s) hs h2 hl hpk;simpa [hf] using this⟩,by dsimp only;rw[List.length_drop];omega,rfl,rfl,rfl,rfl,rfl,rfl,rfl,rfl,rfl,rfl,trivial⟩⟩
  ·exact ⟨_,rfl,aD (fun hl=>no (qL (uR s) h2 (by unfold dC;rw[if_neg (by omega)];omega)) _ _) (fun hl=>by exfalso;omega)⟩
 ·rintro ⟨acc,g,r,J1,J2⟩ ⟨g1,g2⟩
  dsimp only at g1 g2 ⊢
  rw[aG1]
  refine fG (aD (fun h3 => ?_) (fun h3 => ?_))
  ·subst h3
   have hd:=bDo g2
   have hc:=bJ acc
   refine ckI (by simp;omega) ⟨acc,⟨by rw[List.drop_zero,List.take_of_length_le (by rw[hc];omega),iK],rfl,by have:=g2.1;simp at this;omega,g2.2.1⟩, ?_⟩
   rintro s3 e3 ⟨he⟩
   have bad:¬ (g=true∧bP acc=true∧bX acc=s)→∀H g,Q (.ret (.tup [.nils,.int .i64 5])) H g:=fun hn H g=>hq [] 5 (by rw[fV,if_neg (by omega),if_neg h2,hd];exact if_neg hn) _ _ _ rfl
   rw[aD6] at he
   refine splitB (fun hg=>cB (fun h4 => ?_) (fun h4=>fG ?_)) (fun hg=>bad (by simp[hg]) _ _)
   ·refine bad (fun hh=>h4 ?_) _ _
    rw[if_pos hh.2.1,hh.2.2,if_pos hs] at he
    cases he;rfl
   ·refine splitB (fun h5 => ?_) (fun h5=>bad (fun hh => ?_) _ _)
    ·have h5:s3=s:=by rw[kJ] at h5;simpa using h5
     have h6:e3=0:=h4
     subst h5 h6
     split at he
     ·rename_i hck
      split at he
      ·have he2:bX acc=s3:=congrArg Prod.fst he
       exact hq acc 0 (by rw[fV,if_neg (by omega),if_neg h2,hd];exact if_pos ⟨hg,hck,he2⟩) _ _ _ (aWb rfl rfl rfl 0)
      ·simp at he
     ·simp at he
    ·rw[if_pos hh.2.1,hh.2.2,if_pos hs] at he
     cases he
     rw[uT] at h5
     cases h5
  ·have hp:=aF5 r
   have hc:=bJ acc
   have hrl:=g2.1
   refine ⟨_,rfl,aD (fun h4 => ?_) (fun h4 => ?_)⟩
   ·refine hdI (by omega) ⟨_,rfl,aD (fun hl=>no (qL g2 h3 (by omega)) _ _) (fun hl => ?_)⟩
    have hl:dC r≤r.length:=by omega
    refine ckI (by simp;omega) ⟨r.take (dC r),by simp,pkI ⟨by rw[List.length_take];omega,by rw[List.length_take];omega⟩ (fun ct f hrd => ?_)⟩
    have hpk:=aEu hl hrd
    have hst:=aCc g2 hs h3 hl hpk
    refine splitB (fun hf=>splitB (fun hg => ?_) (fun hg => ?_)) (fun hf=>splitB (fun hg => ?_) (fun hg => ?_))
    all_goals
     refine ckI (by simp;omega) (ckI (by cases g<;>rfl) (ckI (by simp;omega) ⟨r.drop (dC r),by rw[Int.toNat_natCast,List.take_of_length_le (by simp)],⟨rfl,rfl⟩,.inr ⟨(acc++[ct],g&&f,r.drop (dC r),J1,J2),⟨by simp,hst⟩,by dsimp only;rw[List.length_drop];have:=List.length_pos_iff.2 h3;omega,rfl,rfl,by simp[Nat.mul_add],by simp[hf,hg],rfl,rfl,rfl,(oP acc ct).symm,rfl,rfl,trivial⟩⟩))
   ·exact ⟨_,rfl,aD (fun hl=>no (qL g2 h3 (by unfold dC;rw[if_neg (by omega)];omega)) _ _) (fun hl=>by exfalso;omega)⟩
def bP8:Con
 | [.str s],H,K=>∀l e,Lf (fV s=(l,e))→K (.ret (.tup [.lst 0 (aG l) l.length 13,.int .i64 e])) H
 | _,_,_=>False
theorem bJk:aO Tryd.prog glC 14 bP8:=by
 refine fE (enters_of (by kernel_rfl)) aV 9 (nlR [13,0]) (vZ _) fun args H Q hc => ?_
 unfold bP8 at hc
 split at hc
 ·rename_i s
  obtain ⟨hv,hb',h⟩:=bEl s (fun o H' _=>∃v,o=.ret v∧Q (.ret (nlR [13,0] (dK 0 H' 9 v))) H) (fun l e he v H' g ho=>⟨v,rfl,by
   have:=hc l e ⟨he⟩
   rw[←ho] at this
   exact this⟩)
  exact ⟨rfl,rfl,_,1000,(aS bDy _ _ _:EnvFor Tryd.prog (aPi hv hb' s)),rfl,h⟩
 ·exact hc.elim
end Go.Proofs.YtafchcmemeinlaaDoor

/-
  Chapter 24: Draft: Piece.control, the numbers of a Nack and the times of arrivals.
-/
import Derived.Test.YtafchcmemeinlaaDoorCmK
import Derived.Test.YtafchcmemeinlaaDoorC24YP
set_option linter.unusedSimpArgs false
set_option linter.unusedVariables false
set_option linter.unusedSectionVars false
namespace Go.Proofs.YtafchcmemeinlaaDoor
open Go.RowKit
set_option maxRecDepth 1000000

abbrev X36:=List Int×Int×List AV
def bD2 (ls:List Int) (s:S):List (List LInv):=match s.tm.get 7,s.hp with
 | .int _ f,[b0,b1,⟨k,_,[c0,c1,c2,c3,c4,c5,c6,c7,c8,_,c10,c11,c12]⟩,_]=>[[
  { α:=Nat,pre:=fun i=>Lf (i=0),st:=fun i=>⟨mkT [(2,.ptr 0 10 0),(4,.ptr 1 13 0),(5,.ptr 2 13 0),(7,.int .i64 f),(8,.int .i64 0),(9,.int .i64 (i:Nat))],s.hp⟩,mu:=fun i=>ls.length+1 },
  { α:=X36,pre:=fun x=>Lf (2≤x.1.length∧x.1.length≤ls.length+1∧nkP f x.2.1 x.1),st:=fun x=>⟨mkT [(2,.ptr 0 10 0),(4,.ptr 1 13 0),(5,.ptr 2 13 0),(7,.int .i64 f),(8,.int .i64 x.2.1),(9,.int .i64 ((x.1.length:Int)-1))],[b0,b1,⟨k,false,[c0,c1,c2,c3,c4,c5,c6,c7,c8,.sl 4 x.1.length 0 x.1.length 1,c10,c11,c12]⟩,⟨.exact,true,x.2.2⟩,⟨.grow,true,aA x.1⟩]⟩,mu:=fun x=>ls.length+1-x.1.length }]]
 | _,_=>[]
def bBx (ls:List Int) (s:S):List (List LInv):=match s.tm.get 10,s.hp with
 | .int _ at',[b0,b1,⟨k,_,[c0,c1,c2,c3,c4,c5,c6,c7,c8,c9,c10,c11,_]⟩,_]=>[[
  { α:=Nat,pre:=fun i=>Lf (i=0),st:=fun i=>⟨mkT [(2,.ptr 0 10 0),(4,.ptr 1 13 0),(5,.ptr 2 13 0),(10,.int .i64 at'),(11,.int .i64 (i:Nat))],s.hp⟩,mu:=fun i=>ls.length+1 },
  { α:=X36,pre:=fun x=>Lf (2≤x.1.length∧x.1.length≤ls.length+1∧tmP x.2.1 x.1),st:=fun x=>⟨mkT [(2,.ptr 0 10 0),(4,.ptr 1 13 0),(5,.ptr 2 13 0),(10,.int .i64 x.2.1),(11,.int .i64 ((x.1.length:Int)-1))],[b0,b1,⟨k,false,[c0,c1,c2,c3,c4,c5,c6,c7,c8,c9,c10,c11,.sl 4 x.1.length 0 x.1.length 1]⟩,⟨.exact,true,x.2.2⟩,⟨.grow,true,aA x.1⟩]⟩,mu:=fun x=>ls.length+1-x.1.length }]]
 | _,_=>[]
noncomputable def rF (hv:Nat→Option Pa) (hb:Nat→Option Bool) (p:Pc):Env:=e24 bPo (fun i=>bif Nat.beq i 36003 then some (bD2 p.ls) else bif Nat.beq i 36005 then some (bBx p.ls) else none) hv hb
noncomputable def vK (hv:Nat→Option Pa) (hb:Nat→Option Bool) (p:Pc) (Q:Out→List Blk→Gh→Prop):Prop:=bH (rF hv hb p) (wpx (rF hv hb p) 1000) 36 [.agg (pcC p),.int .i64 4] [] {} Q
noncomputable def yJ (hv:Nat→Option Pa) (hb:Nat→Option Bool) (p:Pc) (Q:Out→List Blk→Gh→Prop):Prop:=bH (rF hv hb p) (wpx (rF hv hb p) 1000) 36 [.agg (pcC p),.int .i64 6] [] {} Q
abbrev nX (Q:Out→List Blk→Gh→Prop) (n_1:Int) (n_3:Int) (x_7:List Int×Int×List AV) (p:Pc):Prop:=
Q (.ret (.agg [.int .i64 4,.int .i64 n_1,.int .i64 n_3,.int .i64 0,.int .i64 0,.int .i64 0,.int .i64 0,.int .i64 0,.nils,.sl 4 x_7.1.length 0 x_7.1.length 1,.int .i64 0,.int .i64 0,.nils])) [Blk.mk BK.exact true [.int .u8 p.1,
 .int .u32 p.2,.int .u32 p.3,.int .u32 p.4,.int .u32 p.5,.int .u32 p.6,.int .u32 p.7,.lst p.8 (bM p.9) p.9.length 1,.lst p.10 (bN p.11) p.11.length 1,.int .u64 p.12],Blk.mk BK.exact false [.int .i64 4,.int .i64 n_1,
 .int .i64 n_3,.int .i64 0,.int .i64 0,.int .i64 0,.int .i64 0,.int .i64 0,.nils,.sl 4 x_7.1.length 0 x_7.1.length 1,.int .i64 0,.int .i64 0,.nils],Blk.mk BK.exact false [.int .i64 4,.int .i64 n_1,.int .i64 n_3,.int .i64 0,
 .int .i64 0,.int .i64 0,.int .i64 0,.int .i64 0,.nils,.sl 4 x_7.1.length 0 x_7.1.length 1,.int .i64 0,.int .i64 0,.nils],Blk.mk BK.exact true x_7.2.2,Blk.mk BK.grow true (aA x_7.1)] {}
abbrev nY (Q:Out→List Blk→Gh→Prop) (n_1:Int) (n_3:Int) (p:Pc) (n_6:Int):Prop:=
Q (.ret (.agg [.int .i64 4,.int .i64 n_1,.int .i64 n_3,.int .i64 0,.int .i64 0,.int .i64 0,.int .i64 0,.int .i64 0,.nils,.sl 3 1 0 1 1,.int .i64 0,.int .i64 0,.nils])) [Blk.mk BK.exact true [.int .u8 p.1,.int .u32 p.2,.int
 .u32 p.3,.int .u32 p.4,.int .u32 p.5,.int .u32 p.6,.int .u32 p.7,.lst p.8 (bM p.9) p.9.length 1,.lst p.10 (bN p.11) p.11.length 1,.int .u64 p.12],Blk.mk BK.exact false [.int .i64 4,.int .i64 n_1,.int .i64 n_3,.int
 .i64 0,.int .i64 0,.int .i64 0,.int .i64 0,.int .i64 0,.nils,.sl 3 1 0 1 1,.int .i64 0,.int .i64 0,.nils],Blk.mk BK.exact false [.int .i64 4,.int .i64 n_1,.int .i64 n_3,.int .i64 0,.int .i64 0,.int .i64 0,.int .i64 0,.int
 .i64 0,.nils,.sl 3 1 0 1 1,.int .i64 0,.int .i64 0,.nils],Blk.mk BK.exact true [.int .i64 n_6]] {}
abbrev wB (p:Pc):Prop:=aK [AV.int .u8 p.1,.int .u32 p.2,.int .u32 p.3,.int .u32 p.4,.int .u32 p.5,.int .u32 p.6,.int .u32 p.7,.lst p.8 (bM p.9) p.9.length 1,.lst p.10 (bN p.11) p.11.length 1,.int .u64 p.12]
abbrev wS:Prop:=aK [AV.int .i64 0,.int .i64 0,.int .i64 0,.int .i64 0,.int .i64 0,.int .i64 0,.int .i64 0,.int .i64 0,.nils,.nils,.int .i64 0,.int .i64 0,.nils]
abbrev bKg (n_1 n_3:Int):List AV:=[.int .i64 4,.int .i64 n_1,.int .i64 n_3,.int .i64 0,.int .i64 0,.int .i64 0,.int .i64 0,.int .i64 0,.nils,.sl 3 1 0 1 1,.int .i64 0,.int .i64 0,.nils]
abbrev aL3:Prop:=aK (AV.ptr 2 13 0)
abbrev aRl:Prop:=aK (AV.ptr 0 10 0)
abbrev aN1:Prop:=aK (AV.ptr 1 13 0)
abbrev aPt (x_7:List Int×Int×List AV) (p:Pc) (n_6:Int):Prop:=Lf (2≤x_7.1.length∧x_7.1.length≤(Pc.ls p).length+1∧nkP n_6 x_7.2.1 x_7.1)
abbrev bLw (n_1 n_3:Int) (x_7:List Int×Int×List AV):List AV:=[.int .i64 4,.int .i64 n_1,.int .i64 n_3,.int .i64 0,.int .i64 0,.int .i64 0,.int .i64 0,.int .i64 0,.nils,.sl 4 x_7.1.length 0 x_7.1.length 1,.int .i64 0,.int .i64 0,.nils]
abbrev aYx (n_12:Int) (p:Pc):Bool:=decide (0≤n_12)&&Nat.blt n_12.toNat p.11.length&&true
abbrev aEt (n_12:Int) (p:Pc):Bool:=Nat.blt (n_12.toNat*1) (bN p.11).length
abbrev aFi (p:Pc) (n_12:Int):AV:=(bN p.11).getD (n_12.toNat*1) AV.undef
abbrev aNa:Prop:=True∧(0:Nat)=(0:Nat)
abbrev aLz (p:Pc):Prop:=p.11.length+1<p.11.length+1
abbrev bA1 (n_1 n_3:Int):List AV:=[.int .i64 4,.int .i64 n_1,.int .i64 n_3,.int .i64 0,.int .i64 0,.int .i64 0,.int .i64 0,.int .i64 0,.nils,.sl 4 2 0 2 1,.int .i64 0,.int .i64 0,.nils]
abbrev qJ (p:Pc) (y_21:List Int×Int×List AV):Nat:=p.11.length+1-y_21.1.length
abbrev lC (n_20:Int):AV:=.int .i64 n_20
abbrev kY (y_21:List Int×Int×List AV):Int:=(y_21.1.length:Int)-1
abbrev bOx (n_16:Int) (y_21:List Int×Int×List AV):Prop:=aRl∧aN1∧lC n_16=AV.int .i64 y_21.2.1∧True
abbrev aLa (x_7:List Int×Int×List AV):Bool:=Nat.beq (aA x_7.1).length x_7.1.length
abbrev aRs (x_7:List Int×Int×List AV):Int:=(x_7.1.length:Int)
abbrev bE3 (x_7:List Int×Int×List AV):Bool:=aLa x_7&&true&&Nat.beq (0+x_7.1.length*1) x_7.1.length&&Nat.ble (x_7.1.length+1) 1099511627776&&Nat.ble ((x_7.1.length+1)*8) 1099511627776
abbrev bAp (n_1 n_3:Int) (x_7:List Int×Int×List AV):List AV:=[.int .i64 4,.int .i64 n_1,.int .i64 n_3,.int .i64 0,.int .i64 0,.int .i64 0,.int .i64 0,.int .i64 0,.nils,.sl 4 (x_7.1.length+1) 0 (x_7.1.length+1) 1,.int .i64 0,.int .i64 0,.nils]
theorem bC4 (p:Pc) (Q:Out→List Blk→Gh→Prop):vK (bG [(147472,.int .u32),(147473,.int .i64),(147479,.int .u32),(147480,.int .i64),(147539,.int .u32),(147540,.int .u32),(147541,.int .i64),(147545,.int
 .i64),(147548,.int .i64),(147562,.int .i64),(147564,.int .u16),(147565,.int .u16),(147566,.int .i64),(147567,.int .i64),(147572,.int .i64),(147573,.int .i64),(147556,.int .i64),(147557,.int .i64),(147553,.int .i64),
 (147559,.int .i64)]) (bF []) p Q=(exI .u32 p.2 (fun n_0=>exW .i64 n_0 (fun n_1=>exI .u32 p.3 (fun n_2=>exW .i64 n_2 (fun n_3=>exI .u32 p.4 (fun n_4=>exI .u32 (n_4.tmod 65536) (fun n_5=>exW .i64 n_5 (fun n_6=>((∃x_7 :
 Nat,Lf (x_7=0)∧wB p∧wS∧aK (bKg n_1 n_3)∧aK [AV.int .i64 n_6]∧aK (AV.int .i64 n_6)∧aL3∧AV.int .i64 0=AV.int .i64 (x_7:Int)∧aRl∧aN1∧aK (AV.int .i64 0)∧True)∨∃x_7:List Int×Int×List AV,
 aPt x_7 p n_6∧wB p∧wS∧bKg n_1 n_3=bLw n_1 n_3 x_7∧[AV.int .i64 n_6]=x_7.2.2∧False)∧(∀x_7:Nat,Lf (x_7=0)→exI .i64 (x_7:Int) (fun n_8=>exI .i64 (p.11.length:Int) (fun n_9=>bif decide (n_8<n_9) then
 exI .i64 1 (fun n_10=>bif decide (n_10<64) then exI .i64 1 (fun n_11=>exI .i64 (x_7:Int) (fun n_12=>ckQ (aYx n_12 p) (ckQ (aEt n_12 p) (exV .u16 (aFi p n_12) (fun n_13=>exI .u16 (n_13.tmod 20) (fun n_14=>exW .i64 n_14
 (fun n_15=>exW .i64 (n_11+n_15) (fun n_16=>exW .i64 (n_6+n_16) (fun n_17=>exI .i64 (n_17.tmod 65536) (fun n_18=>exI .i64 (x_7:Int) (fun n_19=>exW .i64 (n_19+1) (fun n_20=>aNa∧((∃y_21:Nat,Lf (y_21=0)∧aLz p ∧
 wB p∧wS∧bA1 n_1 n_3=bKg n_1 n_3∧aK [AV.int .i64 n_6]∧False)∨∃y_21:List Int×Int×List AV,aPt y_21 p n_6∧qJ p y_21<p.11.length+1∧wB p∧wS∧bA1 n_1 n_3=bLw n_1 n_3 y_21∧[AV.int .i64 n_6] =
 y_21.2.2∧[AV.int .i64 n_6,.int .i64 n_18]=aA y_21.1∧aK (AV.int .i64 n_6)∧aL3∧lC n_20=AV.int .i64 (kY y_21)∧bOx n_16 y_21))))))))))))) else nY Q n_1 n_3 p n_6) else nY Q n_1 n_3 p n_6)))∧∀
 x_7:List Int×Int×List AV,aPt x_7 p n_6→exI .i64 (kY x_7) (fun n_8=>exI .i64 (p.11.length:Int) (fun n_9=>bif decide (n_8<n_9) then ckQ (aLa x_7) (exI .i64 (aRs x_7) (fun n_10=>bif decide (n_10<64) then exW .i64
 (x_7.2.1+1) (fun n_11=>exI .i64 (kY x_7) (fun n_12=>ckQ (aYx n_12 p) (ckQ (aEt n_12 p) (exV .u16 (aFi p n_12) (fun n_13=>exI .u16 (n_13.tmod 20) (fun n_14=>exW .i64 n_14 (fun n_15=>exW .i64 (n_11+n_15) (fun n_16=>
 exW .i64 (n_6+n_16) (fun n_17=>exI .i64 (n_17.tmod 65536) (fun n_18=>ckQ (bE3 x_7) (exI .i64 (kY x_7) (fun n_19=>exW .i64 (n_19+1) (fun n_20=>aNa∧((∃y_21:Nat,Lf (y_21=0)∧p.11.length+1<qJ p x_7∧wB p ∧
 wS∧bAp n_1 n_3 x_7=bKg n_1 n_3∧x_7.2.2=[AV.int .i64 n_6]∧False)∨∃y_21:List Int×Int×List AV,aPt y_21 p n_6∧qJ p y_21<qJ p x_7∧wB p∧wS∧bAp n_1 n_3 x_7=bLw n_1 n_3 y_21∧x_7.2.2=y_21.2.2
 ∧ aA x_7.1++[lC n_18]=aA y_21.1∧aK (AV.int .i64 n_6)∧aL3∧lC n_20=AV.int .i64 (kY y_21)∧bOx n_16 y_21)))))))))))))) else nX Q n_1 n_3 x_7 p)) else nX Q n_1 n_3 x_7 p)))))))))):=by
 kernel_rfl

abbrev iR (Q:Out→List Blk→Gh→Prop) (n_1:Int) (n_3:Int) (n_6:Int) (n_9:Int) (x_15:List Int×Int×List AV) (p:Pc):Prop:=
Q (.ret (.agg [.int .i64 6,.int .i64 n_1,.int .i64 n_3,.int .i64 0,.int .i64 0,.int .i64 0,.int .i64 0,.int .i64 0,.nils,.nils,.int .i64 n_6,.int .i64 n_9,.sl 4 x_15.1.length 0 x_15.1.length 1])) [Blk.mk BK.exact true [.int .u8
 p.1,.int .u32 p.2,.int .u32 p.3,.int .u32 p.4,.int .u32 p.5,.int .u32 p.6,.int .u32 p.7,.lst p.8 (bM p.9) p.9.length 1,.lst p.10 (bN p.11) p.11.length 1,.int .u64 p.12],Blk.mk BK.exact false [.int .i64 6,.int .i64
 n_1,.int .i64 n_3,.int .i64 0,.int .i64 0,.int .i64 0,.int .i64 0,.int .i64 0,.nils,.nils,.int .i64 n_6,.int .i64 n_9,.sl 4 x_15.1.length 0 x_15.1.length 1],Blk.mk BK.exact false [.int .i64 6,.int .i64 n_1,.int .i64 n_3,.int
 .i64 0,.int .i64 0,.int .i64 0,.int .i64 0,.int .i64 0,.nils,.nils,.int .i64 n_6,.int .i64 n_9,.sl 4 x_15.1.length 0 x_15.1.length 1],Blk.mk BK.exact true x_15.2.2,Blk.mk BK.grow true (aA x_15.1)] {}
abbrev oQ (p:Pc) (x_15:List Int×Int×List AV) (n_1:Int) (n_3:Int) (n_6:Int) (n_9:Int) (n_32:Int):Prop:=
∃y_33:List Int×Int×List AV,Lf (2≤y_33.1.length∧y_33.1.length≤(Pc.ls p).length+1∧tmP y_33.2.1 y_33.1)∧p.11.length+1-y_33.1.length<p.11.length+1-x_15.1.length∧aK [AV.int .u8 p.1,.int .u32 p.2,.int .u32 p.3,
 .int .u32 p.4,.int .u32 p.5,.int .u32 p.6,.int .u32 p.7,.lst p.8 (bM p.9) p.9.length 1,.lst p.10 (bN p.11) p.11.length 1,.int .u64 p.12]∧aK [AV.int .i64 0,.int .i64 0,.int .i64 0,.int .i64 0,.int .i64 0,.int .i64
 0,.int .i64 0,.int .i64 0,.nils,.nils,.int .i64 0,.int .i64 0,.nils]∧[AV.int .i64 6,.int .i64 n_1,.int .i64 n_3,.int .i64 0,.int .i64 0,.int .i64 0,.int .i64 0,.int .i64 0,.nils,.nils,.int .i64 n_6,.int .i64 n_9,.sl 4
 (x_15.1.length+1) 0 (x_15.1.length+1) 1]=[AV.int .i64 6,.int .i64 n_1,.int .i64 n_3,.int .i64 0,.int .i64 0,.int .i64 0,.int .i64 0,.int .i64 0,.nils,.nils,.int .i64 n_6,.int .i64 n_9,.sl 4 y_33.1.length 0 y_33.1.length
 1]∧x_15.2.2=y_33.2.2∧aA x_15.1++[AV.int .i64 (-1)]=aA y_33.1∧AV.int .i64 n_32=AV.int .i64 ((y_33.1.length:Int)-1)∧aK (AV.ptr 2 13 0)∧aK (AV.ptr 0 10 0)∧aK (AV.ptr 1 13 0)∧AV.int .i64 x_15.2.1 =
 AV.int .i64 y_33.2.1∧True
abbrev oD (p:Pc) (x_15:List Int×Int×List AV) (n_1:Int) (n_3:Int) (n_6:Int) (n_9:Int) (n_25:Int) (n_32:Int):Prop:=
∃y_33:List Int×Int×List AV,Lf (2≤y_33.1.length∧y_33.1.length≤(Pc.ls p).length+1∧tmP y_33.2.1 y_33.1)∧p.11.length+1-y_33.1.length<p.11.length+1-x_15.1.length∧aK [AV.int .u8 p.1,.int .u32 p.2,.int .u32 p.3,
 .int .u32 p.4,.int .u32 p.5,.int .u32 p.6,.int .u32 p.7,.lst p.8 (bM p.9) p.9.length 1,.lst p.10 (bN p.11) p.11.length 1,.int .u64 p.12]∧aK [AV.int .i64 0,.int .i64 0,.int .i64 0,.int .i64 0,.int .i64 0,.int .i64
 0,.int .i64 0,.int .i64 0,.nils,.nils,.int .i64 0,.int .i64 0,.nils]∧[AV.int .i64 6,.int .i64 n_1,.int .i64 n_3,.int .i64 0,.int .i64 0,.int .i64 0,.int .i64 0,.int .i64 0,.nils,.nils,.int .i64 n_6,.int .i64 n_9,.sl 4
 (x_15.1.length+1) 0 (x_15.1.length+1) 1]=[AV.int .i64 6,.int .i64 n_1,.int .i64 n_3,.int .i64 0,.int .i64 0,.int .i64 0,.int .i64 0,.int .i64 0,.nils,.nils,.int .i64 n_6,.int .i64 n_9,.sl 4 y_33.1.length 0 y_33.1.length
 1]∧x_15.2.2=y_33.2.2∧aA x_15.1++[AV.int .i64 n_25]=aA y_33.1∧AV.int .i64 n_32=AV.int .i64 ((y_33.1.length:Int)-1)∧aK (AV.ptr 2 13 0)∧aK (AV.ptr 0 10 0)∧aK (AV.ptr 1 13 0)∧AV.int .i64 n_25=AV.int
 .i64 y_33.2.1∧True
abbrev iY (n_1:Int) (n_3:Int) (n_6:Int) (n_9:Int) (x_15:List Int×Int×List AV):Prop:=
[AV.int .i64 6,.int .i64 n_1,.int .i64 n_3,.int .i64 0,.int .i64 0,.int .i64 0,.int .i64 0,.int .i64 0,.nils,.nils,.int .i64 n_6,.int .i64 n_9,.sl 4 (x_15.1.length+1) 0 (x_15.1.length+1) 1]=[AV.int .i64 6,.int .i64 n_1,
 .int .i64 n_3,.int .i64 0,.int .i64 0,.int .i64 0,.int .i64 0,.int .i64 0,.nils,.nils,.int .i64 n_6,.int .i64 n_9,.sl 3 1 0 1 1]
abbrev iP (n_1:Int) (n_3:Int) (n_6:Int) (n_9:Int) (y_33:List Int×Int×List AV):Prop:=
[AV.int .i64 6,.int .i64 n_1,.int .i64 n_3,.int .i64 0,.int .i64 0,.int .i64 0,.int .i64 0,.int .i64 0,.nils,.nils,.int .i64 n_6,.int .i64 n_9,.sl 4 2 0 2 1]=[AV.int .i64 6,.int .i64 n_1,.int .i64 n_3,.int .i64 0,.int .i64
 0,.int .i64 0,.int .i64 0,.int .i64 0,.nils,.nils,.int .i64 n_6,.int .i64 n_9,.sl 4 y_33.1.length 0 y_33.1.length 1]
abbrev kC (n_1:Int) (n_3:Int) (n_6:Int) (n_9:Int):Prop:=
[AV.int .i64 6,.int .i64 n_1,.int .i64 n_3,.int .i64 0,.int .i64 0,.int .i64 0,.int .i64 0,.int .i64 0,.nils,.nils,.int .i64 n_6,.int .i64 n_9,.sl 4 2 0 2 1]=[AV.int .i64 6,.int .i64 n_1,.int .i64 n_3,.int .i64 0,.int .i64
 0,.int .i64 0,.int .i64 0,.int .i64 0,.nils,.nils,.int .i64 n_6,.int .i64 n_9,.sl 3 1 0 1 1]
abbrev nN (Q:Out→List Blk→Gh→Prop) (n_1:Int) (n_3:Int) (n_6:Int) (n_9:Int) (p:Pc):Prop:=
Q (.ret (.agg [.int .i64 6,.int .i64 n_1,.int .i64 n_3,.int .i64 0,.int .i64 0,.int .i64 0,.int .i64 0,.int .i64 0,.nils,.nils,.int .i64 n_6,.int .i64 n_9,.sl 3 1 0 1 1])) [Blk.mk BK.exact true [.int .u8 p.1,.int .u32 p.2,.int
 .u32 p.3,.int .u32 p.4,.int .u32 p.5,.int .u32 p.6,.int .u32 p.7,.lst p.8 (bM p.9) p.9.length 1,.lst p.10 (bN p.11) p.11.length 1,.int .u64 p.12],Blk.mk BK.exact false [.int .i64 6,.int .i64 n_1,.int .i64 n_3,.int
 .i64 0,.int .i64 0,.int .i64 0,.int .i64 0,.int .i64 0,.nils,.nils,.int .i64 n_6,.int .i64 n_9,.sl 3 1 0 1 1],Blk.mk BK.exact false [.int .i64 6,.int .i64 n_1,.int .i64 n_3,.int .i64 0,.int .i64 0,.int .i64 0,.int .i64 0,
 .int .i64 0,.nils,.nils,.int .i64 n_6,.int .i64 n_9,.sl 3 1 0 1 1],Blk.mk BK.exact true [.int .i64 (-1)]] {}
abbrev oM (Q:Out→List Blk→Gh→Prop) (n_1:Int) (n_3:Int) (n_6:Int) (n_9:Int) (p:Pc) (n_12:Int):Prop:=
Q (.ret (.agg [.int .i64 6,.int .i64 n_1,.int .i64 n_3,.int .i64 0,.int .i64 0,.int .i64 0,.int .i64 0,.int .i64 0,.nils,.nils,.int .i64 n_6,.int .i64 n_9,.sl 3 1 0 1 1])) [Blk.mk BK.exact true [.int .u8 p.1,.int .u32 p.2,.int
 .u32 p.3,.int .u32 p.4,.int .u32 p.5,.int .u32 p.6,.int .u32 p.7,.lst p.8 (bM p.9) p.9.length 1,.lst p.10 (bN p.11) p.11.length 1,.int .u64 p.12],Blk.mk BK.exact false [.int .i64 6,.int .i64 n_1,.int .i64 n_3,.int
 .i64 0,.int .i64 0,.int .i64 0,.int .i64 0,.int .i64 0,.nils,.nils,.int .i64 n_6,.int .i64 n_9,.sl 3 1 0 1 1],Blk.mk BK.exact false [.int .i64 6,.int .i64 n_1,.int .i64 n_3,.int .i64 0,.int .i64 0,.int .i64 0,.int .i64 0,
 .int .i64 0,.nils,.nils,.int .i64 n_6,.int .i64 n_9,.sl 3 1 0 1 1],Blk.mk BK.exact true [.int .i64 n_12]] {}
abbrev nK (n_1:Int) (n_3:Int) (n_6:Int) (n_9:Int) (x_15:List Int×Int×List AV):Prop:=
[AV.int .i64 6,.int .i64 n_1,.int .i64 n_3,.int .i64 0,.int .i64 0,.int .i64 0,.int .i64 0,.int .i64 0,.nils,.nils,.int .i64 n_6,.int .i64 n_9,.sl 3 1 0 1 1]=[AV.int .i64 6,.int .i64 n_1,.int .i64 n_3,.int .i64 0,.int .i64
 0,.int .i64 0,.int .i64 0,.int .i64 0,.nils,.nils,.int .i64 n_6,.int .i64 n_9,.sl 4 x_15.1.length 0 x_15.1.length 1]
abbrev aK6 (n_13:Int):Int:=(((n_13%18446744073709551616).toNat &&& 1:Nat):Int)
abbrev bEr (n_1 n_3 n_6 n_9:Int):Prop:=aK [AV.int .i64 6,.int .i64 n_1,.int .i64 n_3,.int .i64 0,.int .i64 0,.int .i64 0,.int .i64 0,.int .i64 0,.nils,.nils,.int .i64 n_6,.int .i64 n_9,.sl 3 1 0 1 1]
abbrev aAd:AV:=.int .i64 (-1)
abbrev bDu (x_15:Nat) (n_12:Int):Prop:=AV.int .i64 0=AV.int .i64 (x_15:Int)∧aK (AV.ptr 2 13 0)∧aK (AV.ptr 0 10 0)∧aK (AV.ptr 1 13 0)∧aK (AV.int .i64 n_12)∧True
abbrev aU0 (x_15:List Int×Int×List AV) (p:Pc):Prop:=Lf (2≤x_15.1.length∧x_15.1.length≤(Pc.ls p).length+1∧tmP x_15.2.1 x_15.1)
abbrev aZr (p:Pc) (n_1 n_3 n_6 n_9:Int):Prop:=∃y_33:Nat,Lf (y_33=0)∧aLz p∧wB p∧wS∧kC n_1 n_3 n_6 n_9∧aK [aAd]∧False
abbrev bJm (n_32:Int) (y_33:List Int×Int×List AV) (n_12:Int):Prop:=lC n_32=AV.int .i64 (kY y_33)∧aL3∧aRl∧aN1∧lC n_12=AV.int .i64 y_33.2.1∧True
theorem bAo (p:Pc) (Q:Out→List Blk→Gh→Prop):yJ (bG [(147472,.int .u32),(147473,.int .i64),(147479,.int .u32),(147480,.int .i64),(147581,.int .u32),(147582,.int .u32),(147583,.int .i64),(147587,.int
 .u32),(147588,.int .u32),(147589,.int .i64),(147593,.int .u32),(147594,.int .u32),(147595,.int .i64),(147600,.int .u64),(147601,.int .u64),(147606,.int .i64),(147609,.int .i64),(147622,.int .i64),(147624,.int .u16),
 (147625,.int .u16),(147626,.int .i64),(147627,.int .i64),(147628,.int .i64),(147629,.int .i64),(147631,.int .u64),(147632,.int .i64),(147633,.int .i64),(147634,.int .u64),(147635,.int .u64),(147617,.int .i64),(147618,
 .int .i64),(147614,.int .i64)]) (bF []) p Q=(exI .u32 p.2 (fun n_0=>exW .i64 n_0 (fun n_1=>exI .u32 p.3 (fun n_2=>exW .i64 n_2 (fun n_3=>exI .u32 p.4 (fun n_4=>exI .u32 (n_4.tmod 65536) (fun n_5=>exW .i64 n_5 (fun n_6=>
 exI .u32 p.5 (fun n_7=>exI .u32 (n_7.tmod 256) (fun n_8=>exW .i64 n_8 (fun n_9=>exI .u32 p.6 (fun n_10=>exW .u32 (n_10.tdiv 2) (fun n_11=>exW .i64 n_11 (fun n_12=>exI .u64 p.12 (fun n_13=>exW .u64 (aK6 n_13) (fun n_14=>
 bif n_14==0 then ((∃x_15:Nat,Lf (x_15=0)∧wB p∧wS∧bEr n_1 n_3 n_6 n_9∧aK [aAd]∧bDu x_15 n_12)∨∃x_15:List Int×Int×List AV,aU0 x_15 p∧wB p∧wS∧nK n_1 n_3 n_6 n_9 x_15∧[aAd] =
 x_15.2.2∧False)∧(∀x_15:Nat,Lf (x_15=0)→exI .i64 (x_15:Int) (fun n_16=>exI .i64 (p.11.length:Int) (fun n_17=>bif decide (n_16<n_17) then exI .i64 1 (fun n_18=>bif decide (n_18<64) then exI .i64 (x_15:Int) (fun
 n_19=>ckQ (aYx n_19 p) (ckQ (aEt n_19 p) (exV .u16 (aFi p n_19) (fun n_20=>exI .u16 (n_20.tmod 600) (fun n_21=>exW .i64 n_21 (fun n_22=>exW .i64 (n_12+n_22) (fun n_23=>exW .i64 (n_23-100) (fun n_24=>exI .i64 (qZ 0
 n_24) (fun n_25=>exI .u64 p.12 (fun n_26=>exI .i64 (x_15:Int) (fun n_27=>exW .i64 (n_27+1) (fun n_28=>ckQ (decide (0≤n_28)&&true) (exI .u64 (Int.fdiv n_26 ((2:Int)^Min.min n_28.toNat 64)) (fun n_29=>exW .u64 (aK6
 n_29) (fun n_30=>bif n_30==0 then exI .i64 (x_15:Int) (fun n_31=>exW .i64 (n_31+1) (fun n_32=>aNa∧(aZr p n_1 n_3 n_6 n_9∨∃y_33:List Int×Int×List AV,aU0 y_33 p∧qJ p y_33<p.11.length+1∧wB p∧wS ∧
 iP n_1 n_3 n_6 n_9 y_33∧[aAd]=y_33.2.2∧[aAd,.int .i64 (-1)]=aA y_33.1∧bJm n_32 y_33 n_12))) else exI .i64 (x_15:Int) (fun n_31=>exW .i64 (n_31+1) (fun n_32=>aNa∧(aZr p n_1 n_3 n_6 n_9∨∃y_33 :
 List Int×Int×List AV,aU0 y_33 p∧qJ p y_33<p.11.length+1∧wB p∧wS∧iP n_1 n_3 n_6 n_9 y_33∧[aAd]=y_33.2.2∧[aAd,.int .i64 n_25]=aA y_33.1∧bJm n_32 y_33 n_25)))))))))))))))))) else
 nN Q n_1 n_3 n_6 n_9 p) else nN Q n_1 n_3 n_6 n_9 p)))∧∀x_15:List Int×Int×List AV,aU0 x_15 p→exI .i64 (kY x_15) (fun n_16=>exI .i64 (p.11.length:Int) (fun n_17=>bif decide (n_16<n_17) then ckQ
 (aLa x_15) (exI .i64 (aRs x_15) (fun n_18=>bif decide (n_18<64) then exI .i64 (kY x_15) (fun n_19=>ckQ (aYx n_19 p) (ckQ (aEt n_19 p) (exV .u16 (aFi p n_19) (fun n_20=>exI .u16 (n_20.tmod 600) (fun n_21=>exW .i64 n_21
 (fun n_22=>exW .i64 (x_15.2.1+n_22) (fun n_23=>exW .i64 (n_23-100) (fun n_24=>exI .i64 (qZ 0 n_24) (fun n_25=>exI .u64 p.12 (fun n_26=>exI .i64 (kY x_15) (fun n_27=>exW .i64 (n_27+1) (fun n_28=>ckQ (decide (0 ≤
 n_28)&&true) (exI .u64 (Int.fdiv n_26 ((2:Int)^Min.min n_28.toNat 64)) (fun n_29=>exW .u64 (aK6 n_29) (fun n_30=>bif n_30==0 then ckQ (bE3 x_15) (exI .i64 (kY x_15) (fun n_31=>exW .i64 (n_31+1) (fun n_32=>aNa∧((∃
 y_33:Nat,Lf (y_33=0)∧p.11.length+1<qJ p x_15∧wB p∧wS∧iY n_1 n_3 n_6 n_9 x_15∧x_15.2.2=[aAd]∧False)∨oQ p x_15 n_1 n_3 n_6 n_9 n_32)))) else ckQ (bE3 x_15) (exI .i64 (kY x_15) (fun n_31
 => exW .i64 (n_31+1) (fun n_32=>aNa∧((∃y_33:Nat,Lf (y_33=0)∧p.11.length+1<qJ p x_15∧wB p∧wS∧iY n_1 n_3 n_6 n_9 x_15∧x_15.2.2=[aAd]∧False)∨oD p x_15 n_1 n_3 n_6 n_9 n_25
 n_32))))))))))))))))))) else iR Q n_1 n_3 n_6 n_9 x_15 p)) else iR Q n_1 n_3 n_6 n_9 x_15 p)) else ((∃x_15:Nat,Lf (x_15=0)∧wB p∧wS∧bEr n_1 n_3 n_6 n_9∧aK [lC n_12]∧bDu x_15 n_12)∨∃x_15 :
 List Int×Int×List AV,aU0 x_15 p∧wB p∧wS∧nK n_1 n_3 n_6 n_9 x_15∧[lC n_12]=x_15.2.2∧False)∧(∀x_15:Nat,Lf (x_15=0)→exI .i64 (x_15:Int) (fun n_16=>exI .i64 (p.11.length:Int) (fun n_17=>bif
 decide (n_16<n_17) then exI .i64 1 (fun n_18=>bif decide (n_18<64) then exI .i64 (x_15:Int) (fun n_19=>ckQ (aYx n_19 p) (ckQ (aEt n_19 p) (exV .u16 (aFi p n_19) (fun n_20=>exI .u16 (n_20.tmod 600) (fun n_21=>exW .i64
 n_21 (fun n_22=>exW .i64 (n_12+n_22) (fun n_23=>exW .i64 (n_23-100) (fun n_24=>exI .i64 (qZ 0 n_24) (fun n_25=>exI .u64 p.12 (fun n_26=>exI .i64 (x_15:Int) (fun n_27=>exW .i64 (n_27+1) (fun n_28=>ckQ (decide (0 ≤
 n_28)&&true) (exI .u64 (Int.fdiv n_26 ((2:Int)^Min.min n_28.toNat 64)) (fun n_29=>exW .u64 (aK6 n_29) (fun n_30=>bif n_30==0 then exI .i64 (x_15:Int) (fun n_31=>exW .i64 (n_31+1) (fun n_32=>aNa∧((∃y_33:Nat,Lf
 (y_33=0)∧aLz p∧wB p∧wS∧kC n_1 n_3 n_6 n_9∧aK [lC n_12]∧False)∨∃y_33:List Int×Int×List AV,aU0 y_33 p∧qJ p y_33<p.11.length+1∧wB p∧wS∧iP n_1 n_3 n_6 n_9 y_33∧[lC
 n_12]=y_33.2.2∧[lC n_12,.int .i64 (-1)]=aA y_33.1∧bJm n_32 y_33 n_12))) else exI .i64 (x_15:Int) (fun n_31=>exW .i64 (n_31+1) (fun n_32=>aNa∧((∃y_33:Nat,Lf (y_33=0)∧aLz p∧wB p∧wS∧kC
 n_1 n_3 n_6 n_9∧aK [lC n_12]∧False)∨∃y_33:List Int×Int×List AV,aU0 y_33 p∧qJ p y_33<p.11.length+1∧wB p∧wS∧iP n_1 n_3 n_6 n_9 y_33∧[lC n_12]=y_33.2.2∧[lC n_12,.int .i64 n_25] =
 aA y_33.1∧bJm n_32 y_33 n_25)))))))))))))))))) else oM Q n_1 n_3 n_6 n_9 p n_12) else oM Q n_1 n_3 n_6 n_9 p n_12)))∧∀x_15:List Int×Int×List AV,aU0 x_15 p→exI .i64 (kY x_15) (fun n_16=>exI .i64
 (p.11.length:Int) (fun n_17=>bif decide (n_16<n_17) then ckQ (aLa x_15) (exI .i64 (aRs x_15) (fun n_18=>bif decide (n_18<64) then exI .i64 (kY x_15) (fun n_19=>ckQ (aYx n_19 p) (ckQ (aEt n_19 p) (exV .u16 (aFi p
 n_19) (fun n_20=>exI .u16 (n_20.tmod 600) (fun n_21=>exW .i64 n_21 (fun n_22=>exW .i64 (x_15.2.1+n_22) (fun n_23=>exW .i64 (n_23-100) (fun n_24=>exI .i64 (qZ 0 n_24) (fun n_25=>exI .u64 p.12 (fun n_26=>exI .i64 (kY
 x_15) (fun n_27=>exW .i64 (n_27+1) (fun n_28=>ckQ (decide (0≤n_28)&&true) (exI .u64 (Int.fdiv n_26 ((2:Int)^Min.min n_28.toNat 64)) (fun n_29=>exW .u64 (aK6 n_29) (fun n_30=>bif n_30==0 then ckQ (bE3 x_15) (exI .i64
 (kY x_15) (fun n_31=>exW .i64 (n_31+1) (fun n_32=>aNa∧((∃y_33:Nat,Lf (y_33=0)∧p.11.length+1<qJ p x_15∧wB p∧wS∧iY n_1 n_3 n_6 n_9 x_15∧x_15.2.2=[lC n_12]∧False)∨oQ p x_15 n_1
 n_3 n_6 n_9 n_32)))) else ckQ (bE3 x_15) (exI .i64 (kY x_15) (fun n_31=>exW .i64 (n_31+1) (fun n_32=>aNa∧((∃y_33:Nat,Lf (y_33=0)∧p.11.length+1<qJ p x_15∧wB p∧wS∧iY n_1 n_3 n_6 n_9 x_15 ∧
 x_15.2.2=[lC n_12]∧False)∨oD p x_15 n_1 n_3 n_6 n_9 n_25 n_32))))))))))))))))))) else iR Q n_1 n_3 n_6 n_9 x_15 p)) else iR Q n_1 n_3 n_6 n_9 x_15 p)))))))))))))))))):=by kernel_rfl

theorem aMx {l:List Int} {i m:Nat} (hi:i<l.length) (hm:m=i) {K:Int→Prop} (hk:K l[i]):∃n:Int,(bN l).getD m AV.undef=AV.int .u16 n∧K n:=by
 subst hm
 exact ⟨_,by simp[bN,hi],hk⟩
theorem vX (l:List Int):(bN l).length=l.length:=by simp[bN]
theorem bIc {H:List Blk} {id n m:Nat} {b:Blk} {acc:List Int} (hH:H[id]? = some b) (hb:b.cs=aA acc) (hk:b.k≠.ro) (hn:n=acc.length) (hm:m=acc.length):dK 0 H 8 (.sl id n 0 m 1)=.lst 0 (aA acc) acc.length 1:=by
 subst hn hm
 exact mE (d:=6) hH (by rw[hb];exact aB acc) (by omega) hk (by rw[hb,List.drop_zero];exact List.take_of_length_le (by rw[aB];omega)) (fO acc)
theorem bJ5 {H:List Blk} {k f a:Int} {id n m:Nat} {b:Blk} {acc:List Int} (hH:H[id]? = some b) (hb:b.cs=aA acc) (hk:b.k≠.ro) (hn:n=acc.length) (hm:m=acc.length) :
  bMy (.agg [.int .i64 k,.int .i64 f,.int .i64 a,.int .i64 0,.int .i64 0,.int .i64 0,.int .i64 0,.int .i64 0,.nils,.sl id n 0 m 1,.int .i64 0,.int .i64 0,.nils]) H=.agg (ctC ⟨k,f,a,0,0,0,0,0,[],acc,0,0,[]⟩):=by
 show pcK (.agg [.int .i64 k,.int .i64 f,.int .i64 a,.int .i64 0,.int .i64 0,.int .i64 0,.int .i64 0,.int .i64 0,.nils,dK 0 H 8 (.sl id n 0 m 1),.int .i64 0,.int .i64 0,.nils])=_
 rw[bIc hH hb hk hn hm]
 rfl
theorem bKc {H:List Blk} {k f a ba ro:Int} {id n m:Nat} {b:Blk} {acc:List Int} (hH:H[id]? = some b) (hb:b.cs=aA acc) (hk:b.k≠.ro) (hn:n=acc.length) (hm:m=acc.length) :
  bMy (.agg [.int .i64 k,.int .i64 f,.int .i64 a,.int .i64 0,.int .i64 0,.int .i64 0,.int .i64 0,.int .i64 0,.nils,.nils,.int .i64 ba,.int .i64 ro,.sl id n 0 m 1]) H=.agg (ctC ⟨k,f,a,0,0,0,0,0,[],[],ba,ro,acc⟩):=by
 show pcK (.agg [.int .i64 k,.int .i64 f,.int .i64 a,.int .i64 0,.int .i64 0,.int .i64 0,.int .i64 0,.int .i64 0,.nils,.nils,.int .i64 ba,.int .i64 ro,dK 0 H 8 (.sl id n 0 m 1)])=_
 rw[bIc hH hb hk hn hm]
 rfl
theorem bFa {p:Pc} (h:okP p) {lo:List Int} (hl:bV lo=true):aQ ⟨4,p.n0,p.n1,0,0,0,0,0,[],lo,0,0,[]⟩=true:=by
 obtain ⟨h0,h1,h2,h3,h4,h5,h6,h7,h8,h9⟩:=h
 have z:gU 0:=⟨by omega,by omega⟩
 rw[dN]
 dsimp only
 exact ⟨by omega,h1,h2,z,z,z,z,z,by omega,by omega,fun hh=>by omega,fun _=>⟨rfl,rfl,rfl,rfl,rfl⟩,fun _=>⟨rfl,rfl,rfl⟩,fun hh=>rfl,fun hh=>absurd rfl hh,fun hh=>by omega,rfl,fun _=>hl⟩
theorem bCb {p:Pc} (h:okP p) {ti:List Int} (hl:(aZ ti).2.2=true):aQ ⟨6,p.n0,p.n1,0,0,0,0,0,[],[],p.n2%65536,p.n3%256,ti⟩=true:=by
 obtain ⟨h0,h1,h2,h3,h4,h5,h6,h7,h8,h9⟩:=h
 have z:gU 0:=⟨by omega,by omega⟩
 rw[dN]
 dsimp only
 exact ⟨by omega,h1,h2,z,z,z,z,z,by omega,by omega,fun hh=>by omega,fun _=>⟨rfl,rfl,rfl,rfl,rfl⟩,fun hh=>absurd rfl hh,fun hh=>rfl,fun hh=>rfl,fun _=>hl,rfl,fun hh=>by omega⟩
theorem aBf {x m:Int} (h:0≤x):x.tmod m=x%m:=Int.tmod_eq_emod_of_nonneg h
theorem bQ5 (p:Pc) (h:okP p) (Q:Out→List Blk→Gh→Prop) (hq:hqP 4 Q):∃hv hb,vK hv hb p Q:=by
 obtain ⟨hv,hb',e⟩:∃hv hb,vK hv hb p Q=_:=⟨_,_,bC4 p Q⟩
 refine ⟨hv,hb',e.mpr ?_⟩
 delta wB wS bKg aL3 aRl aN1 aPt bLw aYx aEt aFi aNa aLz bA1 qJ lC kY bOx aLa aRs bE3 bAp
 unfold nX nY
 clear e
 have hv4:=@bFa p h
 obtain ⟨h0,h1,h2,h3,h4,h5,h6,h7,h8,h9⟩:=h
 have hc:=vX p.ls
 have t1:p.n2.tmod 65536=p.n2%65536:=aBf h3.1
 have hx:∀x∈p.ls,x.tmod 20=x%20:=fun x hx=>aBf (h8 x hx).1
 have hf:0≤p.n2%65536∧p.n2%65536≤65535:=by omega
 refine ⟨_,rfl,aC (by omega) (by omega) ⟨_,rfl,aC (by omega) (by omega) ⟨_,rfl,_,rfl, ?_⟩⟩⟩
 try dsimp only
 rw[t1]
 generalize p.n2%65536=f at hf ⊢
 have ho:∀ (H:List Blk) (id:Nat) (b:Blk) (acc:List Int) (at':Int),nkP f at' acc→H[id]? = some b→b.cs=aA acc→b.k≠.ro→Q (.ret (.agg [.int .i64 4,.int .i64 p.n0,.int .i64 p.n1,.int .i64 0,.int .i64 0,.int .i64 0,.int .i64 0,.int .i64 0,.nils,.sl id acc.length 0 acc.length 1,.int .i64 0,.int .i64 0,.nils])) H {}:=fun H id b acc at' hn hH hb hk=>
  hq _ (hv4 (bJp hn)) rfl _ _ (bJ5 hH hb hk rfl rfl)
 refine aC (by omega) (by omega) ⟨.inl ⟨0,⟨rfl⟩,rfl,rfl,rfl,rfl,rfl,rfl,rfl,rfl,rfl,rfl,trivial⟩, ?_, ?_⟩
 ·rintro i ⟨rfl⟩
  refine ⟨_,rfl,_,rfl,aD (fun h1=>⟨_,rfl,aD (fun h2 => ?_) (fun h2=>by omega)⟩) (fun h1=>ho _ 3 _ [f] 0 (aP0 hf) rfl rfl (by simp))⟩
  have hlt:0<p.ls.length:=by omega
  refine ⟨_,rfl,_,rfl,ckI (by simp;omega) (ckI (by rw[aL];omega) (aMx hlt rfl ?_))⟩
  have hx0:=hx _ (List.getElem_mem hlt)
  have hr0:=h8 _ (List.getElem_mem hlt)
  generalize p.ls[0]=x at hx0 hr0 ⊢
  try dsimp only
  rw[hx0]
  refine ⟨_,rfl,aC (by omega) (by omega) (aC (by omega) (by omega) (aC (by omega) (by omega) ⟨_,rfl,_,rfl,aC (by omega) (by omega) ⟨⟨trivial,rfl⟩,.inr ⟨([f,(f+(1+x%20))%65536],1+x%20,[.int .i64 f]),⟨by simp,by simp;omega, ?_⟩,by simp;omega,rfl,rfl,rfl,rfl, ?_,rfl,rfl,rfl,rfl,rfl,rfl,trivial⟩⟩⟩))⟩
  ·have:=aKj (d:=1+x%20) (aP0 hf) (by simp) ⟨by omega,by omega⟩
   simpa using this
  ·rw[aBf (by omega)];rfl
 ·rintro ⟨acc,at',z⟩ ⟨g1,g2,g3⟩
  dsimp only at g1 g2 g3 ⊢
  have hl:=aB acc
  have ⟨⟨k1,k2⟩,k3,k4,k5,k6,k7,k8⟩:=g3
  refine ⟨_,rfl,_,rfl,aD (fun h1=>ckI (by rw[hl];simp) ⟨_,rfl,aD (fun h2 => ?_) (fun h2=>ho _ 4 _ acc at' g3 rfl rfl (by simp))⟩) (fun h1=>ho _ 4 _ acc at' g3 rfl rfl (by simp))⟩
  have hlt:acc.length-1<p.ls.length:=by omega
  refine aC (by omega) (by omega) ⟨_,rfl,ckI (by simp;omega) (ckI (by rw[aL];omega) (aMx hlt (by omega) ?_))⟩
  have hx0:=hx _ (List.getElem_mem hlt)
  have hr0:=h8 _ (List.getElem_mem hlt)
  generalize p.ls[acc.length-1]=x at hx0 hr0 ⊢
  try dsimp only
  rw[hx0]
  refine ⟨_,rfl,aC (by omega) (by omega) (aC (by omega) (by omega) (aC (by omega) (by omega) ⟨_,rfl,ckI (by rw[hl];simp;omega) ⟨_,rfl,aC (by omega) (by omega) ⟨⟨trivial,rfl⟩,.inr ⟨(acc++[(f+(at'+1+x%20))%65536],at'+1+x%20,z),⟨by simp;omega,by simp;omega, ?_⟩,by simp;omega,rfl,rfl,by simp,rfl, ?_,rfl,rfl,by simp,rfl,rfl,rfl,trivial⟩⟩⟩⟩))⟩
  ·have:=aKj (d:=1+x%20) g3 (by omega) ⟨by omega,by omega⟩
   rwa [←Int.add_assoc] at this
  ·rw[aBf (by omega)];simp[aA]
theorem bB0 {x:Int} {K:Int→Prop} (h1:0≤x) (h2:x<4294967296) (h:K x):∃n:Int,AV.int .u32 (IntKind.wrap .u32 x)=AV.int .u32 n∧K n:=
 ⟨x,by
  have:IntKind.wrap .u32 x=x:=by rw[show IntKind.wrap .u32 x=x%4294967296 from rfl];omega
  rw[this],h⟩
theorem aDp {y:Int}:0≤qZ 0 y∧y≤qZ 0 y∧(qZ 0 y=0∨qZ 0 y=y):=by
 unfold qZ
 split<;>omega
theorem bQ4 (p:Pc) (h:okP p) (Q:Out→List Blk→Gh→Prop) (hq:hqP 6 Q):∃hv hb,yJ hv hb p Q:=by
 obtain ⟨hv,hb',e⟩:∃hv hb,yJ hv hb p Q=_:=⟨_,_,bAo p Q⟩
 refine ⟨hv,hb',e.mpr ?_⟩
 delta aK6 wB wS bEr aAd bDu aU0 aYx aEt aFi aNa aLz aZr qJ lC kY aL3 aRl aN1 bJm aLa aRs bE3
 unfold iR oQ oD iY iP kC nN oM nK
 clear e
 have hv6:=@bCb p h
 obtain ⟨h0,h1,h2,h3,h4,h5,h6,h7,h8,h9⟩:=h
 have hc:=vX p.ls
 have t1:p.n2.tmod 65536=p.n2%65536:=aBf h3.1
 have t2:p.n3.tmod 256=p.n3%256:=aBf h4.1
 have t3:p.n4.tdiv 2=p.n4/2:=Int.tdiv_eq_ediv_of_nonneg h5.1
 have hx:∀x∈p.ls,x.tmod 600=x%600:=fun x hx=>aBf (h8 x hx).1
 have ha:0≤p.n4/2∧p.n4/2<2147483648:=by omega
 have hba:0≤p.n2%65536∧p.n2%65536<65536:=by omega
 have hro:0≤p.n3%256∧p.n3%256<256:=by omega
 refine ⟨_,rfl,aC (by omega) (by omega) ⟨_,rfl,aC (by omega) (by omega) ⟨_,rfl,_,rfl, ?_⟩⟩⟩
 try dsimp only
 rw[t1]
 refine aC (by omega) (by omega) ⟨_,rfl,_,rfl, ?_⟩
 try dsimp only
 rw[t2]
 refine aC (by omega) (by omega) ⟨_,rfl, ?_⟩
 try dsimp only
 rw[t3]
 generalize p.n4/2=a at ha ⊢
 generalize p.n2%65536=ba at hba hv6 ⊢
 generalize p.n3%256=ro at hro hv6 ⊢
 have ho:∀ (H:List Blk) (id:Nat) (b:Blk) (acc:List Int) (at':Int),tmP at' acc→H[id]? = some b→b.cs=aA acc→b.k≠.ro→Q (.ret (.agg [.int .i64 6,.int .i64 p.n0,.int .i64 p.n1,.int .i64 0,.int .i64 0,.int .i64 0,.int .i64 0,.int .i64 0,.nils,.nils,.int .i64 ba,.int .i64 ro,.sl id acc.length 0 acc.length 1])) H {}:=fun H id b acc at' hn hH hb hk=>
  hq _ (hv6 (bIz hn)) rfl _ _ (bKc hH hb hk rfl rfl)
 refine bB0 (by omega) (by omega) (aC (by omega) (by omega) ⟨_,rfl,_,rfl,aP (fun _ => ?_) (fun _ => ?_)⟩)
 ·
  refine ⟨.inl ⟨0,⟨rfl⟩,rfl,rfl,rfl,rfl,rfl,rfl,rfl,rfl,rfl,trivial⟩, ?_, ?_⟩
  ·rintro i ⟨rfl⟩
   refine ⟨_,rfl,_,rfl,aD (fun h1=>⟨_,rfl,aD (fun h2 => ?_) (fun h2=>by omega)⟩) (fun h1=>ho _ 3 _ [(-1)] a (aBv ha) rfl rfl (by simp))⟩
   have hlt:0<p.ls.length:=by omega
   refine ⟨_,rfl,ckI (by simp;omega) (ckI (by rw[aL];omega) (aMx hlt rfl ?_))⟩
   have hx0:=hx _ (List.getElem_mem hlt)
   have hr0:=h8 _ (List.getElem_mem hlt)
   generalize p.ls[0]=x at hx0 hr0 ⊢
   try dsimp only
   rw[hx0]
   have hm:=aDp (y:=a+x%600-100)
   refine ⟨_,rfl,aC (by omega) (by omega) (aC (by omega) (by omega) (aC (by omega) (by omega) ⟨_,rfl,_,rfl,_,rfl,aC (by omega) (by omega) (ckI (by simp) ⟨_,rfl,_,rfl,aP (fun _ => ?_) (fun _ => ?_)⟩)⟩))⟩
   ·exact ⟨_,rfl,aC (by omega) (by omega) ⟨⟨trivial,rfl⟩,.inr ⟨([(-1), -1],a,[.int .i64 (-1)]),⟨by simp,by simp;omega,vG (aBv ha) (by simp)⟩,by simp;omega,rfl,rfl,rfl,rfl,rfl,rfl,rfl,rfl,rfl,rfl,trivial⟩⟩⟩
   ·exact ⟨_,rfl,aC (by omega) (by omega) ⟨⟨trivial,rfl⟩,.inr ⟨([(-1),qZ 0 (a+x%600-100)],qZ 0 (a+x%600-100),[.int .i64 (-1)]),⟨by simp,by simp;omega,aCz (b:=qZ 0 (a+x%600-100)) (a:=a) (l:=[(-1)]) (aBv ha) (by simp) (by generalize qZ 0 (a+x%600-100)=w at hm ⊢;omega)⟩,by simp;omega,rfl,rfl,rfl,rfl,rfl,rfl,rfl,rfl,rfl,rfl,trivial⟩⟩⟩
  ·rintro ⟨acc,at',z⟩ ⟨g1,g2,g3⟩
   dsimp only at g1 g2 g3 ⊢
   have hl:=aB acc
   have ⟨⟨k1,k2⟩,k3,k4⟩:=g3
   refine ⟨_,rfl,_,rfl,aD (fun h1=>ckI (by rw[hl];simp) ⟨_,rfl,aD (fun h2 => ?_) (fun h2=>ho _ 4 _ acc at' g3 rfl rfl (by simp))⟩) (fun h1=>ho _ 4 _ acc at' g3 rfl rfl (by simp))⟩
   have hlt:acc.length-1<p.ls.length:=by omega
   refine ⟨_,rfl,ckI (by simp;omega) (ckI (by rw[aL];omega) (aMx hlt (by omega) ?_))⟩
   have hx0:=hx _ (List.getElem_mem hlt)
   have hr0:=h8 _ (List.getElem_mem hlt)
   generalize p.ls[acc.length-1]=x at hx0 hr0 ⊢
   try dsimp only
   rw[hx0]
   have hm:=aDp (y:=at'+x%600-100)
   refine ⟨_,rfl,aC (by omega) (by omega) (aC (by omega) (by omega) (aC (by omega) (by omega) ⟨_,rfl,_,rfl,_,rfl,aC (by omega) (by omega) (ckI (by simp) ⟨_,rfl,_,rfl,aP (fun _ => ?_) (fun _ => ?_)⟩)⟩))⟩
   ·exact ckI (by rw[hl];simp;omega) ⟨_,rfl,aC (by omega) (by omega) ⟨⟨trivial,rfl⟩,.inr ⟨(acc++[-1],at',z),⟨by simp;omega,by simp;omega,vG g3 (by omega)⟩,by simp;omega,rfl,rfl,by simp,rfl,by simp[aA],by simp,rfl,rfl,rfl,rfl,trivial⟩⟩⟩
   ·exact ckI (by rw[hl];simp;omega) ⟨_,rfl,aC (by omega) (by omega) ⟨⟨trivial,rfl⟩,.inr ⟨(acc++[qZ 0 (at'+x%600-100)],qZ 0 (at'+x%600-100),z),⟨by simp;omega,by simp;omega,aCz (b:=qZ 0 (at'+x%600-100)) g3 (by omega) (by generalize qZ 0 (at'+x%600-100)=w at hm ⊢;omega)⟩,by simp;omega,rfl,rfl,by simp,rfl,by simp[aA],by simp,rfl,rfl,rfl,rfl,trivial⟩⟩⟩
 ·
  refine ⟨.inl ⟨0,⟨rfl⟩,rfl,rfl,rfl,rfl,rfl,rfl,rfl,rfl,rfl,trivial⟩, ?_, ?_⟩
  ·rintro i ⟨rfl⟩
   refine ⟨_,rfl,_,rfl,aD (fun h1=>⟨_,rfl,aD (fun h2 => ?_) (fun h2=>by omega)⟩) (fun h1=>ho _ 3 _ [a] a (aHo ha) rfl rfl (by simp))⟩
   have hlt:0<p.ls.length:=by omega
   refine ⟨_,rfl,ckI (by simp;omega) (ckI (by rw[aL];omega) (aMx hlt rfl ?_))⟩
   have hx0:=hx _ (List.getElem_mem hlt)
   have hr0:=h8 _ (List.getElem_mem hlt)
   generalize p.ls[0]=x at hx0 hr0 ⊢
   try dsimp only
   rw[hx0]
   have hm:=aDp (y:=a+x%600-100)
   refine ⟨_,rfl,aC (by omega) (by omega) (aC (by omega) (by omega) (aC (by omega) (by omega) ⟨_,rfl,_,rfl,_,rfl,aC (by omega) (by omega) (ckI (by simp) ⟨_,rfl,_,rfl,aP (fun _ => ?_) (fun _ => ?_)⟩)⟩))⟩
   ·exact ⟨_,rfl,aC (by omega) (by omega) ⟨⟨trivial,rfl⟩,.inr ⟨([a, -1],a,[.int .i64 a]),⟨by simp,by simp;omega,vG (aHo ha) (by simp)⟩,by simp;omega,rfl,rfl,rfl,rfl,rfl,rfl,rfl,rfl,rfl,rfl,trivial⟩⟩⟩
   ·exact ⟨_,rfl,aC (by omega) (by omega) ⟨⟨trivial,rfl⟩,.inr ⟨([a,qZ 0 (a+x%600-100)],qZ 0 (a+x%600-100),[.int .i64 a]),⟨by simp,by simp;omega,aCz (b:=qZ 0 (a+x%600-100)) (a:=a) (l:=[a]) (aHo ha) (by simp) (by generalize qZ 0 (a+x%600-100)=w at hm ⊢;omega)⟩,by simp;omega,rfl,rfl,rfl,rfl,rfl,rfl,rfl,rfl,rfl,rfl,trivial⟩⟩⟩
  ·rintro ⟨acc,at',z⟩ ⟨g1,g2,g3⟩
   dsimp only at g1 g2 g3 ⊢
   have hl:=aB acc
   have ⟨⟨k1,k2⟩,k3,k4⟩:=g3
   refine ⟨_,rfl,_,rfl,aD (fun h1=>ckI (by rw[hl];simp) ⟨_,rfl,aD (fun h2 => ?_) (fun h2=>ho _ 4 _ acc at' g3 rfl rfl (by simp))⟩) (fun h1=>ho _ 4 _ acc at' g3 rfl rfl (by simp))⟩
   have hlt:acc.length-1<p.ls.length:=by omega
   refine ⟨_,rfl,ckI (by simp;omega) (ckI (by rw[aL];omega) (aMx hlt (by omega) ?_))⟩
   have hx0:=hx _ (List.getElem_mem hlt)
   have hr0:=h8 _ (List.getElem_mem hlt)
   generalize p.ls[acc.length-1]=x at hx0 hr0 ⊢
   try dsimp only
   rw[hx0]
   have hm:=aDp (y:=at'+x%600-100)
   refine ⟨_,rfl,aC (by omega) (by omega) (aC (by omega) (by omega) (aC (by omega) (by omega) ⟨_,rfl,_,rfl,_,rfl,aC (by omega) (by omega) (ckI (by simp) ⟨_,rfl,_,rfl,aP (fun _ => ?_) (fun _ => ?_)⟩)⟩))⟩
   ·exact ckI (by rw[hl];simp;omega) ⟨_,rfl,aC (by omega) (by omega) ⟨⟨trivial,rfl⟩,.inr ⟨(acc++[-1],at',z),⟨by simp;omega,by simp;omega,vG g3 (by omega)⟩,by simp;omega,rfl,rfl,by simp,rfl,by simp[aA],by simp,rfl,rfl,rfl,rfl,trivial⟩⟩⟩
   ·exact ckI (by rw[hl];simp;omega) ⟨_,rfl,aC (by omega) (by omega) ⟨⟨trivial,rfl⟩,.inr ⟨(acc++[qZ 0 (at'+x%600-100)],qZ 0 (at'+x%600-100),z),⟨by simp;omega,by simp;omega,aCz (b:=qZ 0 (at'+x%600-100)) g3 (by omega) (by generalize qZ 0 (at'+x%600-100)=w at hm ⊢;omega)⟩,by simp;omega,rfl,rfl,by simp,rfl,by simp[aA],by simp,rfl,rfl,rfl,rfl,trivial⟩⟩⟩
end Go.Proofs.YtafchcmemeinlaaDoor

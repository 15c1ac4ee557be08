/-
  Chapter 24: Draft: contract of Piece.control; Compound.
-/
import Derived.Test.YtafchcmemeinlaaDoorC24YC
set_option linter.unusedSimpArgs false
set_option linter.unusedVariables false
set_option linter.unusedSectionVars false
namespace Go.Proofs.YtafchcmemeinlaaDoor
open Go.RowKit
set_option maxRecDepth 1000000

def aQj:Con
 | [.agg cs,.int .i64 κ],H,K=>∃p:Pc,Lf (cs=pcC p∧okP p∧1≤κ∧κ≤6)∧∀c:Ctl,Lf (aQ c=true∧c.k=κ)→K (.ret (.agg (ctC c))) H
 | _,_,_=>False
theorem aOt:aO Tryd.prog glC 36 aQj:=by
 refine fE (enters_of (by kernel_rfl)) aV 9 pcK bJx fun args H Q hc => ?_
 unfold aQj at hc
 split at hc
 ·rename_i cs κ
  obtain ⟨p,⟨rfl,hp,hk1,hk2⟩,hq⟩:=hc
  have go:hqP κ (fun o H' _=>∃v,o=.ret v∧Q (.ret (pcK (dK 0 H' 9 v))) H):=fun c hv hk v H' ho=>⟨v,rfl,by
   have:=hq c ⟨hv,hk⟩
   rw[←ho] at this
   exact this⟩
  obtain rfl | rfl | rfl | rfl | rfl | rfl:κ=1∨κ=2∨κ=3∨κ=4∨κ=5∨κ=6:=by omega
  ·obtain ⟨hv,hb',h⟩:=bRl p hp _ go
   exact ⟨rfl,rfl,_,1000,(aS rW _ _ _:EnvFor Tryd.prog (aAm hv hb' p)),rfl,h⟩
  ·obtain ⟨hv,hb',h⟩:=bQ6 p hp _ go
   exact ⟨rfl,rfl,_,1000,(aS rW _ _ _:EnvFor Tryd.prog (aAm hv hb' p)),rfl,h⟩
  ·obtain ⟨hv,hb',h⟩:=bRg p hp _ go
   exact ⟨rfl,rfl,_,1000,(aS rW _ _ _:EnvFor Tryd.prog (aAm hv hb' p)),rfl,h⟩
  ·obtain ⟨hv,hb',h⟩:=bQ5 p hp _ go
   exact ⟨rfl,rfl,_,1000,(aS rW _ _ _:EnvFor Tryd.prog (rF hv hb' p)),rfl,h⟩
  ·obtain ⟨hv,hb',h⟩:=bRh p hp _ go
   exact ⟨rfl,rfl,_,1000,(aS rW _ _ _:EnvFor Tryd.prog (aAm hv hb' p)),rfl,h⟩
  ·obtain ⟨hv,hb',h⟩:=bQ4 p hp _ go
   exact ⟨rfl,rfl,_,1000,(aS rW _ _ _:EnvFor Tryd.prog (rF hv hb' p)),rfl,h⟩
 ·exact hc.elim
def pcA:List AV→List AV
 | [.agg l,k]=>[.agg (nlL [0,0,0,0,0,0,0,1,1,0] l),k]
 | l=>l
def aO9:Con:=fun args H Q=>aQj (pcA args) H Q
theorem aUq:aO Tryd.prog glC 36 aO9:=xL aOt fun args H Q h=>⟨pcA args,by
 unfold pcA
 split
 ·exact aB4 (aJe (yZ _ _)) (mI _)
 ·exact mI _,h⟩
def aY (ps:List Pc):List AV:=ps.flatMap pcC
def bQg:SM:=gH [(36,aO9)]
theorem bBq:∀f g,bQg f=some g→aO Tryd.prog glC f g:=bW _ (by simp only[List.mem_cons,List.not_mem_nil,or_false,forall_eq];exact aUq)
def okL (l:List Ctl):Prop:=lL l=true∧∀c∈l,aQ c=true
abbrev X12:=List Ctl×List AV×List AV×List AV
def bJd (ps:List Pc) (s:S):List (List LInv):=match s.hp with
 | [b0,⟨k1,f1,_⟩,⟨k2,f2,_⟩]=>[[
  { α:=List AV×Ctl,pre:=fun x=>Lf (okL [x.2]),st:=fun x=>⟨mkT [(1,.ptr 0 2 0),(4,.sl 2 13 0 1 13),(5,.int .i64 1)],[b0,⟨k1,f1,x.1⟩,⟨k2,f2,ctC x.2⟩]⟩,mu:=fun x=>4 },
  { α:=X12,pre:=fun x=>Lf (2≤x.1.length∧x.1.length≤4∧okL x.1),st:=fun x=>⟨mkT [(1,.ptr 0 2 0),(4,.sl 4 (13*x.1.length) 0 x.1.length 13),(5,.int .i64 (x.1.length:Nat))],[b0,⟨k1,f1,x.2.1⟩,⟨k2,f2,x.2.2.1⟩,⟨.exact,true,x.2.2.2⟩,⟨.grow,true,aG x.1⟩]⟩,mu:=fun x=>4-x.1.length }]]
 | _=>[]
noncomputable def aOv (hv:Nat→Option Pa) (hb:Nat→Option Bool) (ps:List Pc):Env:=e24 bQg (fun i=>bif Nat.beq i 12000 then some (bJd ps) else none) hv hb
noncomputable def aHa (hv:Nat→Option Pa) (hb:Nat→Option Bool) (b:Bool) (t:Nat) (ps:List Pc) (Q:Out→List Blk→Gh→Prop):Prop:=
 bH (aOv hv hb ps) (wpx (aOv hv hb ps) 1000) 12 [.agg [.bool b,.lst t (aY ps) ps.length 10]] [] {} Q
def sN (b:Bool) (t:Nat) (ps:List Pc) (Q:Out→List Blk→Gh→Prop):Prop:=
(∀x_0:List AV×Ctl,Lf (okL [x_0.2])→exI .i64 1 fun n_1=>exI .i64 (ps.length:Int) fun n_2=>bif decide (n_1<n_2) then exI .i64 1 fun n_3=>bif decide (n_3<4) then exI .i64 1 fun n_4=>ckQ (decide (0≤n_4)&&Nat.blt
 n_4.toNat ps.length&&true) (ckQ (Nat.ble (n_4.toNat*10+10) (aY ps).length) (∃n_5 n_6 n_7 n_8 n_9 n_10 n_11,∃t_12:Nat,∃cs_13:List AV,∃len_14 t_15:Nat,∃cs_16:List AV,∃len_17:Nat,∃n_18,AV.agg (((aY
 ps).drop (n_4.toNat*10)).take 10)=AV.agg [.int .u8 n_5,.int .u32 n_6,.int .u32 n_7,.int .u32 n_8,.int .u32 n_9,.int .u32 n_10,.int .u32 n_11,.lst t_12 cs_13 len_14 1,.lst t_15 cs_16 len_17 1,.int .u64 n_18]∧exI .i64 1 fun
 n_19=>ckQ (decide (0≤n_19)&&Nat.blt n_19.toNat ps.length&&true) (ckQ (Nat.blt (n_19.toNat*10+0) (aY ps).length) (exV .u8 ((aY ps).getD (n_19.toNat*10+0) AV.undef) fun n_20=>exI .u8 (n_20.tmod 6) fun n_21=>
 exW .i64 n_21 fun n_22=>exW .i64 (1+n_22) fun n_23=>∃p_24:Pc,Lf ([AV.int .u8 n_5,.int .u32 n_6,.int .u32 n_7,.int .u32 n_8,.int .u32 n_9,.int .u32 n_10,.int .u32 n_11,.lst t_12 cs_13 len_14 1,.lst t_15 cs_16 len_17 1,
 .int .u64 n_18]=[AV.int .u8 p_24.1,.int .u32 p_24.2,.int .u32 p_24.3,.int .u32 p_24.4,.int .u32 p_24.5,.int .u32 p_24.6,.int .u32 p_24.7,.lst p_24.8 (bM p_24.9) p_24.9.length 1,.lst p_24.10 (bN p_24.11) p_24.11.length
 1,.int .u64 p_24.12]∧okP p_24∧1≤n_23∧n_23≤6)∧∀c_25:Ctl,Lf (aQ c_25=true∧Ctl.k c_25=n_23)→exI .i64 1 fun n_26=>exW .i64 (n_26+1) fun n_27=>(True∧(0:Nat)=(0:Nat))∧((∃y_28:List AV×Ctl,Lf (okL
 [y_28.2])∧(4:Nat)<(4:Nat)∧aK [AV.bool b,.lst t (aY ps) ps.length 10]∧x_0.1=y_28.1∧[AV.int .i64 x_0.2.1,.int .i64 x_0.2.2,.int .i64 x_0.2.3,.int .i64 x_0.2.4,.int .i64 x_0.2.5,.int .i64 x_0.2.6,.int .i64
 x_0.2.7,.int .i64 x_0.2.8,.lst 0 (aF x_0.2.9) x_0.2.9.length 7,.lst 0 (aA x_0.2.10) x_0.2.10.length 1,.int .i64 x_0.2.11,.int .i64 x_0.2.12,.lst 0 (aA x_0.2.13) x_0.2.13.length 1]=[AV.int .i64 y_28.2.1,.int .i64
 y_28.2.2,.int .i64 y_28.2.3,.int .i64 y_28.2.4,.int .i64 y_28.2.5,.int .i64 y_28.2.6,.int .i64 y_28.2.7,.int .i64 y_28.2.8,.lst 0 (aF y_28.2.9) y_28.2.9.length 7,.lst 0 (aA y_28.2.10) y_28.2.10.length 1,.int .i64
 y_28.2.11,.int .i64 y_28.2.12,.lst 0 (aA y_28.2.13) y_28.2.13.length 1]∧False)∨∃y_28:List Ctl×List AV×List AV×List AV,Lf (2≤y_28.1.length∧y_28.1.length≤4∧okL y_28.1)∧4-y_28.1.length<4∧aK [AV.bool b,
 .lst t (aY ps) ps.length 10]∧x_0.1=y_28.2.1∧[AV.int .i64 x_0.2.1,.int .i64 x_0.2.2,.int .i64 x_0.2.3,.int .i64 x_0.2.4,.int .i64 x_0.2.5,.int .i64 x_0.2.6,.int .i64 x_0.2.7,.int .i64 x_0.2.8,.lst 0 (aF x_0.2.9)
 x_0.2.9.length 7,.lst 0 (aA x_0.2.10) x_0.2.10.length 1,.int .i64 x_0.2.11,.int .i64 x_0.2.12,.lst 0 (aA x_0.2.13) x_0.2.13.length 1]=y_28.2.2.1∧[AV.int .i64 c_25.1,.int .i64 c_25.2,.int .i64 c_25.3,.int .i64 c_25.4,
 .int .i64 c_25.5,.int .i64 c_25.6,.int .i64 c_25.7,.int .i64 c_25.8,.lst 0 (aF c_25.9) c_25.9.length 7,.lst 0 (aA c_25.10) c_25.10.length 1,.int .i64 c_25.11,.int .i64 c_25.12,.lst 0 (aA c_25.13) c_25.13.length 1] =
 y_28.2.2.2∧[AV.int .i64 x_0.2.1,.int .i64 x_0.2.2,.int .i64 x_0.2.3,.int .i64 x_0.2.4,.int .i64 x_0.2.5,.int .i64 x_0.2.6,.int .i64 x_0.2.7,.int .i64 x_0.2.8,.lst 0 (aF x_0.2.9) x_0.2.9.length 7,.lst 0 (aA x_0.2.10)
 x_0.2.10.length 1,.int .i64 x_0.2.11,.int .i64 x_0.2.12,.lst 0 (aA x_0.2.13) x_0.2.13.length 1,.int .i64 c_25.1,.int .i64 c_25.2,.int .i64 c_25.3,.int .i64 c_25.4,.int .i64 c_25.5,.int .i64 c_25.6,.int .i64 c_25.7,.int .i64
 c_25.8,.lst 0 (aF c_25.9) c_25.9.length 7,.lst 0 (aA c_25.10) c_25.10.length 1,.int .i64 c_25.11,.int .i64 c_25.12,.lst 0 (aA c_25.13) c_25.13.length 1]=aG y_28.1∧aK (AV.ptr 0 2 0)∧AV.int .i64 n_27=AV.int
 .i64 (y_28.1.length:Int)∧AV.sl 4 26 0 2 13=AV.sl 4 (13*y_28.1.length) 0 y_28.1.length 13∧True))))) else Q (.ret (.sl 2 13 0 1 13)) [Blk.mk BK.exact true [.bool b,.lst t (aY ps) ps.length 10],Blk.mk BK.exact true x_0.1,
 Blk.mk BK.exact true [.int .i64 x_0.2.1,.int .i64 x_0.2.2,.int .i64 x_0.2.3,.int .i64 x_0.2.4,.int .i64 x_0.2.5,.int .i64 x_0.2.6,.int .i64 x_0.2.7,.int .i64 x_0.2.8,.lst 0 (aF x_0.2.9) x_0.2.9.length 7,.lst 0 (aA
 x_0.2.10) x_0.2.10.length 1,.int .i64 x_0.2.11,.int .i64 x_0.2.12,.lst 0 (aA x_0.2.13) x_0.2.13.length 1]] {} else Q (.ret (.sl 2 13 0 1 13)) [Blk.mk BK.exact true [.bool b,.lst t (aY ps) ps.length 10],Blk.mk BK.exact true
 x_0.1,Blk.mk BK.exact true [.int .i64 x_0.2.1,.int .i64 x_0.2.2,.int .i64 x_0.2.3,.int .i64 x_0.2.4,.int .i64 x_0.2.5,.int .i64 x_0.2.6,.int .i64 x_0.2.7,.int .i64 x_0.2.8,.lst 0 (aF x_0.2.9) x_0.2.9.length 7,.lst 0 (aA
 x_0.2.10) x_0.2.10.length 1,.int .i64 x_0.2.11,.int .i64 x_0.2.12,.lst 0 (aA x_0.2.13) x_0.2.13.length 1]] {})∧∀x_0:List Ctl×List AV×List AV×List AV,Lf (2≤x_0.1.length∧x_0.1.length≤4∧okL x_0.1)→exI .i64
 (x_0.1.length:Int) fun n_1=>exI .i64 (ps.length:Int) fun n_2=>bif decide (n_1<n_2) then exI .i64 (x_0.1.length:Int) fun n_3=>bif decide (n_3<4) then exI .i64 (x_0.1.length:Int) fun n_4=>ckQ (decide (0≤n_4)&&Nat.blt
 n_4.toNat ps.length&&true) (ckQ (Nat.ble (n_4.toNat*10+10) (aY ps).length) (∃n_5 n_6 n_7 n_8 n_9 n_10 n_11,∃t_12:Nat,∃cs_13:List AV,∃len_14 t_15:Nat,∃cs_16:List AV,∃len_17:Nat,∃n_18,AV.agg (((aY
 ps).drop (n_4.toNat*10)).take 10)=AV.agg [.int .u8 n_5,.int .u32 n_6,.int .u32 n_7,.int .u32 n_8,.int .u32 n_9,.int .u32 n_10,.int .u32 n_11,.lst t_12 cs_13 len_14 1,.lst t_15 cs_16 len_17 1,.int .u64 n_18]∧exI .i64
 (x_0.1.length:Int) fun n_19=>ckQ (decide (0≤n_19)&&Nat.blt n_19.toNat ps.length&&true) (ckQ (Nat.blt (n_19.toNat*10+0) (aY ps).length) (exV .u8 ((aY ps).getD (n_19.toNat*10+0) AV.undef) fun n_20=>exI .u8
 (n_20.tmod 6) fun n_21=>exW .i64 n_21 fun n_22=>exW .i64 (1+n_22) fun n_23=>∃p_24:Pc,Lf ([AV.int .u8 n_5,.int .u32 n_6,.int .u32 n_7,.int .u32 n_8,.int .u32 n_9,.int .u32 n_10,.int .u32 n_11,.lst t_12 cs_13 len_14 1,
 .lst t_15 cs_16 len_17 1,.int .u64 n_18]=[AV.int .u8 p_24.1,.int .u32 p_24.2,.int .u32 p_24.3,.int .u32 p_24.4,.int .u32 p_24.5,.int .u32 p_24.6,.int .u32 p_24.7,.lst p_24.8 (bM p_24.9) p_24.9.length 1,.lst p_24.10
 (bN p_24.11) p_24.11.length 1,.int .u64 p_24.12]∧okP p_24∧1≤n_23∧n_23≤6)∧∀c_25:Ctl,Lf (aQ c_25=true∧Ctl.k c_25=n_23)→ckQ (Nat.beq (aG x_0.1).length (13*x_0.1.length)&&true&&Nat.beq (0 +
 x_0.1.length*13) (13*x_0.1.length)&&Nat.ble (x_0.1.length+1) 1099511627776&&Nat.ble ((x_0.1.length+1)*152) 1099511627776) (exI .i64 (x_0.1.length:Int) fun n_26=>exW .i64 (n_26+1) fun n_27=>(True∧(0:Nat)=(0 :
 Nat))∧((∃y_28:List AV×Ctl,Lf (okL [y_28.2])∧4<4-x_0.1.length∧aK [AV.bool b,.lst t (aY ps) ps.length 10]∧x_0.2.1=y_28.1∧x_0.2.2.1=[AV.int .i64 y_28.2.1,.int .i64 y_28.2.2,.int .i64 y_28.2.3,.int .i64
 y_28.2.4,.int .i64 y_28.2.5,.int .i64 y_28.2.6,.int .i64 y_28.2.7,.int .i64 y_28.2.8,.lst 0 (aF y_28.2.9) y_28.2.9.length 7,.lst 0 (aA y_28.2.10) y_28.2.10.length 1,.int .i64 y_28.2.11,.int .i64 y_28.2.12,.lst 0 (aA
 y_28.2.13) y_28.2.13.length 1]∧False)∨∃y_28:List Ctl×List AV×List AV×List AV,Lf (2≤y_28.1.length∧y_28.1.length≤4∧okL y_28.1)∧4-y_28.1.length<4-x_0.1.length∧aK [AV.bool b,.lst t (aY ps) ps.length 10]
 ∧ x_0.2.1=y_28.2.1∧x_0.2.2.1=y_28.2.2.1∧x_0.2.2.2=y_28.2.2.2∧aG x_0.1++[AV.int .i64 c_25.1,.int .i64 c_25.2,.int .i64 c_25.3,.int .i64 c_25.4,.int .i64 c_25.5,.int .i64 c_25.6,.int .i64 c_25.7,.int .i64 c_25.8,
 .lst 0 (aF c_25.9) c_25.9.length 7,.lst 0 (aA c_25.10) c_25.10.length 1,.int .i64 c_25.11,.int .i64 c_25.12,.lst 0 (aA c_25.13) c_25.13.length 1]=aG y_28.1∧aK (AV.ptr 0 2 0)∧AV.int .i64 n_27=AV.int .i64
 (y_28.1.length:Int)∧AV.sl 4 (13*x_0.1.length+13) 0 (x_0.1.length+1) 13=AV.sl 4 (13*y_28.1.length) 0 y_28.1.length 13∧True)))))) else Q (.ret (.sl 4 (13*x_0.1.length) 0 x_0.1.length 13)) [Blk.mk BK.exact true [.bool b,
 .lst t (aY ps) ps.length 10],Blk.mk BK.exact true x_0.2.1,Blk.mk BK.exact true x_0.2.2.1,Blk.mk BK.exact true x_0.2.2.2,Blk.mk BK.grow true (aG x_0.1)] {} else Q (.ret (.sl 4 (13*x_0.1.length) 0 x_0.1.length 13)) [Blk.mk
 BK.exact true [.bool b,.lst t (aY ps) ps.length 10],Blk.mk BK.exact true x_0.2.1,Blk.mk BK.exact true x_0.2.2.1,Blk.mk BK.exact true x_0.2.2.2,Blk.mk BK.grow true (aG x_0.1)] {}
abbrev qP (c_18:Ctl) (x_19:List AV×Ctl):Prop:=
[AV.int .i64 c_18.1,.int .i64 c_18.2,.int .i64 c_18.3,.int .i64 c_18.4,.int .i64 c_18.5,.int .i64 c_18.6,.int .i64 c_18.7,.int .i64 c_18.8,.lst 0 (aF c_18.9) c_18.9.length 7,.lst 0 (aA c_18.10) c_18.10.length 1,.int .i64
 c_18.11,.int .i64 c_18.12,.lst 0 (aA c_18.13) c_18.13.length 1]=[AV.int .i64 x_19.2.1,.int .i64 x_19.2.2,.int .i64 x_19.2.3,.int .i64 x_19.2.4,.int .i64 x_19.2.5,.int .i64 x_19.2.6,.int .i64 x_19.2.7,.int .i64 x_19.2.8,.lst
 0 (aF x_19.2.9) x_19.2.9.length 7,.lst 0 (aA x_19.2.10) x_19.2.10.length 1,.int .i64 x_19.2.11,.int .i64 x_19.2.12,.lst 0 (aA x_19.2.13) x_19.2.13.length 1]∧aK (AV.ptr 0 2 0)∧aK (AV.int .i64 1)∧aK (AV.sl 2 13 0
 1 13)∧True
abbrev pI (c_18:Ctl) (x_19:List Ctl×List AV×List AV×List AV):Prop:=
[AV.int .i64 c_18.1,.int .i64 c_18.2,.int .i64 c_18.3,.int .i64 c_18.4,.int .i64 c_18.5,.int .i64 c_18.6,.int .i64 c_18.7,.int .i64 c_18.8,.lst 0 (aF c_18.9) c_18.9.length 7,.lst 0 (aA c_18.10) c_18.10.length 1,.int .i64
 c_18.11,.int .i64 c_18.12,.lst 0 (aA c_18.13) c_18.13.length 1]=x_19.2.2.1∧False
abbrev bJq (p_15:Pc):List AV:=[.int .u8 p_15.1,.int .u32 p_15.2,.int .u32 p_15.3,.int .u32 p_15.4,.int .u32 p_15.5,.int .u32 p_15.6,.int .u32 p_15.7,.lst p_15.8 (bM p_15.9) p_15.9.length 1,.lst p_15.10 (bN p_15.11) p_15.11.length 1,.int .u64 p_15.12]
abbrev bNi:Prop:=(1:Int)≤(2:Int)∧(2:Int)≤(6:Int)
abbrev bP5:Prop:=(1:Int)≤(1:Int)∧(1:Int)≤(6:Int)
abbrev bAt (b:Bool) (t:Nat) (ps:List Pc):Prop:=aK [AV.bool b,.lst t (aY ps) ps.length 10]
abbrev bL2 (x_19:List Ctl×List AV×List AV×List AV):Prop:=Lf (2≤x_19.1.length∧x_19.1.length≤4∧okL x_19.1)
abbrev bNa:List AV:=[.int .u8 0,.int .u32 0,.int .u32 0,.int .u32 0,.int .u32 0,.int .u32 0,.int .u32 0,.lst 0 [] 0 1,.lst 0 [] 0 1,.int .u64 0]
abbrev bOw:List AV:=[.int .u8 0,.int .u32 0,.int .u32 0,.int .u32 0,.int .u32 0,.int .u32 0,.int .u32 0,.nils,.nils,.int .u64 0]
abbrev bNn (b:Bool) (t:Nat) (ps:List Pc) (c_4:Ctl):Prop:=(∃x_5:List AV×Ctl,Lf (okL [x_5.2])∧bAt b t ps∧bOw=x_5.1∧qP c_4 x_5)∨∃x_5:List Ctl×List AV×List AV×List AV,bL2 x_5∧bAt b t ps∧bOw=x_5.2.1∧pI c_4 x_5
theorem bO6 (b:Bool) (t:Nat) (ps:List Pc) (Q:Out→List Blk→Gh→Prop):aHa (bG [(49160,.int .i64),(49165,.agg [.int .u8,.int .u32,.int .u32,.int .u32,.int .u32,.int .u32,.int .u32,.lst 1,.lst 1,.int .u64]),
 (49178,.int .i64),(49191,.agg [.int .u8,.int .u32,.int .u32,.int .u32,.int .u32,.int .u32,.int .u32,.lst 1,.lst 1,.int .u64]),(49197,.int .u8),(49198,.int .u8),(49199,.int .i64),(49200,.int .i64),(49175,.int .i64),
 (49181,.int .i64),(49189,.int .i64),(49194,.int .i64),(49184,.int .i64),(49185,.int .i64)]) (bF []) b t ps Q=(exI .i64 (ps.length:Int) (fun n_0=>bif decide (n_0>0) then ckQ (Nat.blt 0 ps.length&&true) (ckQ (Nat.ble 10
 (aY ps).length) (∃n_1 n_2 n_3 n_4 n_5 n_6 n_7,∃t_8:Nat,∃cs_9:List AV,∃len_10 t_11:Nat,∃cs_12:List AV,∃len_13:Nat,∃n_14,AV.agg (((aY ps).drop 0).take 10)=AV.agg [.int .u8 n_1,.int .u32 n_2,.int .u32
 n_3,.int .u32 n_4,.int .u32 n_5,.int .u32 n_6,.int .u32 n_7,.lst t_8 cs_9 len_10 1,.lst t_11 cs_12 len_13 1,.int .u64 n_14]∧∃p_15:Pc,Lf ([AV.int .u8 n_1,.int .u32 n_2,.int .u32 n_3,.int .u32 n_4,.int .u32 n_5,.int .u32
 n_6,.int .u32 n_7,.lst t_8 cs_9 len_10 1,.lst t_11 cs_12 len_13 1,.int .u64 n_14]=bJq p_15∧okP p_15∧bNi)∧∀c_16:Ctl,Lf (aQ c_16=true∧Ctl.k c_16=2)→bif b then ∃p_17:Pc,Lf ([AV.int .u8 n_1,.int .u32 n_2,
 .int .u32 n_3,.int .u32 n_4,.int .u32 n_5,.int .u32 n_6,.int .u32 n_7,.lst t_8 cs_9 len_10 1,.lst t_11 cs_12 len_13 1,.int .u64 n_14]=bJq p_17∧okP p_17∧bP5)∧∀c_18:Ctl,Lf (aQ c_18=true∧Ctl.k c_18=1)→((∃x_19
 : List AV×Ctl,Lf (okL [x_19.2])∧bAt b t ps∧[AV.int .u8 n_1,.int .u32 n_2,.int .u32 n_3,.int .u32 n_4,.int .u32 n_5,.int .u32 n_6,.int .u32 n_7,.lst t_8 cs_9 len_10 1,.lst t_11 cs_12 len_13 1,.int .u64 n_14]=x_19.1 ∧
 qP c_18 x_19)∨∃x_19:List Ctl×List AV×List AV×List AV,bL2 x_19∧bAt b t ps∧[AV.int .u8 n_1,.int .u32 n_2,.int .u32 n_3,.int .u32 n_4,.int .u32 n_5,.int .u32 n_6,.int .u32 n_7,.lst t_8 cs_9 len_10 1,.lst t_11
 cs_12 len_13 1,.int .u64 n_14]=x_19.2.1∧pI c_18 x_19)∧sN b t ps Q else ((∃x_17:List AV×Ctl,Lf (okL [x_17.2])∧bAt b t ps∧[AV.int .u8 n_1,.int .u32 n_2,.int .u32 n_3,.int .u32 n_4,.int .u32 n_5,.int .u32
 n_6,.int .u32 n_7,.lst t_8 cs_9 len_10 1,.lst t_11 cs_12 len_13 1,.int .u64 n_14]=x_17.1∧qP c_16 x_17)∨∃x_17:List Ctl×List AV×List AV×List AV,bL2 x_17∧bAt b t ps∧[AV.int .u8 n_1,.int .u32 n_2,.int .u32
 n_3,.int .u32 n_4,.int .u32 n_5,.int .u32 n_6,.int .u32 n_7,.lst t_8 cs_9 len_10 1,.lst t_11 cs_12 len_13 1,.int .u64 n_14]=x_17.2.1∧pI c_16 x_17)∧sN b t ps Q)) else ∃p_1:Pc,Lf (bNa=bJq p_1∧okP p_1 ∧
 bNi)∧∀c_2:Ctl,Lf (aQ c_2=true∧Ctl.k c_2=2)→bif b then ∃p_3:Pc,Lf (bNa=bJq p_3∧okP p_3∧bP5)∧∀c_4:Ctl,Lf (aQ c_4=true∧Ctl.k c_4=1)→bNn b t ps c_4∧sN b t ps Q else bNn b t ps c_2 ∧
 sN b t ps Q)):=by kernel_rfl

theorem aIt:∀l:List Pc,(aY l).length=10*l.length
 | []=>rfl
 | r::l=>by
  have:=aIt l
  have e:aY (r::l)=pcC r++aY l:=rfl
  rw[e,List.length_append,this,List.length_cons]
  show 10+_=_
  omega
theorem aI2 {l:List Pc} {i j:Nat} (hi:i<l.length) (hj:j=10*i):∃r,l[i]? = some r∧(aY l |>.drop j).take 10=pcC r:=by
 subst hj
 induction l generalizing i with
 | nil=>simp at hi
 | cons r l ih=>
  have e:aY (r::l)=pcC r++aY l:=rfl
  cases i with
  | zero=>exact ⟨r,rfl,by rw[e];rfl⟩
  | succ i=>
   obtain ⟨q,h1,h2⟩:=ih (i:=i) (by simpa using hi)
   refine ⟨q,by simpa using h1, ?_⟩
   have e2:(pcC r++aY l).drop (10*(i+1))=(aY l).drop (10*i):=by
    rw[show 10*(i+1)=(pcC r).length+10*i by show _=10+_;omega,List.drop_append,List.drop_of_length_le (by omega),Nat.add_sub_cancel_left,List.nil_append]
   rw[e,e2];exact h2
theorem aA7 {l:List AV} {j n:Nat} {d:AV} (hn:0<n):((l.drop j).take n).getD 0 d=l.getD j d:=by
 simp[List.getD_eq_getElem?_getD,List.getElem?_take,hn]
theorem agP {cs:List AV} {p:Pc} (e:cs=pcC p) {K:Int→Int→Int→Int→Int→Int→Int→Nat→List AV→Nat→Nat→List AV→Nat→Int→Prop} (h:K p.k p.n0 p.n1 p.n2 p.n3 p.n4 p.n5 p.tr (bM p.rs) p.rs.length p.tl (bN p.ls) p.ls.length p.m) :
  ∃ (n0 n1 n2 n3 n4 n5 n6:Int) (t7:Nat) (c7:List AV) (l7:Nat) (t8:Nat) (c8:List AV) (l8:Nat) (n9:Int),AV.agg cs=AV.agg [.int .u8 n0,.int .u32 n1,.int .u32 n2,.int .u32 n3,.int .u32 n4,.int .u32 n5,.int .u32 n6,.lst t7 c7 l7 1,.lst t8 c8 l8 1,.int .u64 n9]∧K n0 n1 n2 n3 n4 n5 n6 t7 c7 l7 t8 c8 l8 n9:=
 ⟨_,_,_,_,_,_,_,_,_,_,_,_,_,_,by rw[e];rfl,h⟩
theorem bKv {H:List Blk} {id n m:Nat} {b:Blk} {l:List Ctl} (hb:H[id]? = some b) (hc:b.cs=aG l) (hk:b.k≠.ro) (hn:n=13*l.length) (hm:m=l.length):nlR [13] (dK 0 H 9 (.sl id n 0 m 13))=.lst 0 (aG l) l.length 13:=by
 subst hn hm
 have h:dK 0 H 9 (.sl id (13*l.length) 0 l.length 13)=.lst 0 (aG l) l.length 13:=by
  rw[dK]
  have c1:b.cs.length.beq (13*l.length)=true:=aVs (by rw[hc];exact bJ l)
  have c2:(0+l.length*13).ble (13*l.length)=true:=aXd (by omega)
  have c3:(b.k !=.ro)=true:=by simpa using hk
  simp only[hb,c1,c2,c3,Bool.and_self,cond_true]
  rw[hc,List.drop_zero,List.take_of_length_le (by rw[bJ];omega),iK]
 rw[h]
 rfl
theorem aJx {l:List Ctl} {c:Ctl} (h:okL l) (hc:aQ c=true):okL (l++[c]):=by
 obtain ⟨h1,h2⟩:=h
 refine ⟨?_, ?_⟩
 ·cases l with
  | nil=>cases h1
  | cons x l=>exact h1
 ·intro d hd
  rw[List.mem_append] at hd
  rcases hd with hd | hd
  ·exact h2 d hd
  ·simp only[List.mem_cons,List.not_mem_nil,or_false] at hd
   subst hd;exact hc
theorem aCv {c:Ctl} (h:aQ c=true) (hk:c.k=1∨c.k=2):okL [c]:=⟨decide_eq_true hk,by simpa using h⟩
def hq12 (Q:Out→List Blk→Gh→Prop):Prop:=∀l,okL l→1≤l.length→l.length≤4→∀v H,nlR [13] (dK 0 H 9 v)=.lst 0 (aG l) l.length 13→Q (.ret v) H {}
theorem bJz (b:Bool) (t:Nat) (ps:List Pc) (hps:∀p∈ps,okP p) (Q:Out→List Blk→Gh→Prop) (hq:hq12 Q):sN b t ps Q:=by
 unfold sN
 have hc:=aIt ps
 refine ⟨?_, ?_⟩
 ·rintro ⟨z,c⟩ ⟨hk⟩
  dsimp only at hk ⊢
  have ho:∀H:List Blk,H[2]? = some ⟨.exact,true,ctC c⟩→Q (.ret (.sl 2 13 0 1 13)) H {}:=fun H hH=>hq [c] hk (by simp) (by simp) _ _ (bKv hH (by simp[aG]) (by simp) (by simp) (by simp))
  refine ⟨_,rfl,_,rfl,aD (fun h1=>⟨_,rfl,aD (fun h2 => ?_) (fun h2=>by omega)⟩) (fun h1=>ho _ rfl)⟩
  have hlt:1<ps.length:=by omega
  obtain ⟨p,e1,e2⟩:=aI2 hlt (show (1:Int).toNat*10=10*1 by omega)
  have hp:=hps p (List.mem_of_getElem? e1)
  have e3:(aY ps).getD ((1:Int).toNat*10+0) AV.undef=.int .u8 p.k:=by
   rw[Nat.add_zero,←aA7 (n:=10) (by decide),e2];rfl
  have hk6:=hp.1
  refine ⟨_,rfl,ckI (by simp;omega) (ckI (by rw[Nat.ble_eq];omega) (agP e2 ⟨_,rfl,ckI (by simp;omega) (ckI (by rw[aL];omega) ⟨_,e3,_,rfl, ?_⟩)⟩))⟩
  try dsimp only
  rw[aBf hk6.1]
  refine aC (by omega) (by omega) (aC (by omega) (by omega) ⟨p,⟨rfl,hp,by omega,by omega⟩, ?_⟩)
  rintro c2 ⟨g1,g2⟩
  exact ⟨_,rfl,aC (by omega) (by omega) ⟨⟨trivial,rfl⟩,.inr ⟨([c,c2],z,ctC c,ctC c2),⟨by simp,by simp,aJx hk g1⟩,by simp,rfl,rfl,rfl,rfl,rfl,rfl,rfl,rfl,trivial⟩⟩⟩
 ·rintro ⟨l,z1,z2,z3⟩ ⟨k1,k2,hk⟩
  dsimp only at k1 k2 hk ⊢
  have hcl:=bJ l
  have ho:∀H:List Blk,H[4]? = some ⟨.grow,true,aG l⟩→Q (.ret (.sl 4 (13*l.length) 0 l.length 13)) H {}:=fun H hH=>hq l hk (by omega) k2 _ _ (bKv hH rfl (by simp) rfl rfl)
  refine ⟨_,rfl,_,rfl,aD (fun h1=>⟨_,rfl,aD (fun h2 => ?_) (fun h2=>ho _ rfl)⟩) (fun h1=>ho _ rfl)⟩
  have hlt:l.length<ps.length:=by omega
  obtain ⟨p,e1,e2⟩:=aI2 hlt (show (l.length:Int).toNat*10=10*l.length by omega)
  have hp:=hps p (List.mem_of_getElem? e1)
  have e3:(aY ps).getD ((l.length:Int).toNat*10+0) AV.undef=.int .u8 p.k:=by
   rw[Nat.add_zero,←aA7 (n:=10) (by decide),e2];rfl
  have hk6:=hp.1
  refine ⟨_,rfl,ckI (by simp;omega) (ckI (by rw[Nat.ble_eq];omega) (agP e2 ⟨_,rfl,ckI (by simp;omega) (ckI (by rw[aL];omega) ⟨_,e3,_,rfl, ?_⟩)⟩))⟩
  try dsimp only
  rw[aBf hk6.1]
  refine aC (by omega) (by omega) (aC (by omega) (by omega) ⟨p,⟨rfl,hp,by omega,by omega⟩, ?_⟩)
  rintro c2 ⟨g1,g2⟩
  exact ckI (by rw[hcl];simp;omega) ⟨_,rfl,aC (by omega) (by omega) ⟨⟨trivial,rfl⟩,.inr ⟨(l++[c2],z1,z2,z3),⟨by simp;omega,by simp;omega,aJx hk g1⟩,by simp;omega,rfl,rfl,rfl,rfl,(oP l c2).symm,rfl,by simp,by simp[Nat.mul_add],trivial⟩⟩⟩
def zP:Pc:=⟨0,0,0,0,0,0,0,0,[],0,[],0⟩
theorem bJ3:okP zP:=⟨by decide,by decide,by decide,by decide,by decide,by decide,by decide,by simp[zP],by simp[zP],by decide⟩
theorem aVa (b:Bool) (t:Nat) (ps:List Pc) (hps:∀p∈ps,okP p) (Q:Out→List Blk→Gh→Prop) (hq:hq12 Q):∃hv hb,aHa hv hb b t ps Q:=by
 obtain ⟨hv,hb',e⟩:∃hv hb,aHa hv hb b t ps Q=_:=⟨_,_,bO6 b t ps Q⟩
 refine ⟨hv,hb',e.mpr ?_⟩
 delta bJq bNi bP5 bAt bL2 bNa bOw bNn
 unfold qP pI
 clear e
 have hl:=bJz b t ps hps Q hq
 have hc:=aIt ps
 refine ⟨_,rfl,aD (fun h1 => ?_) (fun h1 => ?_)⟩
 ·have hlt:0<ps.length:=by omega
  obtain ⟨p,e1,e2⟩:=aI2 hlt (show 0=10*0 from rfl)
  have hp:=hps p (List.mem_of_getElem? e1)
  refine ckI (by simp;omega) (ckI (by rw[Nat.ble_eq];omega) (agP e2 ⟨p,⟨rfl,hp,by omega,by omega⟩, ?_⟩))
  rintro c ⟨g1,g2⟩
  refine splitB (fun _=>⟨p,⟨rfl,hp,by omega,by omega⟩, ?_⟩) (fun _ => ?_)
  ·rintro c2 ⟨g3,g4⟩
   exact ⟨.inl ⟨(_,c2),⟨aCv g3 (.inl g4)⟩,rfl,rfl,rfl,rfl,rfl,rfl,trivial⟩,hl⟩
  ·exact ⟨.inl ⟨(_,c),⟨aCv g1 (.inr g2)⟩,rfl,rfl,rfl,rfl,rfl,rfl,trivial⟩,hl⟩
 ·refine ⟨zP,⟨rfl,bJ3,by omega,by omega⟩, ?_⟩
  rintro c ⟨g1,g2⟩
  refine splitB (fun _=>⟨zP,⟨rfl,bJ3,by omega,by omega⟩, ?_⟩) (fun _ => ?_)
  ·rintro c2 ⟨g3,g4⟩
   exact ⟨.inl ⟨(_,c2),⟨aCv g3 (.inl g4)⟩,rfl,rfl,rfl,rfl,rfl,rfl,trivial⟩,hl⟩
  ·exact ⟨.inl ⟨(_,c),⟨aCv g1 (.inr g2)⟩,rfl,rfl,rfl,rfl,rfl,rfl,trivial⟩,hl⟩
def bEi:Con
 | [.agg [.bool b,.lst t cs n 10]],H,K=>∃ps:List Pc,Lf (cs=aY ps∧n=ps.length∧∀p∈ps,okP p)∧∀l:List Ctl,Lf (bP l=true∧(bX l).length≤1200)→K (.ret (.lst 0 (aG l) l.length 13)) H
 | _,_,_=>False
theorem bDh:aO Tryd.prog glC 12 bEi:=by
 refine fE (enters_of (by kernel_rfl)) aV 9 (nlR [13]) (vZ _) fun args H Q hc => ?_
 unfold bEi at hc
 split at hc
 ·rename_i b t cs n
  obtain ⟨ps,⟨rfl,rfl,h1⟩,hq⟩:=hc
  obtain ⟨hv,hb',h⟩:=aVa b t ps h1 (fun o H' _=>∃v,o=.ret v∧Q (.ret (nlR [13] (dK 0 H' 9 v))) H) (fun l hl k1 k2 v H' ho=>⟨v,rfl,by
   have hle:=aAw l hl.2
   have hck:bP l=true:=(gT l).2 ⟨⟨k1,by omega⟩,hl.1,hl.2⟩
   have:=hq l ⟨hck,by omega⟩
   rw[←ho] at this
   exact this⟩)
  exact ⟨rfl,rfl,_,1000,(aS bBq _ _ _:EnvFor Tryd.prog (aOv hv hb' ps)),rfl,h⟩
 ·exact hc.elim
end Go.Proofs.YtafchcmemeinlaaDoor

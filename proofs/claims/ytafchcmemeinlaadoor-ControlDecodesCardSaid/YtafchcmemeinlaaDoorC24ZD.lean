/-
  Chapter 24, the reference: a packet as octets.
-/
import Derived.Test.YtafchcmemeinlaaDoorCmI
import Derived.Test.YtafchcmemeinlaaDoorC24P
import Derived.Test.YtafchcmemeinlaaDoorC24QP
set_option linter.unusedSimpArgs false
set_option linter.unusedVariables false
set_option linter.unusedSectionVars false
namespace Go.Proofs.YtafchcmemeinlaaDoor
open Go.RowKit
set_option maxRecDepth 1000000

def bQs:SM:=gH [(53,aOc),(54,aYr),(21,aCl),(55,aQc)]
theorem bBw:∀f g,bQs f=some g→aO Tryd.prog glC f g:=bW _ (by simp only[List.mem_cons,List.not_mem_nil,or_false,forall_eq_or_imp,forall_eq];exact ⟨aSk,bDj,aUg,aTw⟩)
def bEg (c:Ctl) (s:S):List (List LInv):=[[
 { α:=Nat,pre:=fun i=>Lf (i≤(aM c.lo).length),st:=fun i=>⟨mkT [(3,.int .i64 1),(4,.int .i64 205),(5,.str (aJ 4 [c.f,c.a]++dE ((aM c.lo).take i))),(6,.lst 0 (aR (aM c.lo)) (aM c.lo).length 2),(7,.int .i64 (i:Nat))],s.hp⟩,mu:=fun i=>(aM c.lo).length-i }]]
def bA7 (c:Ctl) (s:S):List (List LInv):=[[
 { α:=Int×Int×List UInt8,pre:=fun x=>Lf (fJ x.1 x.2.1 (fZ x.2.2)=cZ c∧x.2.2.length≤456∧(0≤x.1∧x.1≤31)∧0≤x.2.1∧x.2.1≤255),st:=fun x=>⟨mkT [(3,.int .i64 x.1),(4,.int .i64 x.2.1),(5,.str x.2.2)],s.hp⟩,mu:=fun x=>(4-x.2.2.length%4)%4 }]]
noncomputable def aZe (hv:Nat→Option Pa) (hb:Nat→Option Bool) (c:Ctl):Env := { e24 bQs (fun i=>bif Nat.beq i 35001 then some (bEg c) else bif Nat.beq i 35003 then some (bA7 c) else none) hv hb with hz:=fun k=>[143424,143432,143463,143470,143476,143481].any (Nat.beq k) }
noncomputable def aG8 (hv:Nat→Option Pa) (hb:Nat→Option Bool) (c:Ctl) (Q:Out→List Blk→Gh→Prop):Prop:=
 bH (aZe hv hb c) (wpx (aZe hv hb c) 1000) 35 [.agg (ctC c)] [] {} Q
def wK (c:Ctl) (Q:Out→List Blk→Gh→Prop):Prop:=
∀x_0:Int×Int×List UInt8,Lf (fJ x_0.1 x_0.2.1 (fZ x_0.2.2)=cZ c∧x_0.2.2.length≤456∧(0≤x_0.1∧x_0.1≤31)∧0≤x_0.2.1∧x_0.2.1≤255)→exI .i64 (x_0.2.2.length:Int) fun n_1=>exI .i64 (n_1.tmod 4) fun n_2=>
 bif n_2 !=0 then ∃xs_3:List Int,Lf ([AV.int .i64 0]=aA xs_3∧1=xs_3.length∧xs_3.length≤1000∧((0:Int)≤(1:Int)∧(1:Int)≤(8:Int))∧∀x_4:Int,Membership.mem xs_3 x_4→0≤x_4∧x_4≤9223372036854775807) ∧
 exS (.str (aJ 1 xs_3)) fun s_4=>ckQ (decide (x_0.2.2.length+s_4.length≤9223372036854775807)&&true) (exS (.str (x_0.2.2++s_4)) fun s_5=>(True∧(0:Nat)=(0:Nat))∧∃y_6:Int×Int×List UInt8,Lf (fJ y_6.1 y_6.2.1
 (fZ y_6.2.2)=cZ c∧y_6.2.2.length≤456∧(0≤y_6.1∧y_6.1≤31)∧0≤y_6.2.1∧y_6.2.1≤255)∧(4-y_6.2.2.length%4)%4<(4-x_0.2.2.length%4)%4∧aK [AV.int .i64 c.1,.int .i64 c.2,.int .i64 c.3,.int .i64 c.4,
 .int .i64 c.5,.int .i64 c.6,.int .i64 c.7,.int .i64 c.8,.lst 0 (aF c.9) c.9.length 7,.lst 0 (aA c.10) c.10.length 1,.int .i64 c.11,.int .i64 c.12,.lst 0 (aA c.13) c.13.length 1]∧AV.int .i64 x_0.1=AV.int .i64 y_6.1
 ∧ AV.str s_5=AV.str y_6.2.2∧AV.int .i64 x_0.2.1=AV.int .i64 y_6.2.1∧True) else exW .i64 (128+x_0.1) fun n_3=>∃xs_4:List Int,Lf ([AV.int .i64 n_3,.int .i64 x_0.2.1]=aA xs_4∧2=xs_4.length∧xs_4.length≤1000∧((0
 : Int)≤(1:Int)∧(1:Int)≤(8:Int))∧∀x_5:Int,Membership.mem xs_4 x_5→0≤x_5∧x_5≤9223372036854775807)∧exS (.str (aJ 1 xs_4)) fun s_5=>exI .i64 (x_0.2.2.length:Int) fun n_6=>exW .i64 (n_6.tdiv 4) fun n_7=>∃
 xs_8:List Int,Lf ([AV.int .i64 n_7]=aA xs_8∧1=xs_8.length∧xs_8.length≤1000∧((0:Int)≤(2:Int)∧(2:Int)≤(8:Int))∧∀x_9:Int,Membership.mem xs_8 x_9→0≤x_9∧x_9≤9223372036854775807)∧exS (.str (aJ 2
 xs_8)) fun s_9=>ckQ (decide (s_5.length+s_9.length≤9223372036854775807)&&true) (exS (.str (s_5++s_9)) fun s_10=>ckQ (decide (s_10.length+x_0.2.2.length≤9223372036854775807)&&true) (exS (.str (s_10++x_0.2.2)) fun s_11=>
 Q (.ret (.str s_11)) [] {}))
abbrev aTq (n_2 n_3 n_4 n_5 n_6 n_7:Int):List AV:=[.int .i64 n_2,.int .i64 n_3,.int .i64 n_4,.int .i64 n_5,.int .i64 n_6,.int .i64 n_7]
abbrev bMe (xs_17:List Int):Prop:=∀x_18:Int,Membership.mem xs_17 x_18→0≤x_18∧x_18≤9223372036854775807
abbrev bJf (xs_8:List Int):Prop:=bMe xs_8
abbrev bG7 (xs_8:List Int):Prop:=xs_8.length≤1000∧((0:Int)≤(4:Int)∧(4:Int)≤(8:Int))∧bJf xs_8
abbrev aD2 (c:Ctl):AV:=.lst 0 (aF c.9) c.9.length 7
abbrev aZv (c:Ctl) (rs_10:List Rc):Prop:=Lf (aF c.9=aF rs_10∧c.9.length=rs_10.length∧rs_10.length≤1000∧List.all rs_10 fH=true)
abbrev aVf (s_9 s_11:List UInt8):Bool:=decide (s_9.length+s_11.length≤9223372036854775807)&&true
abbrev aL5 (x_13:Int×Int×List UInt8) (c:Ctl):Prop:=Lf (fJ x_13.1 x_13.2.1 (fZ x_13.2.2)=cZ c∧x_13.2.2.length≤456∧(0≤x_13.1∧x_13.1≤31)∧0≤x_13.2.1∧x_13.2.1≤255)
abbrev aF1 (c:Ctl):List AV:=[.int .i64 c.1,.int .i64 c.2,.int .i64 c.3,.int .i64 c.4,.int .i64 c.5,.int .i64 c.6,.int .i64 c.7,.int .i64 c.8,aD2 c,.lst 0 (aA c.10) c.10.length 1,.int .i64 c.11,.int .i64 c.12,.lst 0 (aA c.13) c.13.length 1]
abbrev bBe:Prop:=(0:Int)≤(1:Int)∧(1:Int)≤(8:Int)
abbrev bL1 (xs_16:List Int):Prop:=Lf ([AV.int .i64 0]=aA xs_16∧1=xs_16.length∧xs_16.length≤1000∧bBe∧bJf xs_16)
abbrev aG0:Prop:=True∧(0:Nat)=(0:Nat)
abbrev aGs (y_19:Int×Int×List UInt8):Nat:=(4-y_19.2.2.length%4)%4
abbrev bLn (x_13 y_19:Int×Int×List UInt8) (s_18:List UInt8):Prop:=AV.int .i64 x_13.1=AV.int .i64 y_19.1∧AV.str s_18=AV.str y_19.2.2∧AV.int .i64 x_13.2.1=AV.int .i64 y_19.2.1∧True
abbrev aVx:Prop:=(0:Int)≤(2:Int)∧(2:Int)≤(8:Int)
abbrev bMn (x_13:Int×Int×List UInt8) (Q:Out→List Blk→Gh→Prop):Prop:=exW .i64 (128+x_13.1) (fun n_16=>∃xs_17:List Int,Lf ([AV.int .i64 n_16,.int .i64 x_13.2.1]=aA xs_17∧2=xs_17.length∧xs_17.length≤1000∧bBe∧bMe xs_17)∧exS (.str (aJ 1 xs_17)) (fun s_18=>exI .i64 (x_13.2.2.length:Int) (fun n_19=>exW .i64 (n_19.tdiv 4) (fun n_20=>∃xs_21:List Int,Lf ([AV.int .i64 n_20]=aA xs_21∧1=xs_21.length∧xs_21.length≤1000∧aVx∧bMe xs_21)∧exS (.str (aJ 2 xs_21)) (fun s_22=>ckQ (aVf s_18 s_22) (exS (.str (s_18++s_22)) (fun s_23=>ckQ (decide (s_23.length+x_13.2.2.length≤9223372036854775807)&&true) (exS (.str (s_23++x_13.2.2)) (fun s_24=>Q (.ret (.str s_24)) [] {})))))))))
abbrev aV3 (n_1 n_2:Int) (xs_3:List Int):Prop:=Lf ([AV.int .i64 n_1,.int .i64 n_2]=aA xs_3∧2=xs_3.length∧bG7 xs_3)
abbrev aRk (c:Ctl) (x_6:Nat):List UInt8:=aJ 4 [c.2,c.3]++dE ((aM c.10).take x_6)
abbrev aHl (c:Ctl):List AV:=aR (aM c.10)
abbrev aFm (c:Ctl):Nat:=(aM c.10).length
abbrev bJe (c:Ctl):List AV:=[.int .i64 c.1,.int .i64 c.2,.int .i64 c.3,.int .i64 c.4,.int .i64 c.5,.int .i64 c.6,.int .i64 c.7,.int .i64 c.8,aD2 c,.lst 0 (aA c.10) c.10.length 1,.int .i64 c.11,.int .i64 c.12,.lst 0 (aA c.13) c.13.length 1]
theorem bNm (c:Ctl) (Q:Out→List Blk→Gh→Prop):aG8 (bG [(143369,.int .i64),(143388,.int .i64),(143390,.int .i64),(143392,.int .i64),(143394,.int .i64),(143396,.int .i64),(143398,.int .i64),(143400,.int
 .i64),(143402,.str),(143405,.str),(143406,.str),(143466,.int .i64),(143467,.int .i64),(143471,.str),(143472,.str),(143474,.int .i64),(143477,.str),(143479,.int .i64),(143480,.int .i64),(143482,.str),(143483,.str),
 (143485,.str),(143411,.int .i64),(143413,.int .i64),(143415,.str),(143418,.str),(143419,.str),(143423,.int .i64),(143425,.str),(143429,.int .i64),(143431,.int .i64),(143433,.str),(143437,.int .i64),(143439,.int
 .i64),(143443,.str),(143445,.int .i64),(143448,.int .i64),(143450,.int .i64),(143453,.int .i64),(143455,.str),(143456,.str),(143441,.int .i64),(143442,.int .i64),(143460,.int .i64),(143462,.int .i64),(143464,.str),
 (143371,.int .i64),(143373,.int .i64),(143377,.int .i64),(143375,.str),(143379,.str),(143380,.str),(143382,.str),(143383,.str)]) (bF []) c Q=(exI .i64 c.1 (fun n_0=>bif n_0==1 then exI .i64 (c.9.length:Int) (fun
 n_1=>exI .i64 c.2 (fun n_2=>exI .i64 c.4 (fun n_3=>exI .i64 c.5 (fun n_4=>exI .i64 c.6 (fun n_5=>exI .i64 c.7 (fun n_6=>exI .i64 c.8 (fun n_7=>∃xs_8:List Int,Lf (aTq n_2 n_3 n_4 n_5 n_6 n_7=aA xs_8∧6 =
 xs_8.length∧bG7 xs_8)∧ckQ (bK [aD2 c] [aD2 c]&&true) (exS (.str (aJ 4 xs_8)) (fun s_9=>∃rs_10:List Rc,aZv c rs_10∧exS (.str (bY rs_10)) (fun s_11=>ckQ (aVf s_9 s_11) (exS (.str (s_9++s_11)) (fun s_12=>(∃
 x_13:Int×Int×List UInt8,aL5 x_13 c∧aK (aF1 c)∧aK (aTq n_2 n_3 n_4 n_5 n_6 n_7)∧AV.int .i64 n_1=AV.int .i64 x_13.1∧AV.str s_12=AV.str x_13.2.2∧AV.int .i64 200=AV.int .i64 x_13.2.1∧True)∧∀x_13:Int×Int
 × List UInt8,aL5 x_13 c→exI .i64 (x_13.2.2.length:Int) (fun n_14=>exI .i64 (n_14.tmod 4) (fun n_15=>bif n_15 !=0 then ∃xs_16:List Int,bL1 xs_16∧exS (.str (aJ 1 xs_16)) (fun s_17=>ckQ (decide (x_13.2.2.length +
 s_17.length≤9223372036854775807)&&true) (exS (.str (x_13.2.2++s_17)) (fun s_18=>aG0∧∃y_19:Int×Int×List UInt8,aL5 y_19 c∧aGs y_19<aGs x_13∧aK (aF1 c)∧aK (aTq n_2 n_3 n_4 n_5 n_6 n_7)∧bLn x_13 y_19
 s_18))) else bMn x_13 Q)))))))))))))) else bif n_0==2 then exI .i64 (c.9.length:Int) (fun n_1=>exI .i64 c.2 (fun n_2=>∃xs_3:List Int,Lf ([AV.int .i64 n_2]=aA xs_3∧1=xs_3.length∧bG7 xs_3)∧ckQ (bK [aD2 c]
 [aD2 c]&&true) (exS (.str (aJ 4 xs_3)) (fun s_4=>∃rs_5:List Rc,aZv c rs_5∧exS (.str (bY rs_5)) (fun s_6=>ckQ (aVf s_4 s_6) (exS (.str (s_4++s_6)) (fun s_7=>(∃x_8:Int×Int×List UInt8,aL5 x_8 c∧aK (aF1
 c)∧aK [AV.int .i64 n_2]∧AV.int .i64 n_1=AV.int .i64 x_8.1∧AV.str s_7=AV.str x_8.2.2∧AV.int .i64 201=AV.int .i64 x_8.2.1∧True)∧∀x_8:Int×Int×List UInt8,aL5 x_8 c→exI .i64 (x_8.2.2.length:Int) (fun n_9=>exI
 .i64 (n_9.tmod 4) (fun n_10=>bif n_10 !=0 then ∃xs_11:List Int,bL1 xs_11∧exS (.str (aJ 1 xs_11)) (fun s_12=>ckQ (decide (x_8.2.2.length+s_12.length≤9223372036854775807)&&true) (exS (.str (x_8.2.2++s_12)) (fun s_13=>
 aG0∧∃y_14:Int×Int×List UInt8,aL5 y_14 c∧aGs y_14<aGs x_8∧aK (aF1 c)∧aK [AV.int .i64 n_2]∧bLn x_8 y_14 s_13))) else bMn x_8 Q))))))))) else bif n_0==3 then exI .i64 c.2 (fun n_1=>∃xs_2:List Int,Lf
 ([AV.int .i64 n_1]=aA xs_2∧1=xs_2.length∧bG7 xs_2)∧exS (.str (aJ 4 xs_2)) (fun s_3=>(∃x_4:Int×Int×List UInt8,aL5 x_4 c∧aK (aF1 c)∧AV.int .i64 1=AV.int .i64 x_4.1∧AV.str s_3=AV.str x_4.2.2∧AV.int
 .i64 203=AV.int .i64 x_4.2.1∧True)∧wK c Q)) else bif n_0==4 then exI .i64 c.2 (fun n_1=>exI .i64 c.3 (fun n_2=>∃xs_3:List Int,aV3 n_1 n_2 xs_3∧exS (.str (aJ 4 xs_3)) (fun s_4=>∃xs_5:List Int,Lf (aA c.10
 = aA xs_5∧c.10.length=xs_5.length∧bV xs_5=true)∧(∃x_6:Nat,Lf (x_6≤(aM (Ctl.lo c)).length)∧aK (aF1 c)∧aK (AV.int .i64 1)∧AV.int .i64 0=AV.int .i64 (x_6:Int)∧AV.str s_4=AV.str (aRk c x_6) ∧
 aK (AV.int .i64 205)∧AV.lst 0 (aR (aM xs_5)) (aM xs_5).length 2=AV.lst 0 (aHl c) (aFm c) 2∧True)∧∀x_6:Nat,Lf (x_6≤(aM (Ctl.lo c)).length)→exI .i64 (x_6:Int) (fun n_7=>exI .i64 (aFm c:Int) (fun
 n_8=>bif decide (n_7<n_8) then exS (.str (aRk c x_6)) (fun s_9=>exI .i64 (x_6:Int) (fun n_10=>ckQ (decide (0≤n_10)&&Nat.blt n_10.toNat (aFm c)&&true) (ckQ (Nat.blt (n_10.toNat*2+0) (aHl c).length) (exV .i64
 ((aHl c).getD (n_10.toNat*2+0) AV.undef) (fun n_11=>exI .i64 (x_6:Int) (fun n_12=>ckQ (decide (0≤n_12)&&Nat.blt n_12.toNat (aFm c)&&true) (ckQ (Nat.blt (n_12.toNat*2+1) (aHl c).length) (exV .i64 ((aHl c).getD
 (n_12.toNat*2+1) AV.undef) (fun n_13=>∃xs_14:List Int,Lf ([AV.int .i64 n_11,.int .i64 n_13]=aA xs_14∧2=xs_14.length∧xs_14.length≤1000∧aVx∧bJf xs_14)∧exS (.str (aJ 2 xs_14)) (fun s_15=>ckQ (aVf s_9
 s_15) (exS (.str (s_9++s_15)) (fun s_16=>exI .i64 (x_6:Int) (fun n_17=>exW .i64 (n_17+1) (fun n_18=>aG0∧∃y_19:Nat,Lf (y_19≤(aM (Ctl.lo c)).length)∧aFm c-y_19<aFm c-x_6∧aK (aF1 c)∧aK (AV.int
 .i64 1)∧AV.int .i64 n_18=AV.int .i64 (y_19:Int)∧AV.str s_16=AV.str (aRk c y_19)∧aK (AV.int .i64 205)∧aK (AV.lst 0 (aHl c) (aFm c) 2)∧True)))))))))))))) else (∃x_9:Int×Int×List UInt8,aL5 x_9 c∧aK (aF1
 c)∧AV.int .i64 1=AV.int .i64 x_9.1∧AV.str (aRk c x_6)=AV.str x_9.2.2∧AV.int .i64 205=AV.int .i64 x_9.2.1∧True)∧wK c Q))))) else bif n_0==5 then exI .i64 c.2 (fun n_1=>exI .i64 c.3 (fun n_2=>∃xs_3:List Int,
 aV3 n_1 n_2 xs_3∧exS (.str (aJ 4 xs_3)) (fun s_4=>(∃x_5:Int×Int×List UInt8,aL5 x_5 c∧aK (aF1 c)∧AV.int .i64 1=AV.int .i64 x_5.1∧AV.str s_4=AV.str x_5.2.2∧AV.int .i64 206=AV.int .i64 x_5.2.1∧True) ∧
 wK c Q))) else exI .i64 c.2 (fun n_1=>exI .i64 c.3 (fun n_2=>exI .i64 c.11 (fun n_3=>∃xs_4:List Int,aV3 n_1 n_2 xs_4∧ckQ (bK (bJe c) (bJe c)&&true) (ckQ (bK [.int .i64 n_3] [.int .i64 n_3]) (ckQ (bK [.int
 .i64 c.11] [.int .i64 c.11]&&true) (exS (.str (aJ 4 xs_4)) (fun s_5=>∃xs_6:List Int,Lf ([AV.int .i64 n_3]=aA xs_6∧1=xs_6.length∧xs_6.length≤1000∧aVx∧bJf xs_6)∧ckQ (bK (bJe c) (bJe c)&&true) (exS
 (.str (aJ 2 xs_6)) (fun s_7=>ckQ (aVf s_5 s_7) (exS (.str (s_5++s_7)) (fun s_8=>∃c_9:Ctl,Lf (aF1 c=aF1 c_9∧(1≤(Ctl.ti c_9).length∧(Ctl.ti c_9).length≤64)∧(aZ (Ctl.ti c_9)).2.2=true∧0≤Ctl.ro c_9 ∧
 Ctl.ro c_9<256)∧exS (.str (pJ c_9.13 c_9.12)) (fun s_10=>ckQ (aVf s_8 s_10) (exS (.str (s_8++s_10)) (fun s_11=>(∃x_12:Int×Int×List UInt8,aL5 x_12 c∧aK (aF1 c)∧aK [AV.int .i64 n_1,.int .i64 n_2]∧aK
 [AV.int .i64 n_3]∧AV.int .i64 15=AV.int .i64 x_12.1∧AV.str s_11=AV.str x_12.2.2∧AV.int .i64 205=AV.int .i64 x_12.2.1∧True)∧∀x_12:Int×Int×List UInt8,aL5 x_12 c→exI .i64 (x_12.2.2.length:Int) (fun n_13=>exI
 .i64 (n_13.tmod 4) (fun n_14=>bif n_14 !=0 then ∃xs_15:List Int,bL1 xs_15∧exS (.str (aJ 1 xs_15)) (fun s_16=>ckQ (decide (x_12.2.2.length+s_16.length≤9223372036854775807)&&true) (exS (.str (x_12.2.2++s_16)) (fun s_17
 => aG0∧∃y_18:Int×Int×List UInt8,aL5 y_18 c∧aGs y_18<aGs x_12∧aK (aF1 c)∧aK [AV.int .i64 n_1,.int .i64 n_2]∧aK [AV.int .i64 n_3]∧bLn x_12 y_18 s_17))) else bMn x_12 Q)))))))))))))))))):=by kernel_rfl

theorem aBs {b:List UInt8} (h:b.length%4=0):fZ b=b:=by
 unfold fZ;rw[h];simp
theorem aC5 {b:List UInt8} (h:b.length%4≠0):fZ (b++aJ 1 [0])=fZ b:=by
 have hl:(b++aJ 1 [0]).length=b.length+1:=by simp[aH]
 have e:aJ 1 [0]=[(0:UInt8)]:=by decide
 unfold fZ
 rw[hl,e,List.append_assoc,show (4-b.length%4)%4=(4-(b.length+1)%4)%4+1 by omega,List.replicate_succ]
 rfl
theorem uU (k:Nat) (x:Int) (l:List Int):aJ k (x::l)=aJ k [x]++aJ k l:=by simp[aJ]
theorem bEa (a b:List (Int×Int)):dE (a++b)=dE a++dE b:=by simp[dE]
theorem aE0 {rs:List Rc} (h:dL rs=true):rs.all fH=true:=by
 unfold dL at h
 rw[Bool.and_eq_true] at h
 exact h.2
theorem aMw {ps:List (Int×Int)} {i:Nat} (h:i<ps.length):ps.getD i (0,0)∈ps∧dE (ps.take (i+1))=dE (ps.take i)++aJ 2 [(ps.getD i (0,0)).1,(ps.getD i (0,0)).2]:=by
 rw[List.getD_eq_getElem?_getD,List.getElem?_eq_getElem h]
 refine ⟨List.getElem_mem _, ?_⟩
 have e:ps.take (i+1)=ps.take i++[ps[i]]:=by rw[List.take_add_one,List.getElem?_eq_getElem h];rfl
 rw[e,bEa]
 simp[dE]
theorem bP9 {ps:List (Int×Int)} {i j:Nat} (hi:i<ps.length) (hj:j=2*i+1) {K:Int→Prop} (hk:K (bMj ps i)):∃n:Int,(aR ps).getD j AV.undef=AV.int .i64 n∧K n:=by
 refine ⟨_, ?_,hk⟩
 rw[hj,List.getD_eq_getElem?_getD,(nM ps i hi).2]
 rfl
theorem bAz (c:Ctl) (hva:aQ c=true) (Q:Out→List Blk→Gh→Prop) (hq:Q (.ret (.str (cZ c))) [] {}):∃hv hb,aG8 hv hb c Q:=by
 obtain ⟨hv,hb',e⟩:∃hv hb,aG8 hv hb c Q=_:=⟨_,_,bNm c Q⟩
 refine ⟨hv,hb',e.mpr ?_⟩
 delta aTq bMe bJf bG7 aD2 aZv aVf aL5 aF1 bBe bL1 aG0 aGs bLn aVx bMn aV3 aRk aHl aFm bJe
 clear e
 have hbl:=aCe hva
 have hwd:wK c Q:=by
  unfold wK
  rintro ⟨n,k,b⟩ ⟨g1,g2,g3,g4⟩
  dsimp only at g1 g2 g3 g4 ⊢
  refine ⟨_,rfl,_,rfl,cB (fun h => ?_) (fun h => ?_)⟩
  ·have h4:b.length%4≠0:=fun h0=>h (by rw[Int.tmod_eq_emod_of_nonneg (by omega)];omega)
   refine ⟨[0],⟨rfl,rfl,by simp,by omega,by simp⟩,_,rfl,ckI (by simp[aH];omega) ⟨_,rfl,⟨trivial,rfl⟩,(n,k,b++aJ 1 [0]),⟨by dsimp only;rw[aC5 h4];exact g1,by simp[aH];omega,g3,g4⟩,by simp[aH];omega, ?_⟩⟩
   repeat (first | exact trivial | refine ⟨rfl, ?_⟩)
  ·have h4:b.length%4=0:=by rw[Int.tmod_eq_emod_of_nonneg (by omega)] at h;omega
   have ht:((b.length:Nat):Int).tdiv 4=((b.length/4:Nat):Int):=by rw[Int.tdiv_eq_ediv_of_nonneg (by omega)];omega
   refine aC (by omega) (by omega) ⟨[128+n,k],⟨rfl,rfl,by simp,by omega,by simp only[List.mem_cons,List.not_mem_nil,or_false,forall_eq_or_imp,forall_eq];omega⟩,_,rfl,_,rfl,aC (by rw[ht];omega) (by rw[ht];omega) ⟨[((b.length:Nat):Int).tdiv 4],⟨rfl,rfl,by simp,by omega,by simp only[List.mem_singleton,forall_eq];rw[ht];omega⟩,_,rfl,ckI (by simp[aH]) ⟨_,rfl,ckI (by simp[aH];omega) ⟨_,rfl, ?_⟩⟩⟩⟩
   rw[aBs h4] at g1
   rw[←g1] at hq
   rw[ht]
   exact hq
 have v2:=(dN c).1 hva
 rcases eO hva with ⟨f,s1,s2,s3,s4,s5,rs,rfl,hrs⟩ | ⟨f,rs,rfl,hrs⟩ | ⟨f,rfl⟩ | ⟨f,a,lo,rfl,hlo⟩ | ⟨f,a,rfl⟩ | ⟨f,a,ba,ro,ti,rfl,hti⟩
 ·dsimp only at v2 hbl ⊢
  obtain ⟨_,hf,ha,hs1,hs2,hs3,hs4,hs5,hba,hro,_,_,_,_,_,_,h8,_⟩:=v2
  have hR:dG ⟨1,f,0,s1,s2,s3,s4,s5,rs,[],0,0,[]⟩=aJ 4 [f,s1,s2,s3,s4,s5]++bY rs:=by
   rw[uU];simp[dG,dE,aM]
  rw[hR] at hbl
  refine ⟨_,rfl,aP (fun _ => ?_) (fun h=>absurd rfl h)⟩
  refine ⟨_,rfl,_,rfl,_,rfl,_,rfl,_,rfl,_,rfl,_,rfl,[f,s1,s2,s3,s4,s5],⟨rfl,rfl,by simp,by omega,by simp only[List.mem_cons,List.not_mem_nil,or_false,forall_eq_or_imp,forall_eq];omega⟩,ckF ⟨_,rfl,rs,⟨rfl,rfl,by omega,aE0 h8⟩,_,rfl,ckI (by simp[aH,vE];omega) ⟨_,rfl,⟨((rs.length:Nat),200,_),⟨by dsimp only;rw[cZ,hR];rfl,by dsimp only;omega,by dsimp only;omega,by dsimp only;omega⟩,rfl,rfl,rfl,rfl,rfl,trivial⟩, ?_⟩⟩⟩
  rintro ⟨n,k,b⟩ ⟨g1,g2,g3,g4⟩
  dsimp only at g1 g2 g3 g4 ⊢
  refine ⟨_,rfl,_,rfl,cB (fun h => ?_) (fun h => ?_)⟩
  ·have h4:b.length%4≠0:=fun h0=>h (by rw[Int.tmod_eq_emod_of_nonneg (by omega)];omega)
   refine ⟨[0],⟨rfl,rfl,by simp,by omega,by simp⟩,_,rfl,ckI (by simp[aH];omega) ⟨_,rfl,⟨trivial,rfl⟩,(n,k,b++aJ 1 [0]),⟨by dsimp only;rw[aC5 h4];exact g1,by simp[aH];omega,g3,g4⟩,by simp[aH];omega, ?_⟩⟩
   repeat (first | exact trivial | refine ⟨rfl, ?_⟩)
  ·have h4:b.length%4=0:=by rw[Int.tmod_eq_emod_of_nonneg (by omega)] at h;omega
   have ht:((b.length:Nat):Int).tdiv 4=((b.length/4:Nat):Int):=by rw[Int.tdiv_eq_ediv_of_nonneg (by omega)];omega
   refine aC (by omega) (by omega) ⟨[128+n,k],⟨rfl,rfl,by simp,by omega,by simp only[List.mem_cons,List.not_mem_nil,or_false,forall_eq_or_imp,forall_eq];omega⟩,_,rfl,_,rfl,aC (by rw[ht];omega) (by rw[ht];omega) ⟨[((b.length:Nat):Int).tdiv 4],⟨rfl,rfl,by simp,by omega,by simp only[List.mem_singleton,forall_eq];rw[ht];omega⟩,_,rfl,ckI (by simp[aH]) ⟨_,rfl,ckI (by simp[aH];omega) ⟨_,rfl, ?_⟩⟩⟩⟩
   rw[aBs h4] at g1
   rw[←g1] at hq
   rw[ht]
   exact hq
 ·dsimp only at v2 hbl ⊢
  obtain ⟨_,hf,ha,hs1,hs2,hs3,hs4,hs5,hba,hro,_,_,_,_,_,_,h8,_⟩:=v2
  have hR:dG ⟨2,f,0,0,0,0,0,0,rs,[],0,0,[]⟩=aJ 4 [f]++bY rs:=by
   simp[dG,dE,aM]
  rw[hR] at hbl
  refine ⟨_,rfl,aP (fun h=>absurd h (by omega)) (fun _=>aP (fun _ => ?_) (fun h=>absurd rfl h))⟩
  refine ⟨_,rfl,_,rfl,[f],⟨rfl,rfl,by simp,by omega,by simp only[List.mem_singleton,forall_eq];omega⟩,ckF ⟨_,rfl,rs,⟨rfl,rfl,by omega,aE0 h8⟩,_,rfl,ckI (by simp[aH,vE];omega) ⟨_,rfl,⟨((rs.length:Nat),201,_),⟨by dsimp only;rw[cZ,hR];rfl,by dsimp only;omega,by dsimp only;omega,by dsimp only;omega⟩,rfl,rfl,rfl,rfl,rfl,trivial⟩, ?_⟩⟩⟩
  rintro ⟨n,k,b⟩ ⟨g1,g2,g3,g4⟩
  dsimp only at g1 g2 g3 g4 ⊢
  refine ⟨_,rfl,_,rfl,cB (fun h => ?_) (fun h => ?_)⟩
  ·have h4:b.length%4≠0:=fun h0=>h (by rw[Int.tmod_eq_emod_of_nonneg (by omega)];omega)
   refine ⟨[0],⟨rfl,rfl,by simp,by omega,by simp⟩,_,rfl,ckI (by simp[aH];omega) ⟨_,rfl,⟨trivial,rfl⟩,(n,k,b++aJ 1 [0]),⟨by dsimp only;rw[aC5 h4];exact g1,by simp[aH];omega,g3,g4⟩,by simp[aH];omega, ?_⟩⟩
   repeat (first | exact trivial | refine ⟨rfl, ?_⟩)
  ·have h4:b.length%4=0:=by rw[Int.tmod_eq_emod_of_nonneg (by omega)] at h;omega
   have ht:((b.length:Nat):Int).tdiv 4=((b.length/4:Nat):Int):=by rw[Int.tdiv_eq_ediv_of_nonneg (by omega)];omega
   refine aC (by omega) (by omega) ⟨[128+n,k],⟨rfl,rfl,by simp,by omega,by simp only[List.mem_cons,List.not_mem_nil,or_false,forall_eq_or_imp,forall_eq];omega⟩,_,rfl,_,rfl,aC (by rw[ht];omega) (by rw[ht];omega) ⟨[((b.length:Nat):Int).tdiv 4],⟨rfl,rfl,by simp,by omega,by simp only[List.mem_singleton,forall_eq];rw[ht];omega⟩,_,rfl,ckI (by simp[aH]) ⟨_,rfl,ckI (by simp[aH];omega) ⟨_,rfl, ?_⟩⟩⟩⟩
   rw[aBs h4] at g1
   rw[←g1] at hq
   rw[ht]
   exact hq
 ·dsimp only at v2 hbl ⊢
  obtain ⟨_,hf,_⟩:=v2
  have hR:dG ⟨3,f,0,0,0,0,0,0,[],[],0,0,[]⟩=aJ 4 [f]:=by
   simp[dG,dE,aM,bY]
  rw[hR] at hbl
  refine ⟨_,rfl,aP (fun h=>absurd h (by omega)) (fun _=>aP (fun h=>absurd h (by omega)) (fun _=>aP (fun _ => ?_) (fun h=>absurd rfl h)))⟩
  exact ⟨_,rfl,[f],⟨rfl,rfl,by simp,by omega,by simp only[List.mem_singleton,forall_eq];omega⟩,_,rfl,⟨(1,203,aJ 4 [f]),⟨by dsimp only;rw[cZ,hR];rfl,by dsimp only;omega,by dsimp only;omega,by dsimp only;omega⟩,rfl,rfl,rfl,rfl,trivial⟩,hwd⟩
 ·dsimp only at v2 hbl ⊢
  obtain ⟨_,hf,ha,_⟩:=v2
  have hR:dG ⟨4,f,a,0,0,0,0,0,[],lo,0,0,[]⟩=aJ 4 [f,a]++dE (aM lo):=by
   rw[uU];simp[dG,bY]
  rw[hR] at hbl
  refine ⟨_,rfl,aP (fun h=>absurd h (by omega)) (fun _=>aP (fun h=>absurd h (by omega)) (fun _=>aP (fun h=>absurd h (by omega)) (fun _=>aP (fun _ => ?_) (fun h=>absurd rfl h))))⟩
  refine ⟨_,rfl,_,rfl,[f,a],⟨rfl,rfl,by simp,by omega,by simp only[List.mem_cons,List.not_mem_nil,or_false,forall_eq_or_imp,forall_eq];omega⟩,_,rfl,lo,⟨rfl,rfl,hlo⟩,⟨0,⟨Nat.zero_le _⟩,rfl,rfl,rfl,by simp[dE],rfl,rfl,trivial⟩, ?_⟩
  have hbd:=aKz hlo
  have hpl:=aCp (aM lo)
  have hcl:=dA (aM lo)
  have h24:(aJ 4 [f,a]).length=8:=by simp[aH]
  rw[List.length_append] at hbl
  rintro i ⟨hi⟩
  have hpi:=aCp ((aM lo).take i)
  rw[List.length_take] at hpi
  refine ⟨_,rfl,_,rfl,aD (fun hlt => ?_) (fun hge => ?_)⟩
  ·have hg:=aMw (show i<(aM lo).length by omega)
   have hb1:=hbd _ hg.1
   have hF:bLh (aM lo) i=((aM lo).getD i (0,0)).1:=rfl
   have hS:bMj (aM lo) i=((aM lo).getD i (0,0)).2:=rfl
   rw[←hF,←hS] at hb1
   refine ⟨_,rfl,_,rfl,ckI (by simp;omega) (ckI (by simp;omega) (bNj (i:=i) (by omega) (by omega) ⟨_,rfl,ckI (by simp;omega) (ckI (by simp;omega) (bP9 (i:=i) (by omega) (by omega) ⟨[_,_],⟨rfl,rfl,by simp,by omega,by simp only[List.mem_cons,List.not_mem_nil,or_false,forall_eq_or_imp,forall_eq];omega⟩,_,rfl,ckI (by simp[aH];omega) ⟨_,rfl,_,rfl,aC (by omega) (by omega) ⟨⟨trivial,rfl⟩,i+1,⟨by omega⟩,by omega,rfl,rfl,rfl, ?_,rfl,rfl,trivial⟩⟩⟩))⟩))⟩
   rw[hg.2,List.append_assoc];rfl
  ·rw[List.take_of_length_le (by omega)]
   exact ⟨⟨(1,205,aJ 4 [f,a]++dE (aM lo)),⟨by dsimp only;rw[cZ,hR];rfl,by rw[List.length_append];omega,by dsimp only;omega,by dsimp only;omega⟩,rfl,rfl,rfl,rfl,trivial⟩,hwd⟩
 ·dsimp only at v2 hbl ⊢
  obtain ⟨_,hf,ha,_⟩:=v2
  have hR:dG ⟨5,f,a,0,0,0,0,0,[],[],0,0,[]⟩=aJ 4 [f,a]:=by
   rw[uU];simp[dG,dE,aM,bY]
  rw[hR] at hbl
  refine ⟨_,rfl,aP (fun h=>absurd h (by omega)) (fun _=>aP (fun h=>absurd h (by omega)) (fun _=>aP (fun h=>absurd h (by omega)) (fun _=>aP (fun h=>absurd h (by omega)) (fun _=>aP (fun _ => ?_) (fun h=>absurd rfl h)))))⟩
  exact ⟨_,rfl,_,rfl,[f,a],⟨rfl,rfl,by simp,by omega,by simp only[List.mem_cons,List.not_mem_nil,or_false,forall_eq_or_imp,forall_eq];omega⟩,_,rfl,⟨(1,206,aJ 4 [f,a]),⟨by dsimp only;rw[cZ,hR];rfl,by dsimp only;omega,by dsimp only;omega,by dsimp only;omega⟩,rfl,rfl,rfl,rfl,trivial⟩,hwd⟩
 ·dsimp only at v2 hbl ⊢
  obtain ⟨_,hf,ha,hs1,hs2,hs3,hs4,hs5,hba,hro,_⟩:=v2
  have hR:dG ⟨6,f,a,0,0,0,0,0,[],[],ba,ro,ti⟩=aJ 4 [f,a]++aJ 2 [ba]++pJ ti ro:=by
   rw[uU];simp[dG,bY,dE,aM]
  rw[hR] at hbl
  refine ⟨_,rfl,aP (fun h=>absurd h (by omega)) (fun _=>aP (fun h=>absurd h (by omega)) (fun _=>aP (fun h=>absurd h (by omega)) (fun _=>aP (fun h=>absurd h (by omega)) (fun _=>aP (fun h=>absurd h (by omega)) (fun _ => ?_)))))⟩
  refine ⟨_,rfl,_,rfl,_,rfl,[f,a],⟨rfl,rfl,by simp,by omega,by simp only[List.mem_cons,List.not_mem_nil,or_false,forall_eq_or_imp,forall_eq];omega⟩, ?_⟩
  obtain ⟨ref,l,hst1,hn1,hn2⟩:=fI hti
  have hbl2:=hbl
  rw[List.length_append,List.length_append,aH,aH] at hbl2
  repeat (first | refine ckE ?_ | refine ckF ?_)
  refine ⟨_,rfl,[ba],⟨rfl,rfl,by simp,by omega,by simp only[List.mem_singleton,forall_eq];omega⟩,ckF ⟨_,rfl,ckI (by simp[aH]) ⟨_,rfl,⟨6,f,a,0,0,0,0,0,[],[],ba,ro,ti⟩,⟨rfl,⟨hn1,hn2⟩,hti,hro.1,by dsimp only;omega⟩,_,rfl,ckI (by simp[aH] at hbl2 ⊢;omega) ⟨_,rfl,⟨(15,205,aJ 4 [f,a]++aJ 2 [ba]++pJ ti ro),⟨by dsimp only;rw[cZ,hR];rfl,by dsimp only;omega,by dsimp only;omega,by dsimp only;omega⟩,rfl,rfl,rfl,rfl,rfl,rfl,trivial⟩, ?_⟩⟩⟩⟩
  rintro ⟨n,k,b⟩ ⟨g1,g2,g3,g4⟩
  dsimp only at g1 g2 g3 g4 ⊢
  refine ⟨_,rfl,_,rfl,cB (fun h => ?_) (fun h => ?_)⟩
  ·have h4:b.length%4≠0:=fun h0=>h (by rw[Int.tmod_eq_emod_of_nonneg (by omega)];omega)
   refine ⟨[0],⟨rfl,rfl,by simp,by omega,by simp⟩,_,rfl,ckI (by simp[aH];omega) ⟨_,rfl,⟨trivial,rfl⟩,(n,k,b++aJ 1 [0]),⟨by dsimp only;rw[aC5 h4];exact g1,by simp[aH];omega,g3,g4⟩,by simp[aH];omega, ?_⟩⟩
   repeat (first | exact trivial | refine ⟨rfl, ?_⟩)
  ·have h4:b.length%4=0:=by rw[Int.tmod_eq_emod_of_nonneg (by omega)] at h;omega
   have ht:((b.length:Nat):Int).tdiv 4=((b.length/4:Nat):Int):=by rw[Int.tdiv_eq_ediv_of_nonneg (by omega)];omega
   refine aC (by omega) (by omega) ⟨[128+n,k],⟨rfl,rfl,by simp,by omega,by simp only[List.mem_cons,List.not_mem_nil,or_false,forall_eq_or_imp,forall_eq];omega⟩,_,rfl,_,rfl,aC (by rw[ht];omega) (by rw[ht];omega) ⟨[((b.length:Nat):Int).tdiv 4],⟨rfl,rfl,by simp,by omega,by simp only[List.mem_singleton,forall_eq];rw[ht];omega⟩,_,rfl,ckI (by simp[aH]) ⟨_,rfl,ckI (by simp[aH];omega) ⟨_,rfl, ?_⟩⟩⟩⟩
   rw[aBs h4] at g1
   rw[←g1] at hq
   rw[ht]
   exact hq
def bN8:Con
 | [.agg cs],H,K=>∃c:Ctl,Lf (cs=ctC c∧aQ c=true)∧K (.ret (.str (cZ c))) H
 | _,_,_=>False
theorem bKm:aO Tryd.prog glC 35 bN8:=by
 refine bE (enters_of (by kernel_rfl)) aV fun args H Q hc => ?_
 unfold bN8 at hc
 split at hc
 ·rename_i cs
  obtain ⟨c,⟨rfl,hv⟩,hq⟩:=hc
  obtain ⟨hv,hb',h⟩:=bAz c hv (fun o H' _=>H'=[]∧(∃v,o=.ret v∧old 0 v=true∧noY v=true)∧Q o H) ⟨rfl,⟨_,rfl,rfl,rfl⟩,hq⟩
  exact ⟨rfl,rfl,_,1000,⟨dX,eB,eF,bBw⟩,rfl,h⟩
 ·exact hc.elim
def bQw:SM:=gH [(35,bN8)]
theorem aZo:∀f g,bQw f=some g→aO Tryd.prog glC f g:=bW _ (by simp only[List.mem_cons,List.not_mem_nil,or_false,forall_eq];exact bKm)
def bK2 (t:Nat) (l:List Ctl):LInv where
 α:=Nat
 pre i:=Lf (i≤l.length)
 st i:=⟨mkT [(0,.lst t (aG l) l.length 13),(3,.str (bX (l.take i))),(4,.int .i64 (i:Nat))],[]⟩
 mu i:=l.length-i
noncomputable def aYc (hv:Nat→Option Pa) (hb:Nat→Option Bool) (t:Nat) (l:List Ctl):Env:=e24 bQw (fun i=>bif Nat.beq i 11000 then some (fun _=>[[bK2 t l]]) else none) hv hb
noncomputable def aIg (hv:Nat→Option Pa) (hb:Nat→Option Bool) (t:Nat) (l:List Ctl) (Q:Out→List Blk→Gh→Prop):Prop:=
 bH (aYc hv hb t l) (wpx (aYc hv hb t l) 1000) 11 [.lst t (aG l) l.length 13] [] {} Q
theorem bN5 (t:Nat) (l:List Ctl) (Q:Out→List Blk→Gh→Prop):aIg (bG [(45061,.int .i64),(45063,.int .i64),(45067,.str),(45069,.int .i64),(45072,.str),(45073,.str),(45065,.int .i64),(45066,.int .i64),(45074,.str)]) (bF []) t l Q=((∃x_0:Nat,Lf (x_0≤l.length)∧aK (AV.lst t (aG l) l.length 13)∧AV.str []=AV.str (bX (l.take x_0))∧AV.int .i64 0=AV.int .i64 (x_0:Int)∧True)∧∀x_0:Nat,Lf (x_0≤l.length)→exI .i64 (x_0:Int) (fun n_1=>exI .i64 (l.length:Int) (fun n_2=>bif decide (n_1<n_2) then exS (.str (bX (l.take x_0))) (fun s_3=>exI .i64 (x_0:Int) (fun n_4=>ckQ (decide (0≤n_4)&&Nat.blt n_4.toNat l.length&&true) (ckQ (Nat.ble (n_4.toNat*13+13) (aG l).length) (∃c_5:Ctl,Lf (((aG l).drop (n_4.toNat*13)).take 13=aF1 c_5∧aQ c_5=true)∧exS (.str (cZ c_5)) (fun s_6=>ckQ (aVf s_3 s_6) (exS (.str (s_3++s_6)) (fun s_7=>exI .i64 (x_0:Int) (fun n_8=>exW .i64 (n_8+1) (fun n_9=>aG0∧∃y_10:Nat,Lf (y_10≤l.length)∧l.length-y_10<l.length-x_0∧aK (AV.lst t (aG l) l.length 13)∧AV.str s_7=AV.str (bX (l.take y_10))∧AV.int .i64 n_9=AV.int .i64 (y_10:Int)∧True))))))))) else exS (.str (bX (l.take x_0))) (fun s_3=>Q (.ret (.str s_3)) [] {})))):=by kernel_rfl

theorem aUz (t:Nat) (l:List Ctl) (hl:l.length≤1000) (hva:∀c∈l,aQ c=true) (Q:Out→List Blk→Gh→Prop) (hq:Q (.ret (.str (bX l))) [] {}):∃hv hb,aIg hv hb t l Q:=by
 obtain ⟨hv,hb',e⟩:∃hv hb,aIg hv hb t l Q=_:=⟨_,_,bN5 t l Q⟩
 refine ⟨hv,hb',e.mpr ?_⟩
 delta aD2 aF1 aVf aG0
 clear e
 refine ⟨⟨0,⟨Nat.zero_le _⟩,rfl,rfl,rfl,trivial⟩, ?_⟩
 rintro i ⟨hi⟩
 have hle:=aI6 (l.take i) fun d hd=>hva d (List.mem_of_mem_take hd)
 rw[List.length_take] at hle
 refine ⟨_,rfl,_,rfl,aD (fun hlt => ?_) (fun hge => ?_)⟩
 ·obtain ⟨c,hr,hcc⟩:=iJ (l:=l) (i:=i) (by omega) (Nat.mul_comm 13 i▸rfl:i*13=13*i)
  have hc:=hva c (List.mem_of_getElem? hr)
  have hl8:=vU hc
  refine ⟨_,rfl,_,rfl, ?_⟩
  try dsimp only
  rw[Int.toNat_natCast,hcc]
  refine ckI (by simp;omega) (ckI (by simp[bJ];omega) ⟨c,⟨rfl,hc⟩,_,rfl,ckI (by simp;omega) ⟨_,rfl,_,rfl,aC (by omega) (by omega) ⟨⟨trivial,rfl⟩,i+1,⟨by omega⟩,by omega,rfl, ?_,rfl,trivial⟩⟩⟩)
  rw[yT hr]
 ·rw[List.take_of_length_le (by omega)]
  exact ⟨_,rfl,hq⟩
def aTu:Con
 | [.lst _ cs n 13],H,K=>∃l:List Ctl,Lf (cs=aG l∧n=l.length∧l.length≤1000∧∀c∈l,aQ c=true)∧K (.ret (.str (bX l))) H
 | _,_,_=>False
theorem aTz:aO Tryd.prog glC 11 aTu:=by
 refine bE (enters_of (by kernel_rfl)) aV fun args H Q hc => ?_
 unfold aTu at hc
 split at hc
 ·rename_i t cs n
  obtain ⟨l,⟨rfl,rfl,hl,hv⟩,hq⟩:=hc
  obtain ⟨hv,hb',h⟩:=aUz t l hl hv (fun o H' _=>H'=[]∧(∃v,o=.ret v∧old 0 v=true∧noY v=true)∧Q o H) ⟨rfl,⟨_,rfl,rfl,rfl⟩,hq⟩
  exact ⟨rfl,rfl,_,1000,aS aZo _ _ _,rfl,h⟩
 ·exact hc.elim
def aSg:Con:=fun args H Q=>uC [13] H args fun a=>aTu a H Q
theorem aQe:aO Tryd.prog glC 11 aSg:=dW aTz aV [13] fun args H Q hc=>by
 unfold aTu at hc
 split at hc
 ·obtain ⟨l,h,hq⟩:=hc
  exact ⟨l,h,rfl,⟨_,rfl,rfl⟩,hq⟩
 ·exact hc.elim
end Go.Proofs.YtafchcmemeinlaaDoor

/-
  Chapter 17: RecordOnce, the run.
-/
import Derived.Test.YtiholnebhmjbjaaM17W1
set_option linter.unusedSimpArgs false
set_option linter.unusedVariables false
set_option linter.unusedSectionVars false
namespace Go.Proofs.Ytiholnebhmjbjaa
open Go.RowKit
set_option maxRecDepth 1000000

def setM:List Int→List AV
 | []=>[]
 | q::l=>.int .i64 q::.bool true::setM l
def c8M (xs:List Int):List AV:=xs.map (AV.int .i8)
def wOk (t:Int) (k:Nat) (l:List Int):Prop:=okWM t k=true∧k<18446744073709551616∧(∀q∈l,0≤q∧q≤t)∧∀p:Int,0≤p→t-64<p→isFreshM t k p = !decide (p∈l)
abbrev X6:=Nat×Int×Int×Nat×List Int
def inv_6a (s:S):List (List LInv):=[[
 { α:=X6,pre:=fun x=>Lf (x.1≤30∧(0≤x.2.1∧x.2.1≤300+100*x.1)∧(-1≤x.2.2.1∧x.2.2.1≤300+100*x.1)∧wOk x.2.2.1 x.2.2.2.1 x.2.2.2.2),
   st:=fun x=>⟨mkT [(2,s.tm.get 2),(7,.ptr 0 2 0),(8,.mp 1),(9,.int .i64 x.2.1),(10,.int .i64 x.2.2.1),(31,s.tm.get 31),(32,s.tm.get 32),(33,.int .i64 (x.1:Nat))],
    [⟨.exact,true,[.int .i64 x.2.2.1,.int .u64 (x.2.2.2.1:Nat)]⟩,⟨.ro,true,[.tup (setM x.2.2.2.2)]⟩]⟩,mu:=fun x=>31-x.1 }]]
def inv_6b (s:S):List (List LInv):=match s.hp,s.tm.get 10 with
 | [⟨_,_,[_,.int _ k]⟩,⟨_,_,[.tup c]⟩],.int _ t=>[[
  { α:=Nat,pre:=fun i=>Lf (i≤10),
    st:=fun i=>⟨mkT [(7,.ptr 0 2 0),(8,.mp 1),(10,.int .i64 t),(96,s.tm.get 96),(97,s.tm.get 97),(98,.int .i64 (i:Nat))],
     [⟨.exact,true,[.int .i64 t,.int .u64 k]⟩,⟨.ro,true,[.tup c]⟩]⟩,mu:=fun i=>11-i }]]
 | _,_=>[]
def smK6:SM:=lookS [(10,cTrue),(20,cFresh),(22,cMark)]
theorem smK6_ok:∀f g,smK6 f=some g→ValidF Try.prog gl0 f g:=lookS_ok _ (by simp only[List.mem_cons,List.not_mem_nil,or_false,forall_eq_or_imp,forall_eq];exact ⟨wakes_ok,fresh_ok,mark_ok⟩)
noncomputable def env_6 (hv:Nat→Option Pa) (hb:Nat→Option Bool):Env:=e04 smK6 (fun i=>bif Nat.beq i 6000 then some inv_6a else bif Nat.beq i 6002 then some inv_6b else none) hv hb
noncomputable def goal_6 (hv:Nat→Option Pa) (hb:Nat→Option Bool) (st:Int) (s:List UInt8) (n:List Int) (Q:Out→List Blk→Gh→Prop):Prop:=
 callx (env_6 hv hb) (wpx (env_6 hv hb) 1000) 6 [.int .u16 st,.lst 0 (ofBytes s) s.length 1,.lst 0 (c8M n) n.length 1] [] {} Q
theorem vc_6 (st:Int) (s:List UInt8) (n:List Int) (Q:Out→List Blk→Gh→Prop):goal_6 (lookV [(24601,.int .u16),(24602,.int .i64),(24605,.int .i64),(24606,.int .i64),(24608,.int .i64),(24612,.int .u8),(24613,.agg
 [(.int .i64),(.int .u64)]),(24618,.bool),(24626,.agg [(.int .i64),(.int .u64)]),(24629,.agg [(.int .i64),(.int .u64)]),(24662,.int .u8),(24663,.int .i64),(24664,.int .i64),(24665,.int .i64),(24666,.int .i64),(24667,
 .int .i64),(24622,.int .i64),(24655,.int .i64),(24670,.int .i64),(24671,.int .i64),(24673,.int .i64),(24677,.int .i8),(24680,.int .i64),(24681,.int .i64),(24682,.int .i64),(24683,.agg [(.int .i64),(.int .u64)]),
 (24689,.bool),(24694,.int .i64),(24698,.int .i64)]) (lookB []) st s n Q=(exI .u16 (st.tmod 300) fun n_0=>exW .i64 n_0 fun n_1=>exI .i64 (s.length:Int) fun n_2=>exI .i64 (imin n_2 30) fun n_3=>ckQ (decide (0≤n_3)&&true
 && Nat.ble n_3.toNat s.length&&true) (exI .i64 ((n_3.toNat-0:Nat):Int) fun n_4=>(∃x_5:Nat×Int×Int×Nat×List Int,Lf (x_5.1≤30∧(0≤x_5.2.1∧x_5.2.1≤300+100*(x_5.1:Int))∧(-1≤x_5.2.2.1∧x_5.2.2.1≤300 +
 100*(x_5.1:Int))∧wOk x_5.2.2.1 x_5.2.2.2.1 x_5.2.2.2.2)∧[AV.int .i64 (-1),.int .u64 0]=[AV.int .i64 x_5.2.2.1,.int .u64 (x_5.2.2.2.1:Int)]∧[AV.tup []]=[AV.tup (setM x_5.2.2.2.2)]∧eqqQ (AV.ptr 0 2 0)∧eqqQ (AV.lst 0
 (((ofBytes s).drop 0).take ((n_3.toNat-0)*1)) (n_3.toNat-0) 1)∧AV.int .i64 n_1=AV.int .i64 x_5.2.1∧AV.int .i64 0=AV.int .i64 (x_5.1:Int)∧eqqQ (AV.lst 0 (c8M n) n.length 1)∧AV.mp 1=AV.mp 1∧eqqQ (AV.int .i64 n_4) ∧
 AV.int .i64 (-1)=AV.int .i64 x_5.2.2.1∧True)∧∀x_5:Nat×Int×Int×Nat×List Int,Lf (x_5.1≤30∧(0≤x_5.2.1∧x_5.2.1≤300+100*(x_5.1:Int))∧(-1≤x_5.2.2.1∧x_5.2.2.1≤300+100*(x_5.1:Int))∧wOk x_5.2.2.1
 x_5.2.2.2.1 x_5.2.2.2.2)→bif decide ((x_5.1:Int)<n_4) then ckQ (Nat.blt (x_5.1:Int).toNat (n_3.toNat-0)&&true) (ckQ (Nat.blt ((x_5.1:Int).toNat*1) (((ofBytes s).drop 0).take ((n_3.toNat-0)*1)).length) (exV .u8
 ((((ofBytes s).drop 0).take ((n_3.toNat-0)*1)).getD ((x_5.1:Int).toNat*1) AV.undef) fun n_6=>∃n_7 n_8,AV.agg [.int .i64 x_5.2.2.1,.int .u64 (x_5.2.2.2.1:Int)]=AV.agg [.int .i64 n_7,.int .u64 n_8]∧∃k_9:Nat,Lf (n_8 =
 (k_9:Int)∧k_9<18446744073709551616∧(-9223372036854775808≤n_7∧n_7≤9223372036854775807) ∧ -9223372036854775808≤x_5.2.1∧x_5.2.1≤9223372036854775807)∧∀e_10:Int,Lf (e_10=freshWM n_7 k_9 x_5.2.1)→ckQ (Option.isSome
 (mpFind (Option.some IntKind.i64) (.int .i64 x_5.2.1) (.bool false) (setM x_5.2.2.2.2))) (exB (Option.getD (mpFind (Option.some IntKind.i64) (.int .i64 x_5.2.1) (.bool false) (setM x_5.2.2.2.2)) .undef) fun b_11=>bif b_11 then ∃n_12
 n_13,AV.agg [.int .i64 x_5.2.2.1,.int .u64 (x_5.2.2.2.1:Int)]=AV.agg [.int .i64 n_12,.int .u64 n_13]∧∃k_14:Nat,Lf (n_13=(k_14:Int)∧k_14<18446744073709551616∧(-9223372036854775808≤n_12∧n_12≤9223372036854775807)
 ∧ -9223372036854775808≤x_5.2.1∧x_5.2.1≤9223372036854775807)∧∀a_15:Int,∀b_16:Nat,∀e_17:Int,Lf (markRM n_12 k_14 x_5.2.1=Prod.mk (Prod.mk a_15 b_16) e_17)→∃n_18 n_19,AV.agg [.int .i64 a_15,.int .u64 (b_16:Int)] =
 AV.agg [.int .i64 n_18,.int .u64 n_19]∧bif e_10 !=e_17 then Q (.ret (.bool false)) [] {} else bif e_10==10 then bif x_5.2.2.1 !=x_5.2.2.1 then Q (.ret (.bool false)) [] {} else exI .u8 (n_6.tmod 90) fun n_20=>exW .i64 n_20 fun
 n_21=>exW .i64 (x_5.2.1+n_21) fun n_22=>exW .i64 (n_22-20) fun n_23=>exI .i64 (imax 0 n_23) fun n_24=>exW .i64 ((x_5.1:Int)+1) fun n_25=>(True∧(0:Nat)=(0:Nat))∧∃y_26:Nat×Int×Int×Nat×List Int,Lf
 (y_26.1≤30∧(0≤y_26.2.1∧y_26.2.1≤300+100*(y_26.1:Int))∧(-1≤y_26.2.2.1∧y_26.2.2.1≤300+100*(y_26.1:Int))∧wOk y_26.2.2.1 y_26.2.2.2.1 y_26.2.2.2.2)∧31-y_26.1<31-x_5.1∧[AV.int .i64 x_5.2.2.1,.int .u64
 (x_5.2.2.2.1:Int)]=[AV.int .i64 y_26.2.2.1,.int .u64 (y_26.2.2.2.1:Int)]∧[AV.tup (setM x_5.2.2.2.2)]=[AV.tup (setM y_26.2.2.2.2)]∧eqqQ (AV.ptr 0 2 0)∧eqqQ (AV.lst 0 (((ofBytes s).drop 0).take ((n_3.toNat-0)*1))
 (n_3.toNat-0) 1)∧AV.int .i64 n_24=AV.int .i64 y_26.2.1∧AV.int .i64 n_25=AV.int .i64 (y_26.1:Int)∧eqqQ (AV.lst 0 (c8M n) n.length 1)∧AV.mp 1=AV.mp 1∧eqqQ (AV.int .i64 n_4)∧AV.int .i64 x_5.2.2.1=AV.int .i64 y_26.2.2.1
 ∧ True else Q (.ret (.bool false)) [] {} else exW .i64 (x_5.2.2.1-64) fun n_12=>bif decide (x_5.2.1≤n_12) then ∃n_13 n_14,AV.agg [.int .i64 x_5.2.2.1,.int .u64 (x_5.2.2.2.1:Int)]=AV.agg [.int .i64 n_13,.int .u64 n_14]∧∃
 k_15:Nat,Lf (n_14=(k_15:Int)∧k_15<18446744073709551616∧(-9223372036854775808≤n_13∧n_13≤9223372036854775807) ∧ -9223372036854775808≤x_5.2.1∧x_5.2.1≤9223372036854775807)∧∀a_16:Int,∀b_17:Nat,∀e_18:Int,Lf
 (markRM n_13 k_15 x_5.2.1=Prod.mk (Prod.mk a_16 b_17) e_18)→∃n_19 n_20,AV.agg [.int .i64 a_16,.int .u64 (b_17:Int)]=AV.agg [.int .i64 n_19,.int .u64 n_20]∧bif e_10 !=e_18 then Q (.ret (.bool false)) [] {} else bif e_10==10
 then bif x_5.2.2.1 !=x_5.2.2.1 then Q (.ret (.bool false)) [] {} else exI .u8 (n_6.tmod 90) fun n_21=>exW .i64 n_21 fun n_22=>exW .i64 (x_5.2.1+n_22) fun n_23=>exW .i64 (n_23-20) fun n_24=>exI .i64 (imax 0 n_24) fun n_25=>
 exW .i64 ((x_5.1:Int)+1) fun n_26=>(True∧(0:Nat)=(0:Nat))∧∃y_27:Nat×Int×Int×Nat×List Int,Lf (y_27.1≤30∧(0≤y_27.2.1∧y_27.2.1≤300+100*(y_27.1:Int))∧(-1≤y_27.2.2.1∧y_27.2.2.1≤300+100 *
 (y_27.1:Int))∧wOk y_27.2.2.1 y_27.2.2.2.1 y_27.2.2.2.2)∧31-y_27.1<31-x_5.1∧[AV.int .i64 x_5.2.2.1,.int .u64 (x_5.2.2.2.1:Int)]=[AV.int .i64 y_27.2.2.1,.int .u64 (y_27.2.2.2.1:Int)]∧[AV.tup (setM x_5.2.2.2.2)] =
 [AV.tup (setM y_27.2.2.2.2)]∧eqqQ (AV.ptr 0 2 0)∧eqqQ (AV.lst 0 (((ofBytes s).drop 0).take ((n_3.toNat-0)*1)) (n_3.toNat-0) 1)∧AV.int .i64 n_25=AV.int .i64 y_27.2.1∧AV.int .i64 n_26=AV.int .i64 (y_27.1:Int)∧eqqQ
 (AV.lst 0 (c8M n) n.length 1)∧AV.mp 1=AV.mp 1∧eqqQ (AV.int .i64 n_4)∧AV.int .i64 x_5.2.2.1=AV.int .i64 y_27.2.2.1∧True else Q (.ret (.bool false)) [] {} else ∃n_13 n_14,AV.agg [.int .i64 x_5.2.2.1,.int .u64 (x_5.2.2.2.1 :
 Int)]=AV.agg [.int .i64 n_13,.int .u64 n_14]∧∃k_15:Nat,Lf (n_14=(k_15:Int)∧k_15<18446744073709551616∧(-9223372036854775808≤n_13∧n_13≤9223372036854775807) ∧ -9223372036854775808≤x_5.2.1∧x_5.2.1 ≤
 9223372036854775807)∧∀a_16:Int,∀b_17:Nat,∀e_18:Int,Lf (markRM n_13 k_15 x_5.2.1=Prod.mk (Prod.mk a_16 b_17) e_18)→∃n_19 n_20,AV.agg [.int .i64 a_16,.int .u64 (b_17:Int)]=AV.agg [.int .i64 n_19,.int .u64 n_20] ∧
 bif e_10 !=e_18 then Q (.ret (.bool false)) [] {} else bif e_10==10 then Q (.ret (.bool false)) [] {} else bif e_10 !=0 then Q (.ret (.bool false)) [] {} else exI .i64 (imax x_5.2.2.1 x_5.2.1) fun n_21=>ckQ (Option.isSome (mpPut
 (Option.some IntKind.i64) (.int .i64 x_5.2.1) (.bool true) (setM x_5.2.2.2.2))) (bif n_19 !=n_21 then Q (.ret (.bool false)) [] {} else exI .u8 (n_6.tmod 90) fun n_22=>exW .i64 n_22 fun n_23=>exW .i64 (x_5.2.1+n_23) fun n_24=>exW
 .i64 (n_24-20) fun n_25=>exI .i64 (imax 0 n_25) fun n_26=>exW .i64 ((x_5.1:Int)+1) fun n_27=>(True∧(0:Nat)=(0:Nat))∧∃y_28:Nat×Int×Int×Nat×List Int,Lf (y_28.1≤30∧(0≤y_28.2.1∧y_28.2.1≤300+100 *
 (y_28.1:Int))∧(-1≤y_28.2.2.1∧y_28.2.2.1≤300+100*(y_28.1:Int))∧wOk y_28.2.2.1 y_28.2.2.2.1 y_28.2.2.2.2)∧31-y_28.1<31-x_5.1∧[AV.int .i64 n_19,.int .u64 n_20]=[AV.int .i64 y_28.2.2.1,.int .u64 (y_28.2.2.2.1 :
 Int)]∧[AV.tup (Option.getD (mpPut (Option.some IntKind.i64) (.int .i64 x_5.2.1) (.bool true) (setM x_5.2.2.2.2)) [])]=[AV.tup (setM y_28.2.2.2.2)]∧eqqQ (AV.ptr 0 2 0)∧eqqQ (AV.lst 0 (((ofBytes s).drop 0).take ((n_3.toNat-0)*1))
 (n_3.toNat-0) 1)∧AV.int .i64 n_26=AV.int .i64 y_28.2.1∧AV.int .i64 n_27=AV.int .i64 (y_28.1:Int)∧eqqQ (AV.lst 0 (c8M n) n.length 1)∧AV.mp 1=AV.mp 1∧eqqQ (AV.int .i64 n_4)∧AV.int .i64 n_21=AV.int .i64 y_28.2.2.1 ∧
 True)))) else exI .i64 (n.length:Int) fun n_6=>exI .i64 (imin n_6 10) fun n_7=>ckQ (decide (0≤n_7)&&true&&Nat.ble n_7.toNat n.length&&true) (exI .i64 ((n_7.toNat-0:Nat):Int) fun n_8=>(∃x_9:Nat,Lf (x_9≤10)∧eqqQ
 [AV.int .i64 x_5.2.2.1,.int .u64 (x_5.2.2.2.1:Int)]∧eqqQ [AV.tup (setM x_5.2.2.2.2)]∧eqqQ (AV.ptr 0 2 0)∧eqqQ (AV.int .i64 n_8)∧AV.mp 1=AV.mp 1∧eqqQ (AV.lst 0 (((c8M n).drop 0).take ((n_7.toNat-0)*1)) (n_7.toNat-0) 1)
 ∧ eqqQ (AV.int .i64 x_5.2.2.1)∧AV.int .i64 0=AV.int .i64 (x_9:Int)∧True)∧∀x_9:Nat,Lf (x_9≤10)→bif decide ((x_9:Int)<n_8) then ckQ (Nat.blt (x_9:Int).toNat (n_7.toNat-0)&&true) (ckQ (Nat.blt ((x_9:Int).toNat *
 1) (((c8M n).drop 0).take ((n_7.toNat-0)*1)).length) (exV .i8 ((((c8M n).drop 0).take ((n_7.toNat-0)*1)).getD ((x_9:Int).toNat*1) AV.undef) fun n_10=>exW .i64 n_10 fun n_11=>exW .i64 (x_5.2.2.1+n_11) fun n_12=>exI .i64
 (imax 0 n_12) fun n_13=>∃n_14 n_15,AV.agg [.int .i64 x_5.2.2.1,.int .u64 (x_5.2.2.2.1:Int)]=AV.agg [.int .i64 n_14,.int .u64 n_15]∧ckQ (Option.isSome (mpFind (Option.some IntKind.i64) (.int .i64 n_13) (.bool false) (setM
 x_5.2.2.2.2))) (exB (Option.getD (mpFind (Option.some IntKind.i64) (.int .i64 n_13) (.bool false) (setM x_5.2.2.2.2)) .undef) fun b_16=>bif !b_16 then ∃k_17:Nat,Lf (n_15=(k_17:Int)∧k_17<18446744073709551616 ∧
 (-9223372036854775808≤n_14∧n_14≤9223372036854775807) ∧ -9223372036854775808≤n_13∧n_13≤9223372036854775807)∧∀e_18:Int,Lf (e_18=freshWM n_14 k_17 n_13)→ckQ (eqAVL [.tup (setM x_5.2.2.2.2)] [.tup (setM x_5.2.2.2.2)] &&
 true) (bif e_18==0 then exW .i64 (x_5.2.2.1-64) fun n_19=>bif decide (n_13>n_19) then exW .i64 ((x_9:Int)+1) fun n_20=>(True∧(0:Nat)=(0:Nat))∧∃y_21:Nat,Lf (y_21≤10)∧11-y_21<11-x_9∧eqqQ [AV.int .i64
 x_5.2.2.1,.int .u64 (x_5.2.2.2.1:Int)]∧eqqQ [AV.tup (setM x_5.2.2.2.2)]∧eqqQ (AV.ptr 0 2 0)∧eqqQ (AV.int .i64 n_8)∧AV.mp 1=AV.mp 1∧eqqQ (AV.lst 0 (((c8M n).drop 0).take ((n_7.toNat-0)*1)) (n_7.toNat-0) 1)∧eqqQ
 (AV.int .i64 x_5.2.2.1)∧AV.int .i64 n_20=AV.int .i64 (y_21:Int)∧True else Q (.ret (.bool false)) [] {} else exW .i64 (x_5.2.2.1-64) fun n_19=>bif decide (n_13>n_19) then Q (.ret (.bool false)) [] {} else exW .i64 ((x_9:Int)
 + 1) fun n_20=>(True∧(0:Nat)=(0:Nat))∧∃y_21:Nat,Lf (y_21≤10)∧11-y_21<11-x_9∧eqqQ [AV.int .i64 x_5.2.2.1,.int .u64 (x_5.2.2.2.1:Int)]∧eqqQ [AV.tup (setM x_5.2.2.2.2)]∧eqqQ (AV.ptr 0 2 0)∧eqqQ (AV.int
 .i64 n_8)∧AV.mp 1=AV.mp 1∧eqqQ (AV.lst 0 (((c8M n).drop 0).take ((n_7.toNat-0)*1)) (n_7.toNat-0) 1)∧eqqQ (AV.int .i64 x_5.2.2.1)∧AV.int .i64 n_20=AV.int .i64 (y_21:Int)∧True) else ∃k_17:Nat,Lf (n_15=(k_17:Int)
 ∧ k_17<18446744073709551616∧(-9223372036854775808≤n_14∧n_14≤9223372036854775807) ∧ -9223372036854775808≤n_13∧n_13≤9223372036854775807)∧∀e_18:Int,Lf (e_18=freshWM n_14 k_17 n_13)→ckQ (eqAVL [.tup (setM
 x_5.2.2.2.2)] [.tup (setM x_5.2.2.2.2)]&&true) (bif e_18==0 then Q (.ret (.bool false)) [] {} else exW .i64 ((x_9:Int)+1) fun n_19=>(True∧(0:Nat)=(0:Nat))∧∃y_20:Nat,Lf (y_20≤10)∧11-y_20<11-x_9∧eqqQ
 [AV.int .i64 x_5.2.2.1,.int .u64 (x_5.2.2.2.1:Int)]∧eqqQ [AV.tup (setM x_5.2.2.2.2)]∧eqqQ (AV.ptr 0 2 0)∧eqqQ (AV.int .i64 n_8)∧AV.mp 1=AV.mp 1∧eqqQ (AV.lst 0 (((c8M n).drop 0).take ((n_7.toNat-0)*1)) (n_7.toNat-0) 1)
 ∧ eqqQ (AV.int .i64 x_5.2.2.1)∧AV.int .i64 n_19=AV.int .i64 (y_20:Int)∧True)))) else Q (.ret (.bool true)) [] {}))):=by kernel_rfl

theorem setM_find (q:Int):∀l,mpFind (some .i64) (.int .i64 q) (.bool false) (setM l)=some (.bool (decide (q∈l)))
 | []=>by simp[setM,mpFind]
 | p::l=>by
  have h:sameK (some .i64) (.int .i64 q) (.int .i64 p)=some (decide (q=p)):=by simp[sameK]
  rw[setM,mpFind,h]
  by_cases e:q=p
  ·simp[e]
  ·rw[decide_eq_false e]
   dsimp only
   rw[setM_find q l]
   simp[e]
theorem setM_put {q:Int}:∀ {l},q∉l→mpPut (some .i64) (.int .i64 q) (.bool true) (setM l)=some (setM (l++[q]))
 | [],_=>by simp[setM,mpPut]
 | p::l,h=>by
  have hq:¬ q=p:=fun e=>h (by simp[e])
  have hs:sameK (some .i64) (.int .i64 q) (.int .i64 p)=some false:=by simp[sameK,hq]
  rw[setM,mpPut,hs]
  dsimp only
  rw[setM_put (l:=l) fun g=>h (by simp[g])]
  rfl
theorem wOk0:wOk (-1) 0 []:=⟨by decide,by decide,by simp,fun p h0 _=>by
 unfold isFreshM
 rw[decide_eq_true (by omega:(-1:Int)<p)]
 simp⟩
theorem wOk_fresh {t:Int} {k:Nat} {l:List Int} (h:wOk t k l) {q:Int} (h0:0≤q) (h1:q<281474976710656):freshWM t k q=if q∈l∨q≤t-64 then 10 else 0:=by
 obtain ⟨g1,g2,g3,g4⟩:=h
 have hf:=fresh_eq g1 ⟨h0,h1⟩
 by_cases hq:q≤t-64
 ·rw[if_pos (.inr hq)]
  unfold freshWM
  rw[if_neg (by simp[g1]),if_neg (by omega),if_pos ⟨by omega,.inl hq⟩]
 ·have h4:=g4 q h0 (by omega)
  by_cases hm:q∈l
  ·rw[if_pos (.inl hm)]
   have hn:freshWM t k q≠0:=fun e=>by rw[hf,h4] at e;simp[hm] at e
   unfold freshWM at hn ⊢
   rw[if_neg (by simp[g1]),if_neg (by omega)] at hn ⊢
   split
   ·rfl
   ·rename_i hc
    rw[if_neg hc] at hn
    exact absurd rfl hn
  ·rw[if_neg (by simp[hm,hq])]
   exact hf.2 (by rw[h4];simp[hm])
theorem wOk_mark {t:Int} {k:Nat} {l:List Int} (h:wOk t k l) {q:Int} (h0:0≤q) (h1:q<281474976710656) (hn:¬ (q∈l∨q≤t-64)):markRM t k q=(markWM t k q,0)∧(markWM t k q).1=imax t q∧wOk (imax t q) (markWM t k q).2 (l++[q]):=by
 have hf:=wOk_fresh h h0 h1
 rw[if_neg hn] at hf
 obtain ⟨g1,g2,g3,g4⟩:=h
 have e0:(markWM t k q).1=if q≤t then t else q:=by rw[markWM];split<;>rfl
 have e1:(markWM t k q).1=imax t q:=by rw[e0,imax];split<;>split<;>omega
 refine ⟨by rw[markRM,if_neg (by simp[hf])],e1, ?_⟩
 have hi:t≤imax t q∧q≤imax t q:=by unfold imax;split<;>omega
 refine ⟨?_,mark_lt g2 hf,fun p hp => ?_,fun p hp0 hp1 => ?_⟩
 ·have:=mark_okW g2 hf
  rwa [e1] at this
 ·rcases List.mem_append.1 hp with hp | hp
  ·have:=g3 p hp;omega
  ·obtain rfl:p=q:=by simpa using hp
   omega
 ·have:=mark_fresh g2 hf hp0 (by omega:t-64<p) (by omega:q-64<p)
  rw[e1] at this
  rw[this,g4 p hp0 (by omega)]
  simp
theorem ckNot6 {b:Bool} {A B:Prop} (h:b=true) (k:B):(bif !b then A else B):=by rw[h];exact k
theorem ckNot6f {b:Bool} {A B:Prop} (h:b=false) (k:A):(bif !b then A else B):=by rw[h];exact k
theorem getO6 {s:List UInt8} {j m:Nat} (hj:j<s.length) (hm:m=j) {K:Int→Prop} (hk:∀c:Nat,c≤255→K (c:Int)):∃n:Int,List.getD (ofBytes s) m AV.undef=AV.int .u8 n∧K n:=by
 subst hm
 have:=(s.getD m 0).toNat_lt
 refine ⟨_, ?_,hk (s.getD m 0).toNat (by omega)⟩
 simp[ofBytes,List.getD,hj]
theorem getC8 {y:List Int} {j m:Nat} (hj:j<y.length) (hm:m=j) {K:Int→Prop} (hk:∀c:Int,c∈y→K c):∃n:Int,List.getD (c8M y) m AV.undef=AV.int .i8 n∧K n:=by
 subst hm
 refine ⟨y[m], ?_,hk _ (List.getElem_mem hj)⟩
 simp[c8M,List.getD,hj]
theorem setM_eq (l:List Int):(eqAVL [AV.tup (setM l)] [AV.tup (setM l)]&&true)=true:=by
 have h:∀l,eqAVL (setM l) (setM l)=true:=fun l=>by
  induction l with
  | nil=>rfl
  | cons q l ih=>simp[setM,eqAVL,eqAV,ih]
 simp[eqAVL,eqAV,h]
theorem once6_run (st:Int) (s:List UInt8) (n:List Int) (hst:0≤st∧st≤65535) (hs:s.length≤9223372036854775807) (hn:∀x∈n, -128≤x∧x≤127) (Q:Out→List Blk→Gh→Prop) (hq:Q (.ret (.bool true)) [] {}):∃hv hb,goal_6 hv hb st s n Q:=by
 obtain ⟨hv,hb',e'⟩:∃hv hb,goal_6 hv hb st s n Q=_:=⟨_,_,vc_6 st s n Q⟩
 refine ⟨hv,hb',e'.mpr ?_⟩
 clear e'
 have hm:Int.tmod st 300=st%300:=Int.tmod_eq_emod_of_nonneg hst.1
 refine ⟨_,rfl, ?_⟩
 rw[hm]
 refine wrapI (by omega) (by omega) ⟨_,rfl,iminI (b:=30) rfl (ckI (by simp;omega) ⟨_,rfl,⟨⟨(0,st%300, -1,0,[]),⟨by dsimp only;omega,by dsimp only;omega,by dsimp only;omega,wOk0⟩,rfl,rfl,rfl,rfl,rfl,rfl,rfl,rfl,rfl,rfl,trivial⟩, ?_⟩⟩)⟩
 rintro ⟨i,p,t,k,l⟩ ⟨h1,h2,h3,h4⟩
 dsimp only at h1 h2 h3 h4 ⊢
 have hbl:(ofBytes s).length=s.length:=by simp[ofBytes]
 refine splitD (fun h5 => ?_) (fun _ => ?_)
 ·refine ckI (by simp;omega) (ckI (by simp[hbl];omega) ?_)
  obtain ⟨y,hy⟩:∃y:List UInt8,List.take (((((min s.length 30:Nat):Int)).toNat-0)*1) (List.drop 0 (ofBytes s))=ofBytes y:=⟨(s.drop 0).take ((((min s.length 30:Nat):Int).toNat-0)*1),by simp only[ofBytes,List.map_take,List.map_drop]⟩
  rw[hy]
  have hyl:y.length=min s.length 30:=by
   have:=congrArg List.length hy
   rw[List.length_take,List.length_drop,hbl] at this
   simp[ofBytes] at this
   omega
  refine getO6 (j:=i) (by omega) (by simp) (fun c hc => ?_)
  have ht90:Int.tmod ((c:Nat):Int) 90=((c%90:Nat):Int):=rfl
  have hc90:c%90<90:=Nat.mod_lt _ (by omega)
  have hx:0≤imax 0 (p+((c%90:Nat):Int)-20)∧imax 0 (p+((c%90:Nat):Int)-20)≤300+100*((i+1:Nat):Int):=by unfold imax;split<;>omega
  have hf:=wOk_fresh h4 h2.1 (by omega:p<281474976710656)
  have hk:=h4.2.1
  refine aggW2 ⟨k,⟨rfl,hk,by omega,by omega⟩, ?_⟩
  rintro e ⟨rfl⟩
  rw[setM_find,Option.getD_some]
  refine ckI rfl ⟨_,rfl,splitD (fun h6 => ?_) (fun h6=>wrapI (by omega) (by omega) (splitD (fun h7 => ?_) (fun h7 => ?_)))⟩
  ·rw[if_pos (.inl h6)] at hf
   refine aggW2 ⟨k,⟨rfl,hk,by omega,by omega⟩, ?_⟩
   rintro a b e2 ⟨h8⟩
   rw[markRM,if_pos (by rw[hf];decide),Prod.mk.injEq] at h8
   obtain ⟨-,rfl⟩:=h8
   refine aggW2 (splitNE (fun h=>absurd rfl h) (fun _=>splitE (fun _=>splitNE (fun h=>absurd rfl h) (fun _ => ?_)) (fun h=>absurd hf h)))
   refine ⟨_,rfl, ?_⟩
   rw[ht90]
   refine wrapI (by omega) (by omega) (wrapI (by omega) (by omega) (wrapI (by omega) (by omega) ⟨_,rfl,wrapI (by omega) (by omega) ⟨⟨trivial,rfl⟩,(i+1,imax 0 (p+((c%90:Nat):Int)-20),t,k,l),⟨by dsimp only;omega,by dsimp only;omega,by dsimp only;omega,h4⟩,by dsimp only;omega,rfl,rfl,rfl,rfl,rfl,rfl,rfl,rfl,rfl,rfl,trivial⟩⟩))
  ·rw[if_pos (.inr h7)] at hf
   refine aggW2 ⟨k,⟨rfl,hk,by omega,by omega⟩, ?_⟩
   rintro a b e2 ⟨h8⟩
   rw[markRM,if_pos (by rw[hf];decide),Prod.mk.injEq] at h8
   obtain ⟨-,rfl⟩:=h8
   refine aggW2 (splitNE (fun h=>absurd rfl h) (fun _=>splitE (fun _=>splitNE (fun h=>absurd rfl h) (fun _ => ?_)) (fun h=>absurd hf h)))
   refine ⟨_,rfl, ?_⟩
   rw[ht90]
   refine wrapI (by omega) (by omega) (wrapI (by omega) (by omega) (wrapI (by omega) (by omega) ⟨_,rfl,wrapI (by omega) (by omega) ⟨⟨trivial,rfl⟩,(i+1,imax 0 (p+((c%90:Nat):Int)-20),t,k,l),⟨by dsimp only;omega,by dsimp only;omega,by dsimp only;omega,h4⟩,by dsimp only;omega,rfl,rfl,rfl,rfl,rfl,rfl,rfl,rfl,rfl,rfl,trivial⟩⟩))
  ·have hno:¬ (p∈l∨p≤t-64):=fun h=>h.elim h6 h7
   rw[if_neg hno] at hf
   obtain ⟨g1,g2,g3⟩:=wOk_mark h4 h2.1 (by omega:p<281474976710656) hno
   refine aggW2 ⟨k,⟨rfl,hk,by omega,by omega⟩, ?_⟩
   rintro a b e2 ⟨h8⟩
   rw[g1,Prod.mk.injEq] at h8
   obtain ⟨h8,rfl⟩:=h8
   rw[h8] at g2 g3
   dsimp only at g2 g3
   subst g2
   have hi:imax t p≤300+100*((i+1:Nat):Int) ∧ -1≤imax t p:=by unfold imax;split<;>omega
   refine aggW2 ?_
   rw[hf]
   refine splitNE (fun h=>absurd rfl h) (fun _=>splitE (fun h=>absurd h (by decide)) (fun _=>splitNE (fun h=>absurd rfl h) (fun _=>⟨_,rfl, ?_⟩)))
   rw[setM_put h6,Option.getD_some]
   refine ckI rfl (splitNE (fun h=>absurd rfl h) (fun _ => ?_))
   refine ⟨_,rfl, ?_⟩
   rw[ht90]
   refine wrapI (by omega) (by omega) (wrapI (by omega) (by omega) (wrapI (by omega) (by omega) ⟨_,rfl,wrapI (by omega) (by omega) ⟨⟨trivial,rfl⟩,(i+1,imax 0 (p+((c%90:Nat):Int)-20),imax t p,b,l++[p]),⟨by dsimp only;omega,by dsimp only;omega,by dsimp only;omega,g3⟩,by dsimp only;omega,rfl,rfl,rfl,rfl,rfl,rfl,rfl,rfl,rfl,rfl,trivial⟩⟩))
 ·have hcl:(c8M n).length=n.length:=by simp[c8M]
  have hk:=h4.2.1
  refine ⟨_,rfl,iminI (b:=10) rfl (ckI (by simp;omega) ⟨_,rfl,⟨⟨0,⟨by omega⟩,rfl,rfl,rfl,rfl,rfl,rfl,rfl,rfl,trivial⟩, ?_⟩⟩)⟩
  rintro j ⟨hj⟩
  refine splitD (fun h5=>ckI (by simp;omega) (ckI (by simp[hcl];omega) ?_)) (fun _=>hq)
  obtain ⟨y,hy,hyn⟩:∃y:List Int,List.take (((((min n.length 10:Nat):Int)).toNat-0)*1) (List.drop 0 (c8M n))=c8M y∧∀x∈y,x∈n:=⟨(n.drop 0).take ((((min n.length 10:Nat):Int).toNat-0)*1),by simp only[c8M,List.map_take,List.map_drop],fun x hx=>List.mem_of_mem_drop (List.mem_of_mem_take hx)⟩
  rw[hy]
  have hyl:y.length=min n.length 10:=by
   have:=congrArg List.length hy
   rw[List.length_take,List.length_drop,hcl] at this
   simp[c8M] at this
   omega
  refine getC8 (j:=j) (by omega) (by simp) (fun c hc => ?_)
  have hcr:=hn c (hyn c hc)
  refine wrapI (by omega) (by omega) (wrapI (by omega) (by omega) ⟨_,rfl, ?_⟩)
  have hx:0≤imax 0 (t+c)∧imax 0 (t+c)≤10000:=by unfold imax;split<;>omega
  generalize imax 0 (t+c)=q at hx ⊢
  have hf:=wOk_fresh h4 hx.1 (by omega:q<281474976710656)
  refine aggW2 ?_
  rw[setM_find,Option.getD_some]
  refine ckI rfl ⟨_,rfl, ?_⟩
  by_cases h6:q∈l
  ·rw[if_pos (.inl h6)] at hf
   refine ckNot6 (decide_eq_true h6) ⟨k,⟨rfl,hk,by omega,by omega⟩, ?_⟩
   rintro e ⟨rfl⟩
   rw[hf]
   exact ckI (setM_eq l) (splitE (fun h=>absurd h (by decide)) (fun _=>wrapI (by omega) (by omega) ⟨⟨trivial,rfl⟩,j+1,⟨by omega⟩,by omega,rfl,rfl,rfl,rfl,rfl,rfl,rfl,rfl,trivial⟩))
  ·refine ckNot6f (decide_eq_false h6) ⟨k,⟨rfl,hk,by omega,by omega⟩, ?_⟩
   rintro e ⟨rfl⟩
   rw[hf]
   refine ckI (setM_eq l) ?_
   by_cases h7:q≤t-64
   ·rw[if_pos (.inr h7)]
    exact splitE (fun h=>absurd h (by decide)) (fun _=>wrapI (by omega) (by omega) (splitD (fun h=>by omega) (fun _=>wrapI (by omega) (by omega) ⟨⟨trivial,rfl⟩,j+1,⟨by omega⟩,by omega,rfl,rfl,rfl,rfl,rfl,rfl,rfl,rfl,trivial⟩)))
   ·rw[if_neg fun h=>h.elim h6 h7]
    exact splitE (fun _=>wrapI (by omega) (by omega) (splitD (fun _=>wrapI (by omega) (by omega) ⟨⟨trivial,rfl⟩,j+1,⟨by omega⟩,by omega,rfl,rfl,rfl,rfl,rfl,rfl,rfl,rfl,trivial⟩) (fun h=>by omega))) (fun h=>absurd rfl h)
end Go.Proofs.Ytiholnebhmjbjaa

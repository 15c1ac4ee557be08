/-
  Chapter 18: the program's digest: made, sum, Sum.
-/
import Derived.Test.YtjenieljapmehaaDoorD21J
set_option linter.unusedSimpArgs false
set_option linter.unusedVariables false
set_option linter.unusedSectionVars false
namespace Go.Proofs.YtjenieljapmehaaDoor
open Go.RowKit
set_option maxRecDepth 1000000

abbrev celK (st:W8) (kk:List Nat):List AV:=cel8 st++cells32M kk
def smM1:SM:=lookS [(51,cConst)]
theorem smM1_ok:∀f g,smM1 f=some g→ValidF Tryd.prog gl0 f g:=lookS_ok _ (by simp only[List.mem_cons,List.not_mem_nil,or_false,forall_eq];exact const_ok)
noncomputable def goal_114 (hv:Nat→Option Pa) (hb:Nat→Option Bool) (Q:Out→List Blk→Gh→Prop):Prop:=
 callx (e18 smM1 (fun _=>none) hv hb) (wpx (e18 smM1 (fun _=>none) hv hb) 1000) 34 [] [] {} Q
theorem vc_114 (Q:Out→List Blk→Gh→Prop):goal_114 (lookV []) (lookB []) Q=(Q (.ret (.agg [.int .u32 1779033703,.int .u32 3144134277,.int .u32 1013904242,.int .u32 2773480762,.int .u32 1359893119,.int .u32 2600822924,.int
 .u32 528734635,.int .u32 1541459225,.int .u32 1116352408,.int .u32 1899447441,.int .u32 3049323471,.int .u32 3921009573,.int .u32 961987163,.int .u32 1508970993,.int .u32 2453635748,.int .u32 2870763221,.int .u32 3624381080,.int
 .u32 310598401,.int .u32 607225278,.int .u32 1426881987,.int .u32 1925078388,.int .u32 2162078206,.int .u32 2614888103,.int .u32 3248222580,.int .u32 3835390401,.int .u32 4022224774,.int .u32 264347078,.int .u32 604807628,.int
 .u32 770255983,.int .u32 1249150122,.int .u32 1555081692,.int .u32 1996064986,.int .u32 2554220882,.int .u32 2821834349,.int .u32 2952996808,.int .u32 3210313671,.int .u32 3336571891,.int .u32 3584528711,.int .u32 113926993,.int
 .u32 338241895,.int .u32 666307205,.int .u32 773529912,.int .u32 1294757372,.int .u32 1396182291,.int .u32 1695183700,.int .u32 1986661051,.int .u32 2177026350,.int .u32 2456956037,.int .u32 2730485921,.int .u32 2820302411,.int
 .u32 3259730800,.int .u32 3345764771,.int .u32 3516065817,.int .u32 3600352804,.int .u32 4094571909,.int .u32 275423344,.int .u32 430227734,.int .u32 506948616,.int .u32 659060556,.int .u32 883997877,.int .u32 958139571,.int
 .u32 1322822218,.int .u32 1537002063,.int .u32 1747873779,.int .u32 1955562222,.int .u32 2024104815,.int .u32 2227730452,.int .u32 2361852424,.int .u32 2428436474,.int .u32 2756734187,.int .u32 3204031479,.int .u32 3329325298]))
 [] {}):=by kernel_rfl

def cellsSM (l:List (List UInt8)):List AV:=l.map AV.str
abbrev X115:=Nat×W8×List UInt8×Nat
def inv_115 (st:W8) (kk:List Nat) (l:List (List UInt8)) (s:S):List (List LInv):=match s.hp with
 | [b0,⟨k,f,_⟩]=>[[{ α:=X115,pre:=fun x=>Lf (x.1≤l.length∧okW8 x.2.1∧x.2.2.1.length≤64∧x.2.2.2≤100000*x.1∧(l.take x.1).foldl (addM kk) (st,[],0)=x.2),st:=fun x=>⟨mkT [(2,s.tm.get 2),(5,s.tm.get 5),(12,s.tm.get 12),(13,s.tm.get 13),(14,.int .i64 (x.1:Nat))],[b0,⟨k,f,celT x.2.1 x.2.2.1 x.2.2.2⟩]⟩,mu:=fun x=>l.length-x.1 }]]
 | _=>[]
def smS1:SM:=lookS [(66,ptrC 10 gAdd),(67,cEnd)]
theorem smS1_ok:∀f g,smS1 f=some g→ValidF Tryd.prog gl0 f g:=lookS_ok _ (by simp only[List.mem_cons,List.not_mem_nil,or_false,forall_eq_or_imp,forall_eq];exact ⟨add_ok,end18_ok⟩)
noncomputable def env_115 (hv:Nat→Option Pa) (hb:Nat→Option Bool) (st:W8) (kk:List Nat) (l:List (List UInt8)):Env:=e18 smS1 (fun i=>bif Nat.beq i 52000 then some (inv_115 st kk l) else none) hv hb
noncomputable def goal_115 (hv:Nat→Option Pa) (hb:Nat→Option Bool) (tg:Nat) (st:W8) (kk:List Nat) (l:List (List UInt8)) (Q:Out→List Blk→Gh→Prop):Prop:=
 callx (env_115 hv hb st kk l) (wpx (env_115 hv hb st kk l) 1000) 52 [.agg (cel8 st++cells32M kk),.lst tg (cellsSM l) l.length 1] [] {} Q
theorem vc_115 (tg:Nat) (st:W8) (kk:List Nat) (l:List (List UInt8)) (Q:Out→List Blk→Gh→Prop):goal_115 (lookV [(213001,.agg [(.int .u32),(.int .u32),(.int .u32),(.int .u32),(.int .u32),(.int .u32),(.int .u32),(.int
 .u32)]),(213005,.int .i64),(213009,.str),(213014,.int .i64),(213015,.agg [(.int .u32),(.int .u32),(.int .u32),(.int .u32),(.int .u32),(.int .u32),(.int .u32),(.int .u32),(.str),(.int .i64)])]) (lookB [(1212992000,true)])
 tg st kk l Q=(ckQ (Nat.beq ([AV.int .u32 (st.1:Int),.int .u32 (st.2:Int),.int .u32 (st.3:Int),.int .u32 (st.4:Int),.int .u32 (st.5:Int),.int .u32 (st.6:Int),.int .u32 (st.7:Int),.int .u32 (st.8:Int)]++cells32M
 kk).length ([AV.int .u32 (st.1:Int),.int .u32 (st.2:Int),.int .u32 (st.3:Int),.int .u32 (st.4:Int),.int .u32 (st.5:Int),.int .u32 (st.6:Int),.int .u32 (st.7:Int),.int .u32 (st.8:Int)]++cells32M kk).length) (ckQ
 (Nat.beq ([AV.int .u32 (st.1:Int),.int .u32 (st.2:Int),.int .u32 (st.3:Int),.int .u32 (st.4:Int),.int .u32 (st.5:Int),.int .u32 (st.6:Int),.int .u32 (st.7:Int),.int .u32 (st.8:Int)]++cells32M kk).length ([AV.int
 .u32 (st.1:Int),.int .u32 (st.2:Int),.int .u32 (st.3:Int),.int .u32 (st.4:Int),.int .u32 (st.5:Int),.int .u32 (st.6:Int),.int .u32 (st.7:Int),.int .u32 (st.8:Int)]++cells32M kk).length&&true) (∃n_0 n_1 n_2 n_3
 n_4 n_5 n_6 n_7,AV.agg [.int .u32 (st.1:Int),.int .u32 (st.2:Int),.int .u32 (st.3:Int),.int .u32 (st.4:Int),.int .u32 (st.5:Int),.int .u32 (st.6:Int),.int .u32 (st.7:Int),.int .u32 (st.8:Int)]=AV.agg [.int .u32
 n_0,.int .u32 n_1,.int .u32 n_2,.int .u32 n_3,.int .u32 n_4,.int .u32 n_5,.int .u32 n_6,.int .u32 n_7]∧exI .i64 (l.length:Int) fun n_8=>(∃x_9:Nat×W8×List UInt8×Nat,Lf (x_9.1≤l.length∧okW8 x_9.2.1 ∧
 x_9.2.2.1.length≤64∧x_9.2.2.2≤100000*x_9.1∧List.foldl (addM kk) (Prod.mk st (Prod.mk [] (0:Nat))) (l.take x_9.1)=x_9.2)∧ckQ (oldL 0 ([AV.int .u32 (st.1:Int),.int .u32 (st.2:Int),.int .u32 (st.3:Int),.int .u32 (st.4
 : Int),.int .u32 (st.5:Int),.int .u32 (st.6:Int),.int .u32 (st.7:Int),.int .u32 (st.8:Int)]++cells32M kk)==oldL 0 ([AV.int .u32 (st.1:Int),.int .u32 (st.2:Int),.int .u32 (st.3:Int),.int .u32 (st.4:Int),.int .u32
 (st.5:Int),.int .u32 (st.6:Int),.int .u32 (st.7:Int),.int .u32 (st.8:Int)]++cells32M kk)) (eqqQ ([AV.int .u32 (st.1:Int),.int .u32 (st.2:Int),.int .u32 (st.3:Int),.int .u32 (st.4:Int),.int .u32 (st.5:Int),.int
 .u32 (st.6:Int),.int .u32 (st.7:Int),.int .u32 (st.8:Int)]++cells32M kk)∧[AV.int .u32 n_0,.int .u32 n_1,.int .u32 n_2,.int .u32 n_3,.int .u32 n_4,.int .u32 n_5,.int .u32 n_6,.int .u32 n_7,.str [],.int .i64 0]=[AV.int
 .u32 (x_9.2.1.1:Int),.int .u32 (x_9.2.1.2:Int),.int .u32 (x_9.2.1.3:Int),.int .u32 (x_9.2.1.4:Int),.int .u32 (x_9.2.1.5:Int),.int .u32 (x_9.2.1.6:Int),.int .u32 (x_9.2.1.7:Int),.int .u32 (x_9.2.1.8:Int),.str
 x_9.2.2.1,.int .i64 (x_9.2.2.2:Int)]∧eqqQ (AV.ptr 1 10 0)∧eqqQ (AV.int .i64 n_8)∧eqqQ (AV.ptr 0 ([AV.int .u32 (st.1:Int),.int .u32 (st.2:Int),.int .u32 (st.3:Int),.int .u32 (st.4:Int),.int .u32 (st.5:Int),.int .u32
 (st.6:Int),.int .u32 (st.7:Int),.int .u32 (st.8:Int)]++cells32M kk).length 0)∧eqqQ (AV.lst tg (cellsSM l) l.length 1)∧AV.int .i64 0=AV.int .i64 (x_9.1:Int)∧True))∧∀x_9:Nat×W8×List UInt8×Nat,Lf (x_9.1 ≤
 l.length∧okW8 x_9.2.1∧x_9.2.2.1.length≤64∧x_9.2.2.2≤100000*x_9.1∧List.foldl (addM kk) (Prod.mk st (Prod.mk [] (0:Nat))) (l.take x_9.1)=x_9.2)→bif decide ((x_9.1:Int)<n_8) then ckQ (Nat.blt (x_9.1:Int).toNat
 l.length&&true) (ckQ (Nat.blt ((x_9.1:Int).toNat*1) (cellsSM l).length) (exS ((cellsSM l).getD ((x_9.1:Int).toNat*1) AV.undef) fun s_10=>ckQ (Nat.beq ([AV.int .u32 (st.1:Int),.int .u32 (st.2:Int),.int .u32 (st.3:Int),
 .int .u32 (st.4:Int),.int .u32 (st.5:Int),.int .u32 (st.6:Int),.int .u32 (st.7:Int),.int .u32 (st.8:Int)]++cells32M kk).length ([AV.int .u32 (st.1:Int),.int .u32 (st.2:Int),.int .u32 (st.3:Int),.int .u32 (st.4 :
 Int),.int .u32 (st.5:Int),.int .u32 (st.6:Int),.int .u32 (st.7:Int),.int .u32 (st.8:Int)]++cells32M kk).length) (ckQ (Nat.beq ([AV.int .u32 (st.1:Int),.int .u32 (st.2:Int),.int .u32 (st.3:Int),.int .u32 (st.4:Int),
 .int .u32 (st.5:Int),.int .u32 (st.6:Int),.int .u32 (st.7:Int),.int .u32 (st.8:Int)]++cells32M kk).length ([AV.int .u32 (st.1:Int),.int .u32 (st.2:Int),.int .u32 (st.3:Int),.int .u32 (st.4:Int),.int .u32 (st.5 :
 Int),.int .u32 (st.6:Int),.int .u32 (st.7:Int),.int .u32 (st.8:Int)]++cells32M kk).length&&Nat.ble 72 ([AV.int .u32 (st.1:Int),.int .u32 (st.2:Int),.int .u32 (st.3:Int),.int .u32 (st.4:Int),.int .u32 (st.5:Int),
 .int .u32 (st.6:Int),.int .u32 (st.7:Int),.int .u32 (st.8:Int)]++cells32M kk).length) (Lf (Nat.blt 1 (List.length [Blk.mk BK.exact (oldL 0 ([AV.int .u32 (st.1:Int),.int .u32 (st.2:Int),.int .u32 (st.3:Int),.int .u32
 (st.4:Int),.int .u32 (st.5:Int),.int .u32 (st.6:Int),.int .u32 (st.7:Int),.int .u32 (st.8:Int)]++cells32M kk)) ([AV.int .u32 (st.1:Int),.int .u32 (st.2:Int),.int .u32 (st.3:Int),.int .u32 (st.4:Int),.int .u32
 (st.5:Int),.int .u32 (st.6:Int),.int .u32 (st.7:Int),.int .u32 (st.8:Int)]++cells32M kk),Blk.mk BK.exact true [.int .u32 (x_9.2.1.1:Int),.int .u32 (x_9.2.1.2:Int),.int .u32 (x_9.2.1.3:Int),.int .u32 (x_9.2.1.4 :
 Int),.int .u32 (x_9.2.1.5:Int),.int .u32 (x_9.2.1.6:Int),.int .u32 (x_9.2.1.7:Int),.int .u32 (x_9.2.1.8:Int),.str x_9.2.2.1,.int .i64 (x_9.2.2.2:Int)]])=true∧eqqQ (10:Nat)∧oldL 0 [.str s_10,.agg ((([AV.int .u32
 (st.1:Int),.int .u32 (st.2:Int),.int .u32 (st.3:Int),.int .u32 (st.4:Int),.int .u32 (st.5:Int),.int .u32 (st.6:Int),.int .u32 (st.7:Int),.int .u32 (st.8:Int)]++cells32M kk).drop 8).take 64)]=true∧noYL [.str
 s_10,.agg ((([AV.int .u32 (st.1:Int),.int .u32 (st.2:Int),.int .u32 (st.3:Int),.int .u32 (st.4:Int),.int .u32 (st.5:Int),.int .u32 (st.6:Int),.int .u32 (st.7:Int),.int .u32 (st.8:Int)]++cells32M kk).drop 8).take
 64)]=true∧oldL 0 [.int .u32 (x_9.2.1.1:Int),.int .u32 (x_9.2.1.2:Int),.int .u32 (x_9.2.1.3:Int),.int .u32 (x_9.2.1.4:Int),.int .u32 (x_9.2.1.5:Int),.int .u32 (x_9.2.1.6:Int),.int .u32 (x_9.2.1.7:Int),.int .u32
 (x_9.2.1.8:Int),.str x_9.2.2.1,.int .i64 (x_9.2.2.2:Int)]=true∧noYL [.int .u32 (x_9.2.1.1:Int),.int .u32 (x_9.2.1.2:Int),.int .u32 (x_9.2.1.3:Int),.int .u32 (x_9.2.1.4:Int),.int .u32 (x_9.2.1.5:Int),.int .u32
 (x_9.2.1.6:Int),.int .u32 (x_9.2.1.7:Int),.int .u32 (x_9.2.1.8:Int),.str x_9.2.2.1,.int .i64 (x_9.2.2.2:Int)]=true)∧∃v_11:W8,∃kk_12:List Nat,∃t_13:List UInt8,∃n_14:Nat,Lf ([AV.int .u32 (x_9.2.1.1:Int),
 .int .u32 (x_9.2.1.2:Int),.int .u32 (x_9.2.1.3:Int),.int .u32 (x_9.2.1.4:Int),.int .u32 (x_9.2.1.5:Int),.int .u32 (x_9.2.1.6:Int),.int .u32 (x_9.2.1.7:Int),.int .u32 (x_9.2.1.8:Int),.str x_9.2.2.1,.int .i64 (x_9.2.2.2
 : Int)]=[AV.int .u32 (v_11.1:Int),.int .u32 (v_11.2:Int),.int .u32 (v_11.3:Int),.int .u32 (v_11.4:Int),.int .u32 (v_11.5:Int),.int .u32 (v_11.6:Int),.int .u32 (v_11.7:Int),.int .u32 (v_11.8:Int),.str t_13,.int
 .i64 (n_14:Int)]∧(([AV.int .u32 (st.1:Int),.int .u32 (st.2:Int),.int .u32 (st.3:Int),.int .u32 (st.4:Int),.int .u32 (st.5:Int),.int .u32 (st.6:Int),.int .u32 (st.7:Int),.int .u32 (st.8:Int)]++cells32M kk).drop
 8).take 64=cells32M kk_12∧okK kk_12∧okW8 v_11∧t_13.length+s_10.length≤10000000∧n_14≤1000000000)∧∀v'_15:W8,∀t'_16:List UInt8,∀n'_17:Nat,Lf (addM kk_12 (Prod.mk v_11 (Prod.mk t_13 n_14)) s_10=Prod.mk v'_15
 (Prod.mk t'_16 n'_17)∧okW8 v'_15)→exW .i64 ((x_9.1:Int)+1) fun n_18=>((oldL 0 ([AV.int .u32 (st.1:Int),.int .u32 (st.2:Int),.int .u32 (st.3:Int),.int .u32 (st.4:Int),.int .u32 (st.5:Int),.int .u32 (st.6:Int),
 .int .u32 (st.7:Int),.int .u32 (st.8:Int)]++cells32M kk)||oldL 2 ([AV.int .u32 (st.1:Int),.int .u32 (st.2:Int),.int .u32 (st.3:Int),.int .u32 (st.4:Int),.int .u32 (st.5:Int),.int .u32 (st.6:Int),.int .u32 (st.7 :
 Int),.int .u32 (st.8:Int)]++cells32M kk))&&true)=true∧(True∧(0:Nat)=(0:Nat))∧∃y_19:Nat×W8×List UInt8×Nat,Lf (y_19.1≤l.length∧okW8 y_19.2.1∧y_19.2.2.1.length≤64∧y_19.2.2.2≤100000*y_19.1 ∧
 List.foldl (addM kk) (Prod.mk st (Prod.mk [] (0:Nat))) (l.take y_19.1)=y_19.2)∧l.length-y_19.1<l.length-x_9.1∧ckQ (oldL 0 ([AV.int .u32 (st.1:Int),.int .u32 (st.2:Int),.int .u32 (st.3:Int),.int .u32 (st.4:Int),
 .int .u32 (st.5:Int),.int .u32 (st.6:Int),.int .u32 (st.7:Int),.int .u32 (st.8:Int)]++cells32M kk)==oldL 0 ([AV.int .u32 (st.1:Int),.int .u32 (st.2:Int),.int .u32 (st.3:Int),.int .u32 (st.4:Int),.int .u32 (st.5 :
 Int),.int .u32 (st.6:Int),.int .u32 (st.7:Int),.int .u32 (st.8:Int)]++cells32M kk)) (eqqQ ([AV.int .u32 (st.1:Int),.int .u32 (st.2:Int),.int .u32 (st.3:Int),.int .u32 (st.4:Int),.int .u32 (st.5:Int),.int .u32
 (st.6:Int),.int .u32 (st.7:Int),.int .u32 (st.8:Int)]++cells32M kk)∧[AV.int .u32 (v'_15.1:Int),.int .u32 (v'_15.2:Int),.int .u32 (v'_15.3:Int),.int .u32 (v'_15.4:Int),.int .u32 (v'_15.5:Int),.int .u32 (v'_15.6 :
 Int),.int .u32 (v'_15.7:Int),.int .u32 (v'_15.8:Int),.str t'_16,.int .i64 (n'_17:Int)]=[AV.int .u32 (y_19.2.1.1:Int),.int .u32 (y_19.2.1.2:Int),.int .u32 (y_19.2.1.3:Int),.int .u32 (y_19.2.1.4:Int),.int .u32
 (y_19.2.1.5:Int),.int .u32 (y_19.2.1.6:Int),.int .u32 (y_19.2.1.7:Int),.int .u32 (y_19.2.1.8:Int),.str y_19.2.2.1,.int .i64 (y_19.2.2.2:Int)]∧eqqQ (AV.ptr 1 10 0)∧eqqQ (AV.int .i64 n_8)∧eqqQ (AV.ptr 0 ([AV.int .u32
 (st.1:Int),.int .u32 (st.2:Int),.int .u32 (st.3:Int),.int .u32 (st.4:Int),.int .u32 (st.5:Int),.int .u32 (st.6:Int),.int .u32 (st.7:Int),.int .u32 (st.8:Int)]++cells32M kk).length 0)∧eqqQ (AV.lst tg (cellsSM l)
 l.length 1)∧AV.int .i64 n_18=AV.int .i64 (y_19.1:Int)∧True))))) else ∃n_10 n_11 n_12 n_13 n_14 n_15 n_16 n_17 s_18 n_19,AV.agg [.int .u32 (x_9.2.1.1:Int),.int .u32 (x_9.2.1.2:Int),.int .u32 (x_9.2.1.3:Int),.int .u32
 (x_9.2.1.4:Int),.int .u32 (x_9.2.1.5:Int),.int .u32 (x_9.2.1.6:Int),.int .u32 (x_9.2.1.7:Int),.int .u32 (x_9.2.1.8:Int),.str x_9.2.2.1,.int .i64 (x_9.2.2.2:Int)]=AV.agg [.int .u32 n_10,.int .u32 n_11,.int .u32 n_12,
 .int .u32 n_13,.int .u32 n_14,.int .u32 n_15,.int .u32 n_16,.int .u32 n_17,.str s_18,.int .i64 n_19]∧ckQ (Nat.beq ([AV.int .u32 (st.1:Int),.int .u32 (st.2:Int),.int .u32 (st.3:Int),.int .u32 (st.4:Int),.int .u32 (st.5 :
 Int),.int .u32 (st.6:Int),.int .u32 (st.7:Int),.int .u32 (st.8:Int)]++cells32M kk).length ([AV.int .u32 (st.1:Int),.int .u32 (st.2:Int),.int .u32 (st.3:Int),.int .u32 (st.4:Int),.int .u32 (st.5:Int),.int .u32
 (st.6:Int),.int .u32 (st.7:Int),.int .u32 (st.8:Int)]++cells32M kk).length) (ckQ (Nat.beq ([AV.int .u32 (st.1:Int),.int .u32 (st.2:Int),.int .u32 (st.3:Int),.int .u32 (st.4:Int),.int .u32 (st.5:Int),.int .u32 (st.6
 : Int),.int .u32 (st.7:Int),.int .u32 (st.8:Int)]++cells32M kk).length ([AV.int .u32 (st.1:Int),.int .u32 (st.2:Int),.int .u32 (st.3:Int),.int .u32 (st.4:Int),.int .u32 (st.5:Int),.int .u32 (st.6:Int),.int .u32
 (st.7:Int),.int .u32 (st.8:Int)]++cells32M kk).length&&Nat.ble 72 ([AV.int .u32 (st.1:Int),.int .u32 (st.2:Int),.int .u32 (st.3:Int),.int .u32 (st.4:Int),.int .u32 (st.5:Int),.int .u32 (st.6:Int),.int .u32 (st.7
 : Int),.int .u32 (st.8:Int)]++cells32M kk).length) (∃v_20:W8,∃kk_21:List Nat,∃t_22:List UInt8,∃n_23:Nat,Lf ([AV.int .u32 n_10,.int .u32 n_11,.int .u32 n_12,.int .u32 n_13,.int .u32 n_14,.int .u32 n_15,.int .u32
 n_16,.int .u32 n_17,.str s_18,.int .i64 n_19]=[AV.int .u32 (v_20.1:Int),.int .u32 (v_20.2:Int),.int .u32 (v_20.3:Int),.int .u32 (v_20.4:Int),.int .u32 (v_20.5:Int),.int .u32 (v_20.6:Int),.int .u32 (v_20.7:Int),
 .int .u32 (v_20.8:Int),.str t_22,.int .i64 (n_23:Int)]∧(([AV.int .u32 (st.1:Int),.int .u32 (st.2:Int),.int .u32 (st.3:Int),.int .u32 (st.4:Int),.int .u32 (st.5:Int),.int .u32 (st.6:Int),.int .u32 (st.7:Int),
 .int .u32 (st.8:Int)]++cells32M kk).drop 8).take 64=cells32M kk_21∧okK kk_21∧okW8 v_20∧t_22.length≤64∧n_23≤1000000000)∧∀x_24:List UInt8,Lf (x_24=endM kk_21 v_20 t_22 n_23)→Q (.ret (.str x_24)) [] {}))))):=by
 kernel_rfl

end Go.Proofs.YtjenieljapmehaaDoor

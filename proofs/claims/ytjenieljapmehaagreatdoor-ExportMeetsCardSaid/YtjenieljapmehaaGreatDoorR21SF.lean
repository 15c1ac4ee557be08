/-
  Chapters 3 and 4: the contract of Apply; numbers in limbs.
-/
import Derived.Test.YtjenieljapmehaaGreatDoorR21SE
set_option linter.unusedSimpArgs false
set_option linter.unusedVariables false
namespace Go.Proofs.YtjenieljapmehaaGreatDoor.Rc
open Go.RowKit
set_option maxRecDepth 1000000

def applyM (key nonce:List UInt8) (c:Int) (s:List UInt8):List UInt8×Int:=
 if rightM key nonce c=false then ([],2) else if 4096<s.length then ([],3) else if 4294967296<c+((s.length:Int)+63)/64 then ([],6) else (appM (firstM key nonce) c 70 s,0)
def cApply:Con
 | [.str key,.str nonce,.int .i64 c,.str s],H,K=>∀t e,Lf (applyM key nonce c s=(t,e))→K (.ret (.tup [.str t,.int .i64 e])) H
 | _,_,_=>False
theorem apply_ok:ValidF Tryz.prog gl0 73 cApply:=by
 refine valid_flat (enters_of (by kernel_rfl)) gl0_noY fun args H Q hc => ?_
 unfold cApply at hc
 split at hc
 ·rename_i key nonce c s
  obtain ⟨hv,hb',h⟩:=apply_run key nonce c s _ rfl (Q:=fun o H' _=>H'=[]∧(∃v,o=.ret v∧old 0 v=true∧noY v=true)∧Q o H)
   (fun h1=>⟨rfl,⟨_,rfl,rfl,rfl⟩,hc _ _ ⟨by rw[applyM,if_pos h1]⟩⟩)
   (fun h1 h2=>⟨rfl,⟨_,rfl,rfl,rfl⟩,hc _ _ ⟨by rw[applyM,if_neg (by simp[h1]),if_pos h2]⟩⟩)
   (fun h1 h2 h3=>⟨rfl,⟨_,rfl,rfl,rfl⟩,hc _ _ ⟨by rw[applyM,if_neg (by simp[h1]),if_neg (by omega),if_pos h3]⟩⟩)
   (fun h1 h2 h3=>⟨rfl,⟨_,rfl,rfl,rfl⟩,hc _ _ ⟨by rw[applyM,if_neg (by simp[h1]),if_neg (by omega),if_neg (by omega)]⟩⟩)
  exact ⟨rfl,rfl,_,1000,envFor04 smD_ok _ _ _,rfl,h⟩
 ·exact hc.elim

def leNM:List UInt8→Nat
 | []=>0
 | b::l=>b.toNat+256*leNM l
def limM (n:Nat):List Nat:=[n%67108864,n/67108864%67108864,n/4503599627370496%67108864,n/302231454903657293676544%67108864,n/20282409603651670423947251286016%67108864]
def cellsUM (l:List Nat):List AV:=l.map fun (n:Nat)=>AV.int .u64 (n:Int)
theorem or_lo {a b:Nat} (k:Nat) (h:a<2^k) (hb:b%2^k=0):a ||| b=a+b:=by
 obtain ⟨q,rfl⟩:=Nat.dvd_of_mod_eq_zero hb
 have:=Nat.two_pow_add_eq_or_of_lt h q
 rw[Nat.or_comm,←this,Nat.add_comm]
theorem lim_stepA (i:Nat) (hi:i<17) (N c:Nat) (hN:N<2^(8*i)) (hc:c<256) (hx:c*2^(8*i%26)<67108864) :
  (limM N).set (8*i/26) ((limM N).getD (8*i/26) 0 ||| c*2^(8*i%26))=limM (N+c*2^(8*i)):=by
 have h17:i=0∨i=1∨i=2∨i=3∨i=4∨i=5∨i=6∨i=7∨i=8∨i=9∨i=10∨i=11∨i=12∨i=13∨i=14∨i=15∨i=16:=by omega
 rcases h17 with rfl | rfl | rfl | rfl | rfl | rfl | rfl | rfl | rfl | rfl | rfl | rfl | rfl | rfl | rfl | rfl | rfl <;>
 ·rw[or_lo (8*_%26) (by simp only[limM,Nat.reduceMul,Nat.reduceDiv,Nat.reduceMod,Nat.reducePow,List.getD_cons_succ,List.getD_cons_zero] at hN ⊢;omega) (Nat.mul_mod_left _ _)]
  simp only[limM,Nat.reduceMul,Nat.reduceDiv,Nat.reduceMod,Nat.reducePow,List.set_cons_succ,List.set_cons_zero,List.getD_cons_succ,List.getD_cons_zero] at hN hx ⊢
  simp only[List.cons.injEq,and_true]
  refine ⟨?_, ?_, ?_, ?_, ?_⟩<;>omega
theorem lim_lo (i:Nat) (hi:i<17) (N:Nat) (hN:N<2^(8*i)):(limM N).getD (8*i/26) 0<2^(8*i%26):=by
 have h17:i=0∨i=1∨i=2∨i=3∨i=4∨i=5∨i=6∨i=7∨i=8∨i=9∨i=10∨i=11∨i=12∨i=13∨i=14∨i=15∨i=16:=by omega
 rcases h17 with rfl | rfl | rfl | rfl | rfl | rfl | rfl | rfl | rfl | rfl | rfl | rfl | rfl | rfl | rfl | rfl | rfl <;>
 (simp only[limM,Nat.reduceMul,Nat.reduceDiv,Nat.reduceMod,Nat.reducePow,List.getD_cons_succ,List.getD_cons_zero] at hN ⊢;omega)
theorem mod_lo (i c:Nat):c*2^(8*i%26)%67108864%2^(8*i%26)=0:=by
 have hd:2^(8*i%26) ∣ 67108864:=Nat.pow_dvd_pow (n:=26) 2 (by omega)
 rw[Nat.mod_mod_of_dvd _ hd,Nat.mul_mod_left]
theorem lim_stepB (i:Nat) (hi:i<17) (N c:Nat) (hN:N<2^(8*i)) (hc:c<256) (hx:67108864≤c*2^(8*i%26)) (hb:N+c*2^(8*i)<1361129467683753853853498429727072845824) :
  8*i/26+1<5∧(((limM N).set (8*i/26) ((limM N).getD (8*i/26) 0 ||| c*2^(8*i%26)%67108864)).set (8*i/26+1) (((limM N).set (8*i/26) ((limM N).getD (8*i/26) 0 ||| c*2^(8*i%26)%67108864)).getD (8*i/26+1) 0 ||| c*2^(8*i%26)/67108864))=limM (N+c*2^(8*i)):=by
 rw[or_lo (8*i%26) (lim_lo i hi N hN) (mod_lo i c)]
 have h17:i=0∨i=1∨i=2∨i=3∨i=4∨i=5∨i=6∨i=7∨i=8∨i=9∨i=10∨i=11∨i=12∨i=13∨i=14∨i=15∨i=16:=by omega
 rcases h17 with rfl | rfl | rfl | rfl | rfl | rfl | rfl | rfl | rfl | rfl | rfl | rfl | rfl | rfl | rfl | rfl | rfl <;>
 first
 | (exfalso;simp only[Nat.reduceMul,Nat.reduceMod,Nat.reducePow] at hx hb;omega)
 | (refine ⟨by simp, ?_⟩
    simp only[limM,Nat.reduceMul,Nat.reduceAdd,Nat.reduceDiv,Nat.reduceMod,Nat.reducePow,List.set_cons_succ,List.set_cons_zero,List.getD_cons_succ,List.getD_cons_zero] at hN hx hb ⊢
    rw[or_lo 0 (b:=_/67108864) (by omega) (Nat.mod_one _)]
    simp only[List.cons.injEq,and_true]
    refine ⟨?_, ?_, ?_, ?_, ?_⟩<;>omega)
def zeros5:List AV:=[.int .u64 0,.int .u64 0,.int .u64 0,.int .u64 0,.int .u64 0]
def inv_58 (t:Nat) (s:List UInt8):LInv where
 α:=Nat×List Nat
 pre p:=Lf (p.1≤s.length∧p.2=limM (leNM (s.take p.1)))
 st p:=⟨mkT [(2,.ptr 0 5 0),(3,.ptr 1 5 0),(9,.lst t (ofBytes s) s.length 1),(10,.int .i64 s.length),(11,.int .i64 (p.1:Nat))],[⟨.exact,true,zeros5⟩,⟨.exact,true,cellsUM p.2⟩]⟩
 mu p:=s.length-p.1
noncomputable def env_58 (hv:Nat→Option Pa) (hb:Nat→Option Bool) (t:Nat) (s:List UInt8):Env:=e04 sm0 (fun i=>bif Nat.beq i 125000 then some (fun _=>[[inv_58 t s]]) else none) hv hb
noncomputable def goal_58 (hv:Nat→Option Pa) (hb:Nat→Option Bool) (t:Nat) (s:List UInt8) (Q:Out→List Blk→Gh→Prop):Prop:=
 callx (env_58 hv hb t s) (wpx (env_58 hv hb t s) 1000) 125 [.lst t (ofBytes s) s.length 1] [] {} Q
theorem vc_58 (t:Nat) (s:List UInt8) (Q:Out→List Blk→Gh→Prop):goal_58 (lookV [(512010,.int .i64),(512015,.int .u8),(512017,.int .i64),(512018,.int .i64),(512020,.int .i64),(512021,.int .i64),(512023,.int .u64),
 (512025,.int .u64),(512028,.int .u64),(512030,.int .u64),(512031,.int .u64),(512036,.int .i64),(512038,.int .u64),(512040,.int .u64),(512041,.int .u64),(512043,.int .i64)]) (lookB [(516094,true)]) t s Q=(exI .i64
 (s.length:Int) fun n_0=>(∃x_1:Nat×List Nat,Lf (x_1.1≤s.length∧x_1.2=limM (leNM (s.take x_1.1)))∧eqqQ [AV.int .u64 0,.int .u64 0,.int .u64 0,.int .u64 0,.int .u64 0]∧[AV.int .u64 0,.int .u64 0,.int .u64 0,.int
 .u64 0,.int .u64 0]=cellsUM x_1.2∧eqqQ (AV.ptr 1 5 0)∧AV.int .i64 0=AV.int .i64 (x_1.1:Int)∧eqqQ (AV.lst t (ofBytes s) s.length 1)∧eqqQ (AV.ptr 0 5 0)∧AV.int .i64 n_0=AV.int .i64 (s.length:Int)∧True)∧∀x_1:Nat ×
 List Nat,Lf (x_1.1≤s.length∧x_1.2=limM (leNM (s.take x_1.1)))→bif decide ((x_1.1:Int)<(s.length:Int)) then ckQ (Nat.blt (x_1.1:Int).toNat s.length&&true) (ckQ (Nat.blt ((x_1.1:Int).toNat*1) (ofBytes s).length) (exV
 .u8 ((ofBytes s).getD ((x_1.1:Int).toNat*1) AV.undef) fun n_2=>exW .i64 (8*(x_1.1:Int)) fun n_3=>exW .i64 (n_3.tdiv 26) fun n_4=>exW .i64 (8*(x_1.1:Int)) fun n_5=>exI .i64 (n_5.tmod 26) fun n_6=>exW .u64 n_2 fun n_7
 => ckQ (decide (0≤n_6)&&true) (exW .u64 (n_7*(2:Int)^Min.min n_6.toNat 64) fun n_8=>ckQ (decide (0≤n_4)&&Nat.blt n_4.toNat 5&&Nat.beq (cellsUM x_1.2).length 5) (ckQ (Nat.beq (cellsUM x_1.2).length 5&&Nat.blt (0 +
 n_4.toNat*1) 5) (exV .u64 ((((cellsUM x_1.2).drop (0+n_4.toNat*1)).take 1).getD 0 AV.undef) fun n_9=>exW .u64 (((n_8%18446744073709551616).toNat &&& 67108863:Nat):Int) fun n_10=>exW .u64 (((n_9%18446744073709551616).toNat
 ||| (n_10%18446744073709551616).toNat:Nat):Int) fun n_11=>ckQ (decide (0≤n_4)&&Nat.blt n_4.toNat 5&&Nat.beq (cellsUM x_1.2).length 5) (ckQ (Nat.beq (cellsUM x_1.2).length 5&&Nat.ble (0+n_4.toNat*1+1) 5&&true&&true
 && true) (bif decide (n_8≥67108864) then exW .i64 (n_4+1) fun n_12=>ckQ (decide (0≤n_12)&&Nat.blt n_12.toNat 5&&Nat.beq (setRange (cellsUM x_1.2) (0+n_4.toNat*1) [.int .u64 n_11]).length 5) (ckQ (Nat.beq (setRange (cellsUM
 x_1.2) (0+n_4.toNat*1) [.int .u64 n_11]).length 5&&Nat.blt (0+n_12.toNat*1) 5) (exV .u64 ((((setRange (cellsUM x_1.2) (0+n_4.toNat*1) [.int .u64 n_11]).drop (0+n_12.toNat*1)).take 1).getD 0 AV.undef) fun n_13=>exI .u64
 (Int.fdiv n_8 67108864) fun n_14=>exW .u64 (((n_13%18446744073709551616).toNat ||| (n_14%18446744073709551616).toNat:Nat):Int) fun n_15=>ckQ (decide (0≤n_12)&&Nat.blt n_12.toNat 5&&Nat.beq (setRange (cellsUM x_1.2) (0 +
 n_4.toNat*1) [.int .u64 n_11]).length 5) (ckQ (Nat.beq (setRange (cellsUM x_1.2) (0+n_4.toNat*1) [.int .u64 n_11]).length 5&&Nat.ble (0+n_12.toNat*1+1) 5&&true&&true&&true) (exW .i64 ((x_1.1:Int)+1) fun n_16=>
 (True∧(0:Nat)=(0:Nat))∧∃y_17:Nat×List Nat,Lf (y_17.1≤s.length∧y_17.2=limM (leNM (s.take y_17.1)))∧s.length-y_17.1<s.length-x_1.1∧eqqQ [AV.int .u64 0,.int .u64 0,.int .u64 0,.int .u64 0,.int .u64 0] ∧
 setRange (setRange (cellsUM x_1.2) (0+n_4.toNat*1) [.int .u64 n_11]) (0+n_12.toNat*1) [.int .u64 n_15]=cellsUM y_17.2∧eqqQ (AV.ptr 1 5 0)∧AV.int .i64 n_16=AV.int .i64 (y_17.1:Int)∧eqqQ (AV.lst t (ofBytes s) s.length 1)
 ∧ eqqQ (AV.ptr 0 5 0)∧eqqQ (AV.int .i64 (s.length:Int))∧True)))) else exW .i64 ((x_1.1:Int)+1) fun n_12=>(True∧(0:Nat)=(0:Nat))∧∃y_13:Nat×List Nat,Lf (y_13.1≤s.length∧y_13.2=limM (leNM (s.take y_13.1))) ∧
 s.length-y_13.1<s.length-x_1.1∧eqqQ [AV.int .u64 0,.int .u64 0,.int .u64 0,.int .u64 0,.int .u64 0]∧setRange (cellsUM x_1.2) (0+n_4.toNat*1) [.int .u64 n_11]=cellsUM y_13.2∧eqqQ (AV.ptr 1 5 0)∧AV.int .i64 n_12 =
 AV.int .i64 (y_13.1:Int)∧eqqQ (AV.lst t (ofBytes s) s.length 1)∧eqqQ (AV.ptr 0 5 0)∧eqqQ (AV.int .i64 (s.length:Int))∧True))))))) else ckQ (Nat.beq (cellsUM x_1.2).length 5&&true) (ckQ (Nat.beq (((cellsUM x_1.2).drop 0).take
 5).length 5&&oneL (((cellsUM x_1.2).drop 0).take 5)&&true) (ckQ (Nat.beq (setRange [.int .u64 0,.int .u64 0,.int .u64 0,.int .u64 0,.int .u64 0] 0 (((cellsUM x_1.2).drop 0).take 5)).length 5&&true) ((old 0 (.agg (((setRange [.int
 .u64 0,.int .u64 0,.int .u64 0,.int .u64 0,.int .u64 0] 0 (((cellsUM x_1.2).drop 0).take 5)).drop 0).take 5))&&true)=true∧Q (.ret (.agg (((setRange [.int .u64 0,.int .u64 0,.int .u64 0,.int .u64 0,.int .u64 0] 0 (((cellsUM
 x_1.2).drop 0).take 5)).drop 0).take 5))) [] {})))):=by kernel_rfl


theorem take_snocD {α:Type} (l:List α) (d:α) {i:Nat} (h:i<l.length):l.take (i+1)=l.take i++[l.getD i d]:=by
 rw[List.take_add_one,List.getElem?_eq_getElem h]
 simp[h]
theorem leN_snoc (l:List UInt8) (b:UInt8):leNM (l++[b])=leNM l+b.toNat*2^(8*l.length):=by
 induction l with
 | nil=>simp[leNM]
 | cons x l ih=>
  simp only[List.cons_append,leNM,ih,List.length_cons]
  rw[Nat.mul_add,Nat.mul_add 8,Nat.pow_add,Nat.mul_left_comm 256,show (2^(8*1):Nat)=256 from rfl,Nat.mul_comm (2^(8*l.length)) 256,Nat.add_assoc]
theorem leN_lt (l:List UInt8):leNM l<2^(8*l.length):=by
 induction l with
 | nil=>simp[leNM]
 | cons x l ih=>
  simp only[leNM,List.length_cons]
  have:=x.toNat_lt
  rw[Nat.mul_add,Nat.pow_add,show (2^(8*1):Nat)=256 from rfl]
  omega
theorem leN_take {s:List UInt8} {i:Nat} (h:i<s.length):leNM (s.take (i+1))=leNM (s.take i)+(s.getD i 0).toNat*2^(8*i):=by
 rw[take_snocD s 0 h,leN_snoc,List.length_take,Nat.min_eq_left (by omega)]
theorem getB {s:List UInt8} {i j:Nat} (hi:i<s.length) (hj:j=i) {K:Int→Prop} (hk:K ((s.getD i 0).toNat:Int)):∃n:Int,(ofBytes s).getD j AV.undef=AV.int .u8 n∧K n:=by
 subst hj
 refine ⟨_, ?_,hk⟩
 simp[ofBytes,hi]
theorem cellsU_len (l:List Nat):(cellsUM l).length=l.length:=by simp[cellsUM]
theorem ldU {l:List Nat} {j m:Nat} (hj:j<l.length) (hm:m=j) {K:Int→Prop} (hk:K ((l.getD j 0:Nat):Int)):∃n:Int,(List.take 1 (List.drop m (cellsUM l))).getD 0 AV.undef=AV.int .u64 n∧K n:=by
 subst hm
 refine ⟨_, ?_,hk⟩
 rw[List.getD_eq_getElem?_getD,List.getElem?_take,if_pos (by omega),List.getElem?_drop,cellsUM,List.getElem?_map,Nat.add_zero,List.getElem?_eq_getElem hj]
 simp[hj]
theorem stU {L:List Nat} {j m x:Nat} (hj:j<L.length) (hm:m=j):setRange (cellsUM L) m [AV.int .u64 (x:Int)]=cellsUM (L.set j x):=by
 subst hm
 rw[List.set_eq_take_append_cons_drop,if_pos hj]
 simp[setRange,cellsUM]
theorem wrapU {x:Nat} (h:x<18446744073709551616) {K:Int→Prop} (hk:K (x:Int)) {y:Int} (hy:y=(x:Int)):∃n:Int,AV.int .u64 (IntKind.wrap .u64 y)=AV.int .u64 n∧K n:=by
 subst hy
 refine ⟨_, ?_,hk⟩
 rw[show IntKind.wrap .u64 (x:Int)=(x:Int)%18446744073709551616 from rfl]
 congr 1
 omega
theorem mod64 {x:Nat} (h:x<18446744073709551616):((x:Int)%18446744073709551616).toNat=x:=by omega

theorem oneL_U (l:List Nat):oneL (cellsUM l)=true:=by
 induction l with
 | nil=>rfl
 | cons x l ih=>simpa [cellsUM,oneL,one] using ih
theorem oldL_U (l:List Nat):oldL 0 (cellsUM l)=true:=by
 induction l with
 | nil=>rfl
 | cons x l ih=>simpa [cellsUM,oldL,old] using ih
theorem noY_U (l:List Nat):noYL (cellsUM l)=true:=by
 induction l with
 | nil=>rfl
 | cons x l ih=>simpa [cellsUM,noYL,noY] using ih
theorem lim_lt (n j:Nat):(limM n).getD j 0<67108864:=by
 match j with
 | 0=>simp[limM];omega
 | 1=>simp[limM];omega
 | 2=>simp[limM];omega
 | 3=>simp[limM];omega
 | 4=>simp[limM];omega
 | j+5=>simp[limM]
theorem leN_app (a b:List UInt8):leNM (a++b)=leNM a+leNM b*2^(8*a.length):=by
 induction a with
 | nil=>simp[leNM]
 | cons x l ih=>
  simp only[List.cons_append,leNM,ih,List.length_cons]
  rw[Nat.mul_add,Nat.mul_add 8,Nat.pow_add,Nat.mul_left_comm 256,show (2^(8*1):Nat)=256 from rfl,Nat.mul_comm (2^(8*l.length)) 256,Nat.add_assoc]
theorem leN_mono (s:List UInt8) {i:Nat} (_:i≤s.length):leNM (s.take i)≤leNM s:=by
 conv=>rhs;rw[←List.take_append_drop i s]
 rw[leN_app]
 omega

theorem number_run (t:Nat) (s:List UInt8) (Q:Out→List Blk→Gh→Prop) (hl:s.length≤17) (hb:leNM s<1361129467683753853853498429727072845824) (hq:Q (.ret (.agg (cellsUM (limM (leNM s))))) [] {}):∃hv hb,goal_58 hv hb t s Q:=by
 obtain ⟨hv,hb',e⟩:∃hv hb,goal_58 hv hb t s Q=_:=⟨_,_,vc_58 t s Q⟩
 refine ⟨hv,hb',e.mpr ?_⟩
 clear e
 refine ⟨_,rfl,⟨(0,limM 0),⟨by simp,by simp[leNM]⟩,by simp[cellsUM,limM]⟩, ?_⟩
 rintro ⟨i,L⟩ ⟨g1,g2⟩
 dsimp only at *
 have hLl:L.length=5:=by rw[g2];rfl
 refine splitD (fun hlt => ?_) (fun hge => ?_)
 ·have hi:i<s.length:=by omega
  have hN:=leN_lt (s.take i)
  rw[List.length_take,Nat.min_eq_left (by omega)] at hN
  have hstep:=leN_take hi
  have hc:=(s.getD i 0).toNat_lt
  have hcl:=cellsU_len L
  refine ckI (by first | (simp only[Bool.and_eq_true,Bool.and_true,Bool.true_and,decide_eq_true_eq,blt_iff,Nat.ble_eq,nbeq,cellsI_len,List.length_append,List.length_cons,List.length_nil,Int.toNat_natCast,and_true,true_and,Bool.or_eq_true,Bool.not_eq_true',bne_iff_ne,ne_eq];done) | (simp only[Bool.and_eq_true,Bool.and_true,Bool.true_and,decide_eq_true_eq,blt_iff,Nat.ble_eq,nbeq,cellsI_len,List.length_append,List.length_cons,List.length_nil,Int.toNat_natCast,and_true,true_and,Bool.or_eq_true,Bool.not_eq_true',bne_iff_ne,ne_eq];omega) | rfl | (simp;done) | (simp;omega)) (ckI (by first | (simp only[Bool.and_eq_true,Bool.and_true,Bool.true_and,decide_eq_true_eq,blt_iff,Nat.ble_eq,nbeq,cellsI_len,ofB_len,List.length_append,List.length_cons,List.length_nil,Int.toNat_natCast,and_true,true_and,Bool.or_eq_true,Bool.not_eq_true',bne_iff_ne,ne_eq];done) | (simp only[Bool.and_eq_true,Bool.and_true,Bool.true_and,decide_eq_true_eq,blt_iff,Nat.ble_eq,nbeq,cellsI_len,ofB_len,List.length_append,List.length_cons,List.length_nil,Int.toNat_natCast,and_true,true_and,Bool.or_eq_true,Bool.not_eq_true',bne_iff_ne,ne_eq];omega) | rfl | (simp;done) | (simp;omega)) (getB hi (by omega) ?_))
  generalize (s.getD i 0).toNat=c at *
  have h1:(8*(i:Int)).tdiv 26=((8*i/26:Nat):Int):=by rw[Int.tdiv_eq_ediv_of_nonneg (by omega)];omega
  have h2:(8*(i:Int)).tmod 26=((8*i%26:Nat):Int):=by rw[Int.tmod_eq_emod_of_nonneg (by omega)];omega
  have hA:=lim_lo i (by omega) _ hN
  rw[←g2] at hA
  have hB:=lim_stepA i (by omega) (leNM (s.take i)) c hN hc
  have hC:=lim_stepB i (by omega) (leNM (s.take i)) c hN hc
  have hle:=leN_mono s (show i+1≤s.length by omega)
  rw[←g2,←hstep] at hB hC
  have hsh:8*i%26<26:=Nat.mod_lt _ (by omega)
  have hp2:2^(8*i%26)≤33554432:=Nat.pow_le_pow_right (n:=2) (j:=25) (by omega) (by omega)
  have hat:8*i/26<5:=by omega
  refine wrapI (by omega) (by omega) ?_
  rw[h1]
  refine wrapI (by omega) (by omega) (wrapI (by omega) (by omega) ⟨_,rfl, ?_⟩)
  rw[h2]
  generalize 8*i%26=sh at *
  generalize 8*i/26=at_ at *
  refine wrapU (x:=c) (by omega) ?_ rfl
  refine ckI (by first | (simp only[Bool.and_eq_true,Bool.and_true,Bool.true_and,decide_eq_true_eq,blt_iff,Nat.ble_eq,nbeq,cellsI_len,List.length_append,List.length_cons,List.length_nil,Int.toNat_natCast,and_true,true_and,Bool.or_eq_true,Bool.not_eq_true',bne_iff_ne,ne_eq];done) | (simp only[Bool.and_eq_true,Bool.and_true,Bool.true_and,decide_eq_true_eq,blt_iff,Nat.ble_eq,nbeq,cellsI_len,List.length_append,List.length_cons,List.length_nil,Int.toNat_natCast,and_true,true_and,Bool.or_eq_true,Bool.not_eq_true',bne_iff_ne,ne_eq];omega) | rfl | (simp;done) | (simp;omega)) ?_
  have hx34:c*2^sh≤255*33554432:=Nat.mul_le_mul (by omega) hp2
  have hp:(c:Int)*2^min ((sh:Nat):Int).toNat 64=((c*2^sh:Nat):Int):=by
   rw[Int.toNat_natCast,Nat.min_eq_left (by omega)]
   simp
  refine wrapU (x:=c*2^sh) (by omega) ?_ hp
  generalize c*2^sh=x at *
  refine ckI (by first | (simp only[Bool.and_eq_true,Bool.and_true,Bool.true_and,decide_eq_true_eq,blt_iff,Nat.ble_eq,nbeq,cellsI_len,hcl,hLl,List.length_append,List.length_cons,List.length_nil,Int.toNat_natCast,and_true,true_and,Bool.or_eq_true,Bool.not_eq_true',bne_iff_ne,ne_eq];done) | (simp only[Bool.and_eq_true,Bool.and_true,Bool.true_and,decide_eq_true_eq,blt_iff,Nat.ble_eq,nbeq,cellsI_len,hcl,hLl,List.length_append,List.length_cons,List.length_nil,Int.toNat_natCast,and_true,true_and,Bool.or_eq_true,Bool.not_eq_true',bne_iff_ne,ne_eq];omega) | rfl | (simp;done) | (simp;omega)) (ckI (by first | (simp only[Bool.and_eq_true,Bool.and_true,Bool.true_and,decide_eq_true_eq,blt_iff,Nat.ble_eq,nbeq,cellsI_len,hcl,hLl,List.length_append,List.length_cons,List.length_nil,Int.toNat_natCast,and_true,true_and,Bool.or_eq_true,Bool.not_eq_true',bne_iff_ne,ne_eq];done) | (simp only[Bool.and_eq_true,Bool.and_true,Bool.true_and,decide_eq_true_eq,blt_iff,Nat.ble_eq,nbeq,cellsI_len,hcl,hLl,List.length_append,List.length_cons,List.length_nil,Int.toNat_natCast,and_true,true_and,Bool.or_eq_true,Bool.not_eq_true',bne_iff_ne,ne_eq];omega) | rfl | (simp;done) | (simp;omega)) (ldU (j:=at_) (by omega) (by omega) ?_))
  have hm:∀y:Nat,y &&& 67108863=y%67108864:=fun y=>Nat.and_two_pow_sub_one_eq_mod y 26
  refine wrapU (x:=x%67108864) (by omega) ?_ (by rw[mod64 (by omega),hm])
  generalize L.getD at_ 0=a at *
  have ha:a<67108864:=by omega
  have hor:a ||| x%67108864<67108864:=Nat.or_lt_two_pow (n:=26) ha (Nat.mod_lt _ (by omega))
  refine wrapU (x:=a ||| x%67108864) (by omega) ?_ (by rw[mod64 (by omega),mod64 (by omega)])
  refine ckI (by first | (simp only[Bool.and_eq_true,Bool.and_true,Bool.true_and,decide_eq_true_eq,blt_iff,Nat.ble_eq,nbeq,cellsI_len,hcl,hLl,List.length_append,List.length_cons,List.length_nil,Int.toNat_natCast,and_true,true_and,Bool.or_eq_true,Bool.not_eq_true',bne_iff_ne,ne_eq];done) | (simp only[Bool.and_eq_true,Bool.and_true,Bool.true_and,decide_eq_true_eq,blt_iff,Nat.ble_eq,nbeq,cellsI_len,hcl,hLl,List.length_append,List.length_cons,List.length_nil,Int.toNat_natCast,and_true,true_and,Bool.or_eq_true,Bool.not_eq_true',bne_iff_ne,ne_eq];omega) | rfl | (simp;done) | (simp;omega)) (ckI (by first | (simp only[Bool.and_eq_true,Bool.and_true,Bool.true_and,decide_eq_true_eq,blt_iff,Nat.ble_eq,nbeq,cellsI_len,hcl,hLl,List.length_append,List.length_cons,List.length_nil,Int.toNat_natCast,and_true,true_and,Bool.or_eq_true,Bool.not_eq_true',bne_iff_ne,ne_eq];done) | (simp only[Bool.and_eq_true,Bool.and_true,Bool.true_and,decide_eq_true_eq,blt_iff,Nat.ble_eq,nbeq,cellsI_len,hcl,hLl,List.length_append,List.length_cons,List.length_nil,Int.toNat_natCast,and_true,true_and,Bool.or_eq_true,Bool.not_eq_true',bne_iff_ne,ne_eq];omega) | rfl | (simp;done) | (simp;omega)) ?_)
  rw[stU (j:=at_) (by omega) (by omega)]
  generalize hL2:L.set at_ (a ||| x%67108864)=L2 at *
  have hL2l:L2.length=5:=by rw[←hL2,List.length_set,hLl]
  have hcl2:=cellsU_len L2
  refine splitD (fun hge => ?_) (fun hlt2 => ?_)
  ·obtain ⟨c1,c2⟩:=hC (by omega) (by omega)
   have ha2:L2.getD (at_+1) 0<67108864:=by
    rw[←hL2]
    have:(L.set at_ (a ||| x%67108864)).getD (at_+1) 0=L.getD (at_+1) 0:=by
     simp only[List.getD_eq_getElem?_getD]
     rw[List.getElem?_set_ne (by omega)]
    rw[this,g2]
    exact lim_lt _ _
   have hor2:L2.getD (at_+1) 0 ||| x/67108864<67108864:=Nat.or_lt_two_pow (n:=26) ha2 (by omega)
   have hf:Int.fdiv (x:Int) 67108864=((x/67108864:Nat):Int):=fdivN x 67108864 67108864 rfl
   refine wrapI (by omega) (by omega) (ckI (by first | (simp only[Bool.and_eq_true,Bool.and_true,Bool.true_and,decide_eq_true_eq,blt_iff,Nat.ble_eq,nbeq,cellsI_len,hcl2,hL2l,List.length_append,List.length_cons,List.length_nil,Int.toNat_natCast,and_true,true_and,Bool.or_eq_true,Bool.not_eq_true',bne_iff_ne,ne_eq];done) | (simp only[Bool.and_eq_true,Bool.and_true,Bool.true_and,decide_eq_true_eq,blt_iff,Nat.ble_eq,nbeq,cellsI_len,hcl2,hL2l,List.length_append,List.length_cons,List.length_nil,Int.toNat_natCast,and_true,true_and,Bool.or_eq_true,Bool.not_eq_true',bne_iff_ne,ne_eq];omega) | rfl | (simp;done) | (simp;omega)) (ckI (by first | (simp only[Bool.and_eq_true,Bool.and_true,Bool.true_and,decide_eq_true_eq,blt_iff,Nat.ble_eq,nbeq,cellsI_len,hcl2,hL2l,List.length_append,List.length_cons,List.length_nil,Int.toNat_natCast,and_true,true_and,Bool.or_eq_true,Bool.not_eq_true',bne_iff_ne,ne_eq];done) | (simp only[Bool.and_eq_true,Bool.and_true,Bool.true_and,decide_eq_true_eq,blt_iff,Nat.ble_eq,nbeq,cellsI_len,hcl2,hL2l,List.length_append,List.length_cons,List.length_nil,Int.toNat_natCast,and_true,true_and,Bool.or_eq_true,Bool.not_eq_true',bne_iff_ne,ne_eq];omega) | rfl | (simp;done) | (simp;omega)) (ldU (j:=at_+1) (by omega) (by omega) ?_)))
   rw[hf]
   refine ⟨_,rfl,wrapU (x:=L2.getD (at_+1) 0 ||| x/67108864) (by omega) ?_ (by rw[mod64 (by omega),mod64 (by omega)])⟩
   refine ckI (by first | (simp only[Bool.and_eq_true,Bool.and_true,Bool.true_and,decide_eq_true_eq,blt_iff,Nat.ble_eq,nbeq,cellsI_len,hcl2,hL2l,List.length_append,List.length_cons,List.length_nil,Int.toNat_natCast,and_true,true_and,Bool.or_eq_true,Bool.not_eq_true',bne_iff_ne,ne_eq];done) | (simp only[Bool.and_eq_true,Bool.and_true,Bool.true_and,decide_eq_true_eq,blt_iff,Nat.ble_eq,nbeq,cellsI_len,hcl2,hL2l,List.length_append,List.length_cons,List.length_nil,Int.toNat_natCast,and_true,true_and,Bool.or_eq_true,Bool.not_eq_true',bne_iff_ne,ne_eq];omega) | rfl | (simp;done) | (simp;omega)) (ckI (by first | (simp only[Bool.and_eq_true,Bool.and_true,Bool.true_and,decide_eq_true_eq,blt_iff,Nat.ble_eq,nbeq,cellsI_len,hcl2,hL2l,List.length_append,List.length_cons,List.length_nil,Int.toNat_natCast,and_true,true_and,Bool.or_eq_true,Bool.not_eq_true',bne_iff_ne,ne_eq];done) | (simp only[Bool.and_eq_true,Bool.and_true,Bool.true_and,decide_eq_true_eq,blt_iff,Nat.ble_eq,nbeq,cellsI_len,hcl2,hL2l,List.length_append,List.length_cons,List.length_nil,Int.toNat_natCast,and_true,true_and,Bool.or_eq_true,Bool.not_eq_true',bne_iff_ne,ne_eq];omega) | rfl | (simp;done) | (simp;omega)) (wrapI (by omega) (by omega) ?_))
   rw[stU (j:=at_+1) (by omega) (by omega),c2]
   refine ⟨⟨trivial,by trivial⟩,(i+1,limM (leNM (s.take (i+1)))),⟨hi,rfl⟩, ?_,by simp⟩
   show s.length-(i+1)<s.length-i
   omega
  ·have c2:=hB (by omega)
   rw[←hL2,Nat.mod_eq_of_lt (show x<67108864 by omega),c2]
   refine wrapI (by omega) (by omega) ⟨⟨trivial,by trivial⟩,(i+1,limM (leNM (s.take (i+1)))),⟨hi,rfl⟩, ?_,by simp⟩
   show s.length-(i+1)<s.length-i
   omega
 ·obtain rfl:i=s.length:=by omega
  rw[List.take_length] at g2
  rw[←g2] at hq
  clear g2
  have hcl:(cellsUM L).length=5:=by rw[cellsU_len,hLl]
  have ht:List.take 5 (List.drop 0 (cellsUM L))=cellsUM L:=by rw[List.drop_zero,List.take_of_length_le (by omega)]
  rw[ht,setRange_full _ _ (by rw[hcl];simp),ht]
  refine ckI (by rw[hcl];rfl) (ckI (by rw[hcl,oneL_U];rfl) (ckI (by rw[hcl];rfl) ⟨?_,hq⟩))
  rw[old,oldL_U];rfl
end Go.Proofs.YtjenieljapmehaaGreatDoor.Rc

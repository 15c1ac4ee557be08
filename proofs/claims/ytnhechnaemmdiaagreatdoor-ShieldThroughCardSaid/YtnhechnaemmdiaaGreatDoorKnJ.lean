/-
  Chapters 3 and 4: the contract of Apply; numbers in limbs.
-/
import Derived.Test.YtnhechnaemmdiaaGreatDoorKnI
set_option linter.unusedSimpArgs false
set_option linter.unusedVariables false
namespace Go.Proofs.YtnhechnaemmdiaaGreatDoor
open Go.RowKit
set_option maxRecDepth 1000000

def gV (key nonce:List UInt8) (c:Int) (s:List UInt8):List UInt8×Int:=
 if rightM key nonce c=false then ([],2) else if 4096<s.length then ([],3) else if 4294967296<c+((s.length:Int)+63)/64 then ([],6) else (jF (dK key nonce) c 70 s,0)
def aBx:Con
 | [.str key,.str nonce,.int .i64 c,.str s],H,K=>∀t e,Lf (gV key nonce c s=(t,e))→K (.ret (.tup [.str t,.int .i64 e])) H
 | _,_,_=>False
theorem qN:aF Tryz.prog gl0 117 aBx:=by
 refine aP (enters_of (by kernel_rfl)) aM fun args H Q hc => ?_
 unfold aBx at hc
 split at hc
 ·rename_i key nonce c s
  obtain ⟨hv,hb',h⟩:=aLm key nonce c s _ rfl (Q:=fun o H' _=>H'=[]∧(∃v,o=.ret v∧old 0 v=true∧noY v=true)∧Q o H)
   (fun h1=>⟨rfl,⟨_,rfl,rfl,rfl⟩,hc _ _ ⟨by rw[gV,if_pos h1]⟩⟩)
   (fun h1 h2=>⟨rfl,⟨_,rfl,rfl,rfl⟩,hc _ _ ⟨by rw[gV,if_neg (by simp[h1]),if_pos h2]⟩⟩)
   (fun h1 h2 h3=>⟨rfl,⟨_,rfl,rfl,rfl⟩,hc _ _ ⟨by rw[gV,if_neg (by simp[h1]),if_neg (by omega),if_pos h3]⟩⟩)
   (fun h1 h2 h3=>⟨rfl,⟨_,rfl,rfl,rfl⟩,hc _ _ ⟨by rw[gV,if_neg (by simp[h1]),if_neg (by omega),if_neg (by omega)]⟩⟩)
  exact ⟨rfl,rfl,_,1000,aT bGv _ _ _,rfl,h⟩
 ·exact hc.elim

def gH:List UInt8→Nat
 | []=>0
 | b::l=>b.toNat+256*gH l
def kI (n:Nat):List Nat:=[n%67108864,n/67108864%67108864,n/4503599627370496%67108864,n/302231454903657293676544%67108864,n/20282409603651670423947251286016%67108864]
def bM (l:List Nat):List AV:=l.map fun (n:Nat)=>AV.int .u64 (n:Int)
theorem aSw {a b:Nat} (k:Nat) (h:a<2^k) (hb:b%2^k=0):a ||| b=a+b:=by
 obtain ⟨q,rfl⟩:=Nat.dvd_of_mod_eq_zero hb
 have:=bR5 h q
 rw[Nat.or_comm,←this,Nat.add_comm]
theorem aN4 (i:Nat) (hi:i<17) (N c:Nat) (hN:N<2^(8*i)) (hc:c<256) (hx:c*2^(8*i%26)<67108864) :
  (kI N).set (8*i/26) ((kI N).getD (8*i/26) 0 ||| c*2^(8*i%26))=kI (N+c*2^(8*i)):=by
 have h17:i=0∨i=1∨i=2∨i=3∨i=4∨i=5∨i=6∨i=7∨i=8∨i=9∨i=10∨i=11∨i=12∨i=13∨i=14∨i=15∨i=16:=by omega
 rcases h17 with rfl | rfl | rfl | rfl | rfl | rfl | rfl | rfl | rfl | rfl | rfl | rfl | rfl | rfl | rfl | rfl | rfl <;>
 ·rw[aSw (8*_%26) (by simp only[kI,Nat.reduceMul,Nat.reduceDiv,Nat.reduceMod,Nat.reducePow,bQt,bQu] at hN ⊢;omega) (bRs _ _)]
  simp only[kI,Nat.reduceMul,Nat.reduceDiv,Nat.reduceMod,Nat.reducePow,bTj,bRx,bQt,bQu] at hN hx ⊢
  simp only[bP6,bOo]
  refine ⟨?_, ?_, ?_, ?_, ?_⟩<;>omega
theorem aWh (i:Nat) (hi:i<17) (N:Nat) (hN:N<2^(8*i)):(kI N).getD (8*i/26) 0<2^(8*i%26):=by
 have h17:i=0∨i=1∨i=2∨i=3∨i=4∨i=5∨i=6∨i=7∨i=8∨i=9∨i=10∨i=11∨i=12∨i=13∨i=14∨i=15∨i=16:=by omega
 rcases h17 with rfl | rfl | rfl | rfl | rfl | rfl | rfl | rfl | rfl | rfl | rfl | rfl | rfl | rfl | rfl | rfl | rfl <;>
 (simp only[kI,Nat.reduceMul,Nat.reduceDiv,Nat.reduceMod,Nat.reducePow,bQt,bQu] at hN ⊢;omega)
theorem bG6 (i c:Nat):c*2^(8*i%26)%67108864%2^(8*i%26)=0:=by
 have hd:2^(8*i%26) ∣ 67108864:=Nat.pow_dvd_pow (n:=26) 2 (by omega)
 rw[Nat.mod_mod_of_dvd _ hd,bRs]
theorem aOt (i:Nat) (hi:i<17) (N c:Nat) (hN:N<2^(8*i)) (hc:c<256) (hx:67108864≤c*2^(8*i%26)) (hb:N+c*2^(8*i)<1361129467683753853853498429727072845824) :
  8*i/26+1<5∧(((kI N).set (8*i/26) ((kI N).getD (8*i/26) 0 ||| c*2^(8*i%26)%67108864)).set (8*i/26+1) (((kI N).set (8*i/26) ((kI N).getD (8*i/26) 0 ||| c*2^(8*i%26)%67108864)).getD (8*i/26+1) 0 ||| c*2^(8*i%26)/67108864))=kI (N+c*2^(8*i)):=by
 rw[aSw (8*i%26) (aWh i hi N hN) (bG6 i c)]
 have h17:i=0∨i=1∨i=2∨i=3∨i=4∨i=5∨i=6∨i=7∨i=8∨i=9∨i=10∨i=11∨i=12∨i=13∨i=14∨i=15∨i=16:=by omega
 rcases h17 with rfl | rfl | rfl | rfl | rfl | rfl | rfl | rfl | rfl | rfl | rfl | rfl | rfl | rfl | rfl | rfl | rfl <;>
 first
 | (exfalso;simp only[Nat.reduceMul,Nat.reduceMod,Nat.reducePow] at hx hb;omega)
 | (refine ⟨by simp, ?_⟩
    simp only[kI,Nat.reduceMul,Nat.reduceAdd,Nat.reduceDiv,Nat.reduceMod,Nat.reducePow,bTj,bRx,bQt,bQu] at hN hx hb ⊢
    rw[aSw 0 (b:=_/67108864) (by omega) (Nat.mod_one _)]
    simp only[bP6,bOo]
    refine ⟨?_, ?_, ?_, ?_, ?_⟩<;>omega)
def bHv:List AV:=[.int .u64 0,.int .u64 0,.int .u64 0,.int .u64 0,.int .u64 0]
def aKh (t:Nat) (s:List UInt8):LInv where
 α:=Nat×List Nat
 pre p:=Lf (p.1≤s.length∧p.2=kI (gH (s.take p.1)))
 st p:=⟨mkT [(2,.ptr 0 5 0),(3,.ptr 1 5 0),(9,.lst t (ofBytes s) s.length 1),(10,.int .i64 s.length),(11,.int .i64 (p.1:Nat))],[⟨.exact,true,bHv⟩,⟨.exact,true,bM p.2⟩]⟩
 mu p:=s.length-p.1
noncomputable def aWa (hv:Nat→Option Pa) (hb:Nat→Option Bool) (t:Nat) (s:List UInt8):Env:=e04 sm0 (fun i=>bif Nat.beq i 211000 then some (fun _=>[[aKh t s]]) else none) hv hb
noncomputable def aEn (hv:Nat→Option Pa) (hb:Nat→Option Bool) (t:Nat) (s:List UInt8) (Q:Out→List Blk→Gh→Prop):Prop:=
 aY (aWa hv hb t s) (wpx (aWa hv hb t s) 1000) 211 [.lst t (ofBytes s) s.length 1] [] {} Q
abbrev bEa (x_1:Nat×List Nat) (s:List UInt8):Prop:=Lf (x_1.1≤s.length∧x_1.2=kI (gH (s.take x_1.1)))
abbrev bGh:List AV:=[.int .u64 0,.int .u64 0,.int .u64 0,.int .u64 0,.int .u64 0]
abbrev bD6 (n_4:Int):Bool:=decide (0≤n_4)&&Nat.blt n_4.toNat 5
abbrev bCo (x_1:Nat×List Nat):Bool:=Nat.beq (bM x_1.2).length 5
abbrev aWp (n_4:Int):Nat:=0+n_4.toNat*1
abbrev bC0 (n_8:Int):Nat:=(n_8%18446744073709551616).toNat
abbrev aWj (x_1:Nat×List Nat) (n_4 n_11:Int):List AV:=aO (bM x_1.2) (0+n_4.toNat*1) [.int .u64 n_11]
abbrev bJz (n_16:Int) (y_17:Nat×List Nat) (t:Nat) (s:List UInt8):Prop:=aJ (AV.ptr 1 5 0)∧AV.int .i64 n_16=AV.int .i64 (y_17.1:Int)∧aJ (AV.lst t (ofBytes s) s.length 1)∧aJ (AV.ptr 0 5 0)∧aJ (AV.int .i64 (s.length:Int))∧True
abbrev bIh (x_1:Nat×List Nat):List AV:=aO [.int .u64 0,.int .u64 0,.int .u64 0,.int .u64 0,.int .u64 0] 0 (((bM x_1.2).drop 0).take 5)
theorem bKj (t:Nat) (s:List UInt8) (Q:Out→List Blk→Gh→Prop):aEn (bD [(864266,.int .i64),(864271,.int .u8),(864273,.int .i64),(864274,.int .i64),(864276,.int .i64),(864277,.int .i64),(864279,.int .u64),
 (864281,.int .u64),(864284,.int .u64),(864286,.int .u64),(864287,.int .u64),(864292,.int .i64),(864294,.int .u64),(864296,.int .u64),(864297,.int .u64),(864299,.int .i64)]) (bE [(868350,true)]) t s Q=(exI .i64
 (s.length:Int) (fun n_0=>(∃x_1:Nat×List Nat,bEa x_1 s∧aJ bGh∧bGh=bM x_1.2∧aJ (AV.ptr 1 5 0)∧AV.int .i64 0=AV.int .i64 (x_1.1:Int)∧aJ (AV.lst t (ofBytes s) s.length 1)∧aJ (AV.ptr 0 5 0)∧AV.int
 .i64 n_0=AV.int .i64 (s.length:Int)∧True)∧∀x_1:Nat×List Nat,bEa x_1 s→bif decide ((x_1.1:Int)<(s.length:Int)) then ckQ (Nat.blt (x_1.1:Int).toNat s.length&&true) (ckQ (Nat.blt ((x_1.1:Int).toNat*1) (ofBytes
 s).length) (exV .u8 ((ofBytes s).getD ((x_1.1:Int).toNat*1) AV.undef) (fun n_2=>exW .i64 (8*(x_1.1:Int)) (fun n_3=>exW .i64 (n_3.tdiv 26) (fun n_4=>exW .i64 (8*(x_1.1:Int)) (fun n_5=>exI .i64 (n_5.tmod 26) (fun n_6=>
 exW .u64 n_2 (fun n_7=>ckQ (decide (0≤n_6)&&true) (exW .u64 (n_7*(2:Int)^Min.min n_6.toNat 64) (fun n_8=>ckQ (bD6 n_4&&bCo x_1) (ckQ (bCo x_1&&Nat.blt (aWp n_4) 5) (exV .u64 ((((bM x_1.2).drop (aWp n_4)).take
 1).getD 0 AV.undef) (fun n_9=>exW .u64 ((bC0 n_8 &&& 67108863:Nat):Int) (fun n_10=>exW .u64 ((bC0 n_9 ||| bC0 n_10:Nat):Int) (fun n_11=>ckQ (bD6 n_4&&bCo x_1) (ckQ (bCo x_1&&Nat.ble (aWp n_4+1) 5&&true&&true
 && true) (bif decide (n_8≥67108864) then exW .i64 (n_4+1) (fun n_12=>ckQ (bD6 n_12&&Nat.beq (aWj x_1 n_4 n_11).length 5) (ckQ (Nat.beq (aWj x_1 n_4 n_11).length 5&&Nat.blt (aWp n_12) 5) (exV .u64 ((((aWj x_1 n_4 n_11).drop
 (aWp n_12)).take 1).getD 0 AV.undef) (fun n_13=>exI .u64 (Int.fdiv n_8 67108864) (fun n_14=>exW .u64 ((bC0 n_13 ||| bC0 n_14:Nat):Int) (fun n_15=>ckQ (bD6 n_12&&Nat.beq (aWj x_1 n_4 n_11).length 5) (ckQ (Nat.beq (aWj x_1
 n_4 n_11).length 5&&Nat.ble (aWp n_12+1) 5&&true&&true&&true) (exW .i64 ((x_1.1:Int)+1) (fun n_16=>(True∧(0:Nat)=(0:Nat))∧∃y_17:Nat×List Nat,bEa y_17 s∧s.length-y_17.1<s.length-x_1.1∧aJ bGh ∧
 aO (aWj x_1 n_4 n_11) (aWp n_12) [.int .u64 n_15]=bM y_17.2∧bJz n_16 y_17 t s))))))))) else exW .i64 ((x_1.1:Int)+1) (fun n_12=>(True∧(0:Nat)=(0:Nat))∧∃y_13:Nat×List Nat,bEa y_13 s∧s.length -
 y_13.1<s.length-x_1.1∧aJ bGh∧aWj x_1 n_4 n_11=bM y_13.2∧bJz n_12 y_13 t s)))))))))))))))))) else ckQ (bCo x_1&&true) (ckQ (Nat.beq (((bM x_1.2).drop 0).take 5).length 5&&fJ (((bM x_1.2).drop 0).take
 5)&&true) (ckQ (Nat.beq (bIh x_1).length 5&&true) ((old 0 (.agg (((bIh x_1).drop 0).take 5))&&true)=true∧Q (.ret (.agg (((bIh x_1).drop 0).take 5))) [] {}))))):=by kernel_rfl


theorem kJ {α:Type} (l:List α) (d:α) {i:Nat} (h:i<l.length):l.take (i+1)=l.take i++[l.getD i d]:=by
 rw[bP9,bOq h]
 simp[h]
theorem aGg (l:List UInt8) (b:UInt8):gH (l++[b])=gH l+b.toNat*2^(8*l.length):=by
 induction l with
 | nil=>simp[gH]
 | cons x l ih=>
  simp only[bPh,gH,ih,bOb]
  rw[bTb,bTb 8,Nat.pow_add,Nat.mul_left_comm 256,show (2^(8*1):Nat)=256 from rfl,bSl (2^(8*l.length)) 256,bPv]
theorem aBd (l:List UInt8):gH l<2^(8*l.length):=by
 induction l with
 | nil=>simp[gH]
 | cons x l ih=>
  simp only[gH,bOb]
  have:=x.toNat_lt
  rw[bTb,Nat.pow_add,show (2^(8*1):Nat)=256 from rfl]
  omega
theorem aS8 {s:List UInt8} {i:Nat} (h:i<s.length):gH (s.take (i+1))=gH (s.take i)+(s.getD i 0).toNat*2^(8*i):=by
 rw[kJ s 0 h,aGg,bOu,bP1 (by omega)]
theorem getB {s:List UInt8} {i j:Nat} (hi:i<s.length) (hj:j=i) {K:Int→Prop} (hk:K ((s.getD i 0).toNat:Int)):∃n:Int,(ofBytes s).getD j AV.undef=AV.int .u8 n∧K n:=by
 subst hj
 refine ⟨_, ?_,hk⟩
 simp[ofBytes,hi]
theorem nZ (l:List Nat):(bM l).length=l.length:=by simp[bM]
theorem ldU {l:List Nat} {j m:Nat} (hj:j<l.length) (hm:m=j) {K:Int→Prop} (hk:K ((l.getD j 0:Nat):Int)):∃n:Int,(List.take 1 (List.drop m (bM l))).getD 0 AV.undef=AV.int .u64 n∧K n:=by
 subst hm
 refine ⟨_, ?_,hk⟩
 rw[bOs,bO9,if_pos (by omega),bPr,bM,bRm,bQb,bOq hj]
 simp[hj]
theorem stU {L:List Nat} {j m x:Nat} (hj:j<L.length) (hm:m=j):aO (bM L) m [AV.int .u64 (x:Int)]=bM (L.set j x):=by
 subst hm
 rw[bSr,if_pos hj]
 simp[aO,bM]
theorem lI {x:Nat} (h:x<18446744073709551616) {K:Int→Prop} (hk:K (x:Int)) {y:Int} (hy:y=(x:Int)):∃n:Int,AV.int .u64 (IntKind.wrap .u64 y)=AV.int .u64 n∧K n:=by
 subst hy
 refine ⟨_, ?_,hk⟩
 rw[show IntKind.wrap .u64 (x:Int)=(x:Int)%18446744073709551616 from rfl]
 congr 1
 omega
theorem zP {x:Nat} (h:x<18446744073709551616):((x:Int)%18446744073709551616).toNat=x:=by omega

theorem bG2 (l:List Nat):fJ (bM l)=true:=by
 induction l with
 | nil=>rfl
 | cons x l ih=>simpa [bM,fJ,one] using ih
theorem aVm (l:List Nat):aL 0 (bM l)=true:=by
 induction l with
 | nil=>rfl
 | cons x l ih=>simpa [bM,aL,old] using ih
theorem bKw (l:List Nat):bG (bM l)=true:=by
 induction l with
 | nil=>rfl
 | cons x l ih=>simpa [bM,bG,noY] using ih
theorem bF8 (n j:Nat):(kI n).getD j 0<67108864:=by
 match j with
 | 0=>simp[kI];omega
 | 1=>simp[kI];omega
 | 2=>simp[kI];omega
 | 3=>simp[kI];omega
 | 4=>simp[kI];omega
 | j+5=>simp[kI]
theorem aXu (a b:List UInt8):gH (a++b)=gH a+gH b*2^(8*a.length):=by
 induction a with
 | nil=>simp[gH]
 | cons x l ih=>
  simp only[bPh,gH,ih,bOb]
  rw[bTb,bTb 8,Nat.pow_add,Nat.mul_left_comm 256,show (2^(8*1):Nat)=256 from rfl,bSl (2^(8*l.length)) 256,bPv]
theorem aRr (s:List UInt8) {i:Nat} (_:i≤s.length):gH (s.take i)≤gH s:=by
 conv=>rhs;rw[←bPe i s]
 rw[aXu]
 omega

theorem aIt (t:Nat) (s:List UInt8) (Q:Out→List Blk→Gh→Prop) (hl:s.length≤17) (hb:gH s<1361129467683753853853498429727072845824) (hq:Q (.ret (.agg (bM (kI (gH s))))) [] {}):∃hv hb,aEn hv hb t s Q:=by
 obtain ⟨hv,hb',e⟩:∃hv hb,aEn hv hb t s Q=_:=⟨_,_,bKj t s Q⟩
 refine ⟨hv,hb',e.mpr ?_⟩
 delta bEa bGh bD6 bCo aWp bC0 aWj bJz bIh
 clear e
 refine ⟨_,rfl,⟨(0,kI 0),⟨by simp,by simp[gH]⟩,by simp[bM,kI]⟩, ?_⟩
 rintro ⟨i,L⟩ ⟨g1,g2⟩
 dsimp only at *
 have hLl:L.length=5:=by rw[g2];rfl
 refine aD (fun hlt => ?_) (fun hge => ?_)
 ·have hi:i<s.length:=by omega
  have hN:=aBd (s.take i)
  rw[bOu,bP1 (by omega)] at hN
  have hstep:=aS8 hi
  have hc:=(s.getD i 0).toNat_lt
  have hcl:=nZ L
  refine ckI (by first | (simp only[bN9,bOh,bOg,bOc,aC,bOi,aN,aA,bN8,bOb,bOe,bOa,bOo,bOp,bOf,bOd,bOj,ne_eq];done) | (simp only[bN9,bOh,bOg,bOc,aC,bOi,aN,aA,bN8,bOb,bOe,bOa,bOo,bOp,bOf,bOd,bOj,ne_eq];omega) | rfl | (simp;done) | (simp;omega)) (ckI (by first | (simp only[bN9,bOh,bOg,bOc,aC,bOi,aN,aA,aH,bN8,bOb,bOe,bOa,bOo,bOp,bOf,bOd,bOj,ne_eq];done) | (simp only[bN9,bOh,bOg,bOc,aC,bOi,aN,aA,aH,bN8,bOb,bOe,bOa,bOo,bOp,bOf,bOd,bOj,ne_eq];omega) | rfl | (simp;done) | (simp;omega)) (getB hi (by omega) ?_))
  generalize (s.getD i 0).toNat=c at *
  have h1:(8*(i:Int)).tdiv 26=((8*i/26:Nat):Int):=by rw[Int.tdiv_eq_ediv_of_nonneg (by omega)];omega
  have h2:(8*(i:Int)).tmod 26=((8*i%26:Nat):Int):=by rw[bPz (by omega)];omega
  have hA:=aWh i (by omega) _ hN
  rw[←g2] at hA
  have hB:=aN4 i (by omega) (gH (s.take i)) c hN hc
  have hC:=aOt i (by omega) (gH (s.take i)) c hN hc
  have hle:=aRr s (show i+1≤s.length by omega)
  rw[←g2,←hstep] at hB hC
  have hsh:8*i%26<26:=bRc _ (by omega)
  have hp2:2^(8*i%26)≤33554432:=bR9 (n:=2) (j:=25) (by omega) (by omega)
  have hat:8*i/26<5:=by omega
  refine aI (by omega) (by omega) ?_
  rw[h1]
  refine aI (by omega) (by omega) (aI (by omega) (by omega) ⟨_,rfl, ?_⟩)
  rw[h2]
  generalize 8*i%26=sh at *
  generalize 8*i/26=at_ at *
  refine lI (x:=c) (by omega) ?_ rfl
  refine ckI (by first | (simp only[bN9,bOh,bOg,bOc,aC,bOi,aN,aA,bN8,bOb,bOe,bOa,bOo,bOp,bOf,bOd,bOj,ne_eq];done) | (simp only[bN9,bOh,bOg,bOc,aC,bOi,aN,aA,bN8,bOb,bOe,bOa,bOo,bOp,bOf,bOd,bOj,ne_eq];omega) | rfl | (simp;done) | (simp;omega)) ?_
  have hx34:c*2^sh≤255*33554432:=bSx (by omega) hp2
  have hp:(c:Int)*2^min ((sh:Nat):Int).toNat 64=((c*2^sh:Nat):Int):=by
   rw[bOa,bP1 (by omega)]
   simp
  refine lI (x:=c*2^sh) (by omega) ?_ hp
  generalize c*2^sh=x at *
  refine ckI (by first | (simp only[bN9,bOh,bOg,bOc,aC,bOi,aN,aA,hcl,hLl,bN8,bOb,bOe,bOa,bOo,bOp,bOf,bOd,bOj,ne_eq];done) | (simp only[bN9,bOh,bOg,bOc,aC,bOi,aN,aA,hcl,hLl,bN8,bOb,bOe,bOa,bOo,bOp,bOf,bOd,bOj,ne_eq];omega) | rfl | (simp;done) | (simp;omega)) (ckI (by first | (simp only[bN9,bOh,bOg,bOc,aC,bOi,aN,aA,hcl,hLl,bN8,bOb,bOe,bOa,bOo,bOp,bOf,bOd,bOj,ne_eq];done) | (simp only[bN9,bOh,bOg,bOc,aC,bOi,aN,aA,hcl,hLl,bN8,bOb,bOe,bOa,bOo,bOp,bOf,bOd,bOj,ne_eq];omega) | rfl | (simp;done) | (simp;omega)) (ldU (j:=at_) (by omega) (by omega) ?_))
  have hm:∀y:Nat,y &&& 67108863=y%67108864:=fun y=>bQp y 26
  refine lI (x:=x%67108864) (by omega) ?_ (by rw[zP (by omega),hm])
  generalize L.getD at_ 0=a at *
  have ha:a<67108864:=by omega
  have hor:a ||| x%67108864<67108864:=bQa (n:=26) ha (bRc _ (by omega))
  refine lI (x:=a ||| x%67108864) (by omega) ?_ (by rw[zP (by omega),zP (by omega)])
  refine ckI (by first | (simp only[bN9,bOh,bOg,bOc,aC,bOi,aN,aA,hcl,hLl,bN8,bOb,bOe,bOa,bOo,bOp,bOf,bOd,bOj,ne_eq];done) | (simp only[bN9,bOh,bOg,bOc,aC,bOi,aN,aA,hcl,hLl,bN8,bOb,bOe,bOa,bOo,bOp,bOf,bOd,bOj,ne_eq];omega) | rfl | (simp;done) | (simp;omega)) (ckI (by first | (simp only[bN9,bOh,bOg,bOc,aC,bOi,aN,aA,hcl,hLl,bN8,bOb,bOe,bOa,bOo,bOp,bOf,bOd,bOj,ne_eq];done) | (simp only[bN9,bOh,bOg,bOc,aC,bOi,aN,aA,hcl,hLl,bN8,bOb,bOe,bOa,bOo,bOp,bOf,bOd,bOj,ne_eq];omega) | rfl | (simp;done) | (simp;omega)) ?_)
  rw[stU (j:=at_) (by omega) (by omega)]
  generalize hL2:L.set at_ (a ||| x%67108864)=L2 at *
  have hL2l:L2.length=5:=by rw[←hL2,bS9,hLl]
  have hcl2:=nZ L2
  refine aD (fun hge => ?_) (fun hlt2 => ?_)
  ·obtain ⟨c1,c2⟩:=hC (by omega) (by omega)
   have ha2:L2.getD (at_+1) 0<67108864:=by
    rw[←hL2]
    have:(L.set at_ (a ||| x%67108864)).getD (at_+1) 0=L.getD (at_+1) 0:=by
     simp only[bOs]
     rw[bP8 (by omega)]
    rw[this,g2]
    exact bF8 _ _
   have hor2:L2.getD (at_+1) 0 ||| x/67108864<67108864:=bQa (n:=26) ha2 (by omega)
   have hf:Int.fdiv (x:Int) 67108864=((x/67108864:Nat):Int):=aE6 x 67108864 67108864 rfl
   refine aI (by omega) (by omega) (ckI (by first | (simp only[bN9,bOh,bOg,bOc,aC,bOi,aN,aA,hcl2,hL2l,bN8,bOb,bOe,bOa,bOo,bOp,bOf,bOd,bOj,ne_eq];done) | (simp only[bN9,bOh,bOg,bOc,aC,bOi,aN,aA,hcl2,hL2l,bN8,bOb,bOe,bOa,bOo,bOp,bOf,bOd,bOj,ne_eq];omega) | rfl | (simp;done) | (simp;omega)) (ckI (by first | (simp only[bN9,bOh,bOg,bOc,aC,bOi,aN,aA,hcl2,hL2l,bN8,bOb,bOe,bOa,bOo,bOp,bOf,bOd,bOj,ne_eq];done) | (simp only[bN9,bOh,bOg,bOc,aC,bOi,aN,aA,hcl2,hL2l,bN8,bOb,bOe,bOa,bOo,bOp,bOf,bOd,bOj,ne_eq];omega) | rfl | (simp;done) | (simp;omega)) (ldU (j:=at_+1) (by omega) (by omega) ?_)))
   rw[hf]
   refine ⟨_,rfl,lI (x:=L2.getD (at_+1) 0 ||| x/67108864) (by omega) ?_ (by rw[zP (by omega),zP (by omega)])⟩
   refine ckI (by first | (simp only[bN9,bOh,bOg,bOc,aC,bOi,aN,aA,hcl2,hL2l,bN8,bOb,bOe,bOa,bOo,bOp,bOf,bOd,bOj,ne_eq];done) | (simp only[bN9,bOh,bOg,bOc,aC,bOi,aN,aA,hcl2,hL2l,bN8,bOb,bOe,bOa,bOo,bOp,bOf,bOd,bOj,ne_eq];omega) | rfl | (simp;done) | (simp;omega)) (ckI (by first | (simp only[bN9,bOh,bOg,bOc,aC,bOi,aN,aA,hcl2,hL2l,bN8,bOb,bOe,bOa,bOo,bOp,bOf,bOd,bOj,ne_eq];done) | (simp only[bN9,bOh,bOg,bOc,aC,bOi,aN,aA,hcl2,hL2l,bN8,bOb,bOe,bOa,bOo,bOp,bOf,bOd,bOj,ne_eq];omega) | rfl | (simp;done) | (simp;omega)) (aI (by omega) (by omega) ?_))
   rw[stU (j:=at_+1) (by omega) (by omega),c2]
   refine ⟨⟨trivial,by trivial⟩,(i+1,kI (gH (s.take (i+1)))),⟨hi,rfl⟩, ?_,by simp⟩
   show s.length-(i+1)<s.length-i
   omega
  ·have c2:=hB (by omega)
   rw[←hL2,bPw (show x<67108864 by omega),c2]
   refine aI (by omega) (by omega) ⟨⟨trivial,by trivial⟩,(i+1,kI (gH (s.take (i+1)))),⟨hi,rfl⟩, ?_,by simp⟩
   show s.length-(i+1)<s.length-i
   omega
 ·obtain rfl:i=s.length:=by omega
  rw[bPy] at g2
  rw[←g2] at hq
  clear g2
  have hcl:(bM L).length=5:=by rw[nZ,hLl]
  have ht:List.take 5 (List.drop 0 (bM L))=bM L:=by rw[bOv,bOk (by omega)]
  rw[ht,jA _ _ (by rw[hcl];simp),ht]
  refine ckI (by rw[hcl];rfl) (ckI (by rw[hcl,bG2];rfl) (ckI (by rw[hcl];rfl) ⟨?_,hq⟩))
  rw[old,aVm];rfl
def xS:Con
 | [.lst _ l n 1],H,K=>∃s:List UInt8,Lf (l=ofBytes s∧n=s.length∧s.length≤17∧gH s<1361129467683753853853498429727072845824)∧∀a b c d e:Nat,Lf (kI (gH s)=[a,b,c,d,e])→K (.ret (.agg [.int .u64 a,.int .u64 b,.int .u64 c,.int .u64 d,.int .u64 e])) H
 | _,_,_=>False
theorem aJo:aF Tryz.prog gl0 211 xS:=by
 refine aP (enters_of (by kernel_rfl)) aM fun args H Q hc => ?_
 unfold xS at hc
 split at hc
 ·rename_i t l n
  obtain ⟨s,⟨rfl,rfl,h1,h2⟩,hq⟩:=hc
  obtain ⟨hv,hb',h⟩:=aIt t s (Q:=fun o H' _=>H'=[]∧(∃v,o=.ret v∧old 0 v=true∧noY v=true)∧Q o H) h1 h2 ⟨rfl,⟨_,rfl,by rw[old,aVm],by rw[noY,bKw]⟩,hq _ _ _ _ _ ⟨rfl⟩⟩
  exact ⟨rfl,rfl,_,1000,aT bT _ _ _,rfl,h⟩
 ·exact hc.elim
def aG6:Con:=fun args H Q=>sK [1] H args fun a=>xS a H Q
theorem aNr:aF Tryz.prog gl0 211 aG6:=eT aJo aM [1] fun args H Q hc=>by
 unfold xS at hc
 split at hc
 ·obtain ⟨s,h,hq⟩:=hc
  exact ⟨s,h,fun a b c d e he=>⟨rfl,⟨_,rfl,rfl⟩,hq a b c d e he⟩⟩
 ·exact hc.elim
def smG:SM:=dV [(211,aG6)]
theorem aNx:∀f g,smG f=some g→aF Tryz.prog gl0 f g:=bF _ (by simp only[bOr,bOx,bP3,bQe];exact aNr)

def pM:Nat:=1361129467683753853853498429727072845819
def qY (r:Nat):Nat→Nat→List UInt8→Nat
 | 0,h,_=>h
 | f+1,h,q=>if q=[] then h else qY r f ((h+gH (q.take 16++[1]))*r%pM) (q.drop 16)
def iP (a b c d e:Nat):Nat:=a+b*67108864+c*4503599627370496+d*302231454903657293676544+e*20282409603651670423947251286016
abbrev X75:=List UInt8×Nat×Nat×Nat×Nat×Nat×Nat
def bGu (rb s:List UInt8) (r0 r1 r2 r3 r4:Nat):LInv where
 α:=X75
 pre p:=Lf (p.1.length≤p.2.1∧p.2.1≤s.length∧p.2.2.1≤67108864∧p.2.2.2.1≤67108864∧p.2.2.2.2.1≤67108864∧p.2.2.2.2.2.1≤67108864∧p.2.2.2.2.2.2≤67108864∧qY (gH rb) p.2.1 (iP p.2.2.1 p.2.2.2.1 p.2.2.2.2.1 p.2.2.2.2.2.1 p.2.2.2.2.2.2%pM) p.1=qY (gH rb) s.length 0 s)
 st p:=⟨mkT [(0,.yld 0),(1,.ptr 2 1 0)],[⟨.grow,true,ofBytes rb⟩,⟨.exact,true,[.int .u64 (p.2.2.1:Nat),.int .u64 (p.2.2.2.1:Nat),.int .u64 (p.2.2.2.2.1:Nat),.int .u64 (p.2.2.2.2.2.1:Nat),.int .u64 (p.2.2.2.2.2.2:Nat),.int .u64 (r0:Nat),.int .u64 (r1:Nat),.int .u64 (r2:Nat),.int .u64 (r3:Nat),.int .u64 (r4:Nat)]⟩,⟨.exact,true,[.str p.1]⟩]⟩
 mu p:=p.2.1
noncomputable def aVj (hv:Nat→Option Pa) (hb:Nat→Option Bool) (rb s:List UInt8) (r0 r1 r2 r3 r4:Nat):Env:=
 e04 smG (fun i=>bif Nat.beq i 230000 then some (fun _=>[[bGu rb s r0 r1 r2 r3 r4]]) else none) hv hb
noncomputable def aD8 (hv:Nat→Option Pa) (hb:Nat→Option Bool) (rb:List UInt8) (r0 r1 r2 r3 r4:Nat) (key s:List UInt8) (Q:Out→List Blk→Gh→Prop):Prop:=
 aY (aVj hv hb rb s r0 r1 r2 r3 r4) (wpx (aVj hv hb rb s r0 r1 r2 r3 r4) 1000) 166 [.str key,.str s] [] {} Q
abbrev aBn (s_0:List UInt8):Bool:=Nat.beq (ofBytes s_0).length s_0.length
abbrev aNt (n_1:Int):Int:=(((n_1%256).toNat &&& 15:Nat):Int)
abbrev aAu (s_0:List UInt8):Bool:=aL 0 (ofBytes s_0)&&true
abbrev vG (s_0:List UInt8) (n_2:Int):List AV:=aO (ofBytes s_0) 3 [.int .u8 n_2]
abbrev aZg (s_0:List UInt8) (n_2 n_4:Int):List AV:=aO (vG s_0 n_2) 7 [.int .u8 n_4]
abbrev aX8 (s_0:List UInt8) (n_2 n_4 n_6:Int):List AV:=aO (aO (vG s_0 n_2) 7 [.int .u8 n_4]) 11 [.int .u8 n_6]
abbrev aSu (s_0:List UInt8) (n_2 n_4 n_6 n_8:Int):List AV:=aO (aO (aO (vG s_0 n_2) 7 [.int .u8 n_4]) 11 [.int .u8 n_6]) 15 [.int .u8 n_8]
abbrev aSk (n_9:Int):Int:=(((n_9%256).toNat &&& 252:Nat):Int)
abbrev aIm (s_0:List UInt8):Bool:=aAu s_0&&true&&true&&true&&true
abbrev aDl (s_0:List UInt8) (n_2 n_4 n_6 n_8 n_10:Int):List AV:=aO (aSu s_0 n_2 n_4 n_6 n_8) 4 [.int .u8 n_10]
abbrev aKb (s_0:List UInt8) (n_2 n_4 n_6 n_8 n_10 n_12:Int):List AV:=aO (aO (aSu s_0 n_2 n_4 n_6 n_8) 4 [.int .u8 n_10]) 8 [.int .u8 n_12]
abbrev aO7 (s_15:List UInt8):Prop:=s_15.length≤17∧gH s_15<1361129467683753853853498429727072845824
abbrev bI5 (x_21:List UInt8×Nat×Nat×Nat×Nat×Nat×Nat) (s rb:List UInt8):Prop:=Lf (x_21.1.length≤x_21.2.1∧x_21.2.1≤s.length∧x_21.2.2.1≤67108864∧x_21.2.2.2.1≤67108864∧x_21.2.2.2.2.1≤67108864∧x_21.2.2.2.2.2.1≤67108864∧x_21.2.2.2.2.2.2≤67108864∧qY (gH rb) x_21.2.1 (iP x_21.2.2.1 x_21.2.2.2.1 x_21.2.2.2.2.1 x_21.2.2.2.2.2.1 x_21.2.2.2.2.2.2%pM) x_21.1=qY (gH rb) s.length 0 s)
abbrev iJ (a_16:Nat):AV:=.int .u64 (a_16:Int)
abbrev aYo (x_21:List UInt8×Nat×Nat×Nat×Nat×Nat×Nat) (r0 r1 r2 r3 r4:Nat):List AV:=[.int .u64 (x_21.2.2.1:Int),.int .u64 (x_21.2.2.2.1:Int),.int .u64 (x_21.2.2.2.2.1:Int),.int .u64 (x_21.2.2.2.2.2.1:Int),.int .u64 (x_21.2.2.2.2.2.2:Int),iJ r0,iJ r1,iJ r2,iJ r3,iJ r4]
abbrev bB8:Prop:=aJ (AV.yld 0)∧aJ (AV.ptr 2 1 0)∧True
abbrev aIw (s_25:List UInt8):List AV:=ofBytes s_25++[AV.int .u8 1]
abbrev bAd (s_25:List UInt8):Prop:=((aL 0 (ofBytes s_25)&&true||aL 5 (aIw s_25))&&true)=true
abbrev fD (n_32:Int) (r0:Nat):Int:=n_32*(r0:Int)
abbrev gY (s_25:List UInt8):Prop:=((aAu s_25||aL 6 (aIw s_25))&&true)=true
abbrev aQf (n_88:Int):Nat:=(n_88%18446744073709551616).toNat
abbrev aFq (n_88:Int):Int:=((aQf n_88 &&& 67108863:Nat):Int)
abbrev nL (n_97:Int):Int:=aFq n_97
abbrev aT1 (s_76:List UInt8):Bool:=aL 0 (ofBytes s_76)
abbrev aJp (s_76:List UInt8):Prop:=((aT1 s_76||aL 5 (ofBytes s_76))&&true)=true
abbrev aKe (n_98 n_102:Int):Int:=((aQf n_98 ||| aQf n_102:Nat):Int)
abbrev bMe (s_77:List UInt8) (n_63:Int) (s_76:List UInt8) (n_66 n_69 n_72 n_75:Int) (Q:Out→List Blk→Gh→Prop):Prop:=∀a_78 b_79 c_80 d_81 e_82:Nat,Lf (kI (gH s_77)=[a_78,b_79,c_80,d_81,e_82])→exW .u64 (n_63+(a_78:Int)) (fun n_83=>aJp s_76∧exW .u64 (n_66+(b_79:Int)) (fun n_84=>aJp s_76∧exW .u64 (n_69+(c_80:Int)) (fun n_85=>aJp s_76∧exW .u64 (n_72+(d_81:Int)) (fun n_86=>aJp s_76∧exW .u64 (n_75+(e_82:Int)) (fun n_87=>aJp s_76∧exW .u64 (n_83+0) (fun n_88=>exI .u64 (Int.fdiv n_88 67108864) (fun n_89=>exW .u64 (aFq n_88) (fun n_90=>exW .u64 (n_90*1) (fun n_91=>exW .u64 ((0 ||| aQf n_91:Nat):Int) (fun n_92=>exW .u8 n_92 (fun n_93=>exI .u64 (Int.fdiv n_92 256) (fun n_94=>exW .u8 n_94 (fun n_95=>exI .u64 (Int.fdiv n_94 256) (fun n_96=>exW .u8 n_96 (fun n_97=>exI .u64 (Int.fdiv n_96 256) (fun n_98=>exW .u64 (n_84+n_89) (fun n_99=>exI .u64 (Int.fdiv n_99 67108864) (fun n_100=>exW .u64 (aFq n_99) (fun n_101=>exW .u64 (n_101*4) (fun n_102=>exW .u64 (aKe n_98 n_102) (fun n_103=>exW .u8 n_103 (fun n_104=>exI .u64 (Int.fdiv n_103 256) (fun n_105=>exW .u8 n_105 (fun n_106=>exI .u64 (Int.fdiv n_105 256) (fun n_107=>exW .u8 n_107 (fun n_108=>exI .u64 (Int.fdiv n_107 256) (fun n_109=>exW .u64 (n_85+n_100) (fun n_110=>exI .u64 (Int.fdiv n_110 67108864) (fun n_111=>exW .u64 (aFq n_110) (fun n_112=>exW .u64 (n_112*16) (fun n_113=>exW .u64 (aKe n_109 n_113) (fun n_114=>exW .u8 n_114 (fun n_115=>exI .u64 (Int.fdiv n_114 256) (fun n_116=>exW .u8 n_116 (fun n_117=>exI .u64 (Int.fdiv n_116 256) (fun n_118=>exW .u8 n_118 (fun n_119=>exI .u64 (Int.fdiv n_118 256) (fun n_120=>exW .u64 (n_86+n_111) (fun n_121=>exI .u64 (Int.fdiv n_121 67108864) (fun n_122=>exW .u64 (aFq n_121) (fun n_123=>exW .u64 (n_123*64) (fun n_124=>exW .u64 (aKe n_120 n_124) (fun n_125=>exW .u8 n_125 (fun n_126=>exI .u64 (Int.fdiv n_125 256) (fun n_127=>exW .u8 n_127 (fun n_128=>exI .u64 (Int.fdiv n_127 256) (fun n_129=>exW .u8 n_129 (fun n_130=>exI .u64 (Int.fdiv n_129 256) (fun n_131=>exW .u8 n_131 (fun n_132=>exI .u64 (Int.fdiv n_131 256) (fun n_133=>exW .u64 (n_87+n_122) (fun n_134=>exI .u64 (Int.fdiv n_134 67108864) (fun n_135=>exW .u64 (aFq n_134) (fun n_136=>exW .u64 (n_136*1) (fun n_137=>exW .u64 (aKe n_133 n_137) (fun n_138=>exW .u8 n_138 (fun n_139=>exI .u64 (Int.fdiv n_138 256) (fun n_140=>exW .u8 n_140 (fun n_141=>exI .u64 (Int.fdiv n_140 256) (fun n_142=>exW .u8 n_142 (fun n_143=>exI .u64 (Int.fdiv n_142 256) (fun n_144=>exS (.str [toB (.int .u8 n_93),toB (.int .u8 n_95),toB (.int .u8 n_97),toB (.int .u8 n_104),toB (.int .u8 n_106),toB (.int .u8 n_108),toB (.int .u8 n_115),toB (.int .u8 n_117),toB (.int .u8 n_119),toB (.int .u8 n_126),toB (.int .u8 n_128),toB (.int .u8 n_130),toB (.int .u8 n_132),toB (.int .u8 n_139),toB (.int .u8 n_141),toB (.int .u8 n_143)]) (fun s_145=>Q (.ret (.str s_145)) [] (Gh.mk 0 1 []))))))))))))))))))))))))))))))))))))))))))))))))))))))))))))))))
theorem bL7 (rb:List UInt8) (r0:Nat) (r1:Nat) (r2:Nat) (r3:Nat) (r4:Nat) (key:List UInt8) (s:List UInt8) (Q:Out→List Blk→Gh→Prop):aD8 (bD [(679957,.str),(679966,.int .u8),(679967,.int .u8),(679976,
 .int .u8),(679977,.int .u8),(942085,.int .i64),(942088,.int .i64),(942089,.int .i64),(942093,.str),(872472,.int .u64),(872504,.int .u64),(872505,.int .u64),(872514,.int .u64),(872516,.int .u64),(872517,.int .u64),
 (876559,.int .u64),(876567,.int .u64),(876573,.int .u64),(876582,.int .u64),(876583,.int .u64),(876595,.int .u64),(876596,.int .u64),(876603,.int .u64),(942101,.str),(679993,.int .u64),(680002,.int .u64),(680007,.int
 .u64),(680011,.int .u64),(680019,.str),(680031,.int .u64),(680045,.int .u64),(680047,.int .u64),(680050,.int .u64),(680052,.int .u64),(680053,.int .u64),(680060,.int .u8),(680064,.int .u64),(680068,.str)]) (bE
 [(1679936000,true),(1679944192,true),(1872448000,true),(1872464384,true),(1872456192,true),(1876552192,true),(1876544000,true),(880638,true),(876542,true),(1679968768,true),(1679976960,false)]) rb r0 r1 r2 r3 r4 key s
 Q=(ckQ (Nat.ble 16 key.length) (exS (.str ((key.drop 0).take 16)) (fun s_0=>ckQ (Nat.blt 3 s_0.length&&aBn s_0&&true) (ckQ (aBn s_0&&Nat.blt 3 s_0.length) (exV .u8 ((((ofBytes s_0).drop 3).take 1).getD 0 AV.undef) (fun n_1=>
 exW .u8 (aNt n_1) (fun n_2=>ckQ (Nat.blt 3 s_0.length&&aBn s_0&&true) (ckQ (aBn s_0&&Nat.ble 4 s_0.length&&true&&true&&true) (((aAu s_0||aL 1 (vG s_0 n_2))&&true)=true∧ckQ (Nat.blt 7 s_0.length&&Nat.beq
 (vG s_0 n_2).length s_0.length&&true) (ckQ (Nat.beq (vG s_0 n_2).length s_0.length&&Nat.blt 7 s_0.length) (exV .u8 ((((vG s_0 n_2).drop 7).take 1).getD 0 AV.undef) (fun n_3=>exW .u8 (aNt n_3) (fun n_4=>ckQ (Nat.blt 7
 s_0.length&&Nat.beq (vG s_0 n_2).length s_0.length&&true) (ckQ (Nat.beq (vG s_0 n_2).length s_0.length&&Nat.ble 8 s_0.length&&true&&true&&true) (((aAu s_0&&true||aL 1 (aZg s_0 n_2 n_4))&&true)=true∧ckQ
 (Nat.blt 11 s_0.length&&Nat.beq (aZg s_0 n_2 n_4).length s_0.length&&true) (ckQ (Nat.beq (aZg s_0 n_2 n_4).length s_0.length&&Nat.blt 11 s_0.length) (exV .u8 ((((aZg s_0 n_2 n_4).drop 11).take 1).getD 0 AV.undef) (fun n_5=>exW
 .u8 (aNt n_5) (fun n_6=>ckQ (Nat.blt 11 s_0.length&&Nat.beq (aZg s_0 n_2 n_4).length s_0.length&&true) (ckQ (Nat.beq (aZg s_0 n_2 n_4).length s_0.length&&Nat.ble 12 s_0.length&&true&&true&&true) (((aAu s_0&&true &&
 true||aL 1 (aX8 s_0 n_2 n_4 n_6))&&true)=true∧ckQ (Nat.blt 15 s_0.length&&Nat.beq (aX8 s_0 n_2 n_4 n_6).length s_0.length&&true) (ckQ (Nat.beq (aX8 s_0 n_2 n_4 n_6).length s_0.length&&Nat.blt 15 s_0.length) (exV .u8
 ((((aX8 s_0 n_2 n_4 n_6).drop 15).take 1).getD 0 AV.undef) (fun n_7=>exW .u8 (aNt n_7) (fun n_8=>ckQ (Nat.blt 15 s_0.length&&Nat.beq (aX8 s_0 n_2 n_4 n_6).length s_0.length&&true) (ckQ (Nat.beq (aX8 s_0 n_2 n_4 n_6).length
 s_0.length&&Nat.ble 16 s_0.length&&true&&true&&true) (((aAu s_0&&true&&true&&true||aL 1 (aSu s_0 n_2 n_4 n_6 n_8))&&true)=true∧ckQ (Nat.blt 4 s_0.length&&Nat.beq (aSu s_0 n_2 n_4 n_6 n_8).length s_0.length &&
 true) (ckQ (Nat.beq (aSu s_0 n_2 n_4 n_6 n_8).length s_0.length&&Nat.blt 4 s_0.length) (exV .u8 ((((aSu s_0 n_2 n_4 n_6 n_8).drop 4).take 1).getD 0 AV.undef) (fun n_9=>exW .u8 (aSk n_9) (fun n_10=>ckQ (Nat.blt 4 s_0.length &&
 Nat.beq (aSu s_0 n_2 n_4 n_6 n_8).length s_0.length&&true) (ckQ (Nat.beq (aSu s_0 n_2 n_4 n_6 n_8).length s_0.length&&Nat.ble 5 s_0.length&&true&&true&&true) (((aIm s_0||aL 1 (aDl s_0 n_2 n_4 n_6 n_8 n_10))&&true) =
 true∧ckQ (Nat.blt 8 s_0.length&&Nat.beq (aDl s_0 n_2 n_4 n_6 n_8 n_10).length s_0.length&&true) (ckQ (Nat.beq (aDl s_0 n_2 n_4 n_6 n_8 n_10).length s_0.length&&Nat.blt 8 s_0.length) (exV .u8 ((((aDl s_0 n_2 n_4 n_6 n_8
 n_10).drop 8).take 1).getD 0 AV.undef) (fun n_11=>exW .u8 (aSk n_11) (fun n_12=>ckQ (Nat.blt 8 s_0.length&&Nat.beq (aDl s_0 n_2 n_4 n_6 n_8 n_10).length s_0.length&&true) (ckQ (Nat.beq (aDl s_0 n_2 n_4 n_6 n_8 n_10).length
 s_0.length&&Nat.ble 9 s_0.length&&true&&true&&true) (((aIm s_0&&true||aL 1 (aKb s_0 n_2 n_4 n_6 n_8 n_10 n_12))&&true)=true∧ckQ (Nat.blt 12 s_0.length&&Nat.beq (aKb s_0 n_2 n_4 n_6 n_8 n_10 n_12).length s_0.length
 && true) (ckQ (Nat.beq (aKb s_0 n_2 n_4 n_6 n_8 n_10 n_12).length s_0.length&&Nat.blt 12 s_0.length) (exV .u8 ((((aKb s_0 n_2 n_4 n_6 n_8 n_10 n_12).drop 12).take 1).getD 0 AV.undef) (fun n_13=>exW .u8 (aSk n_13) (fun n_14=>ckQ
 (Nat.blt 12 s_0.length&&Nat.beq (aKb s_0 n_2 n_4 n_6 n_8 n_10 n_12).length s_0.length&&true) (ckQ (Nat.beq (aKb s_0 n_2 n_4 n_6 n_8 n_10 n_12).length s_0.length&&Nat.ble 13 s_0.length&&true&&true&&true) (((aIm s_0&&true
 && true||aL 1 (aO (aKb s_0 n_2 n_4 n_6 n_8 n_10 n_12) 12 [.int .u8 n_14]))&&true)=true∧ckQ (Nat.beq (aO (aKb s_0 n_2 n_4 n_6 n_8 n_10 n_12) 12 [.int .u8 n_14]).length s_0.length&&Nat.ble (0+s_0.length*1)
 s_0.length&&true) (∃s_15:List UInt8,Lf (List.map (fun (x_16:AV)=>bW 1 [Blk.mk BK.grow (aIm s_0&&true&&true) (aO (aKb s_0 n_2 n_4 n_6 n_8 n_10 n_12) 12 [.int .u8 n_14])] 8 x_16) (((aO (aKb s_0 n_2 n_4 n_6 n_8
 n_10 n_12) 12 [.int .u8 n_14]).drop 0).take (s_0.length*1))=ofBytes s_15∧s_0.length=s_15.length∧aO7 s_15)∧∀a_16 b_17 c_18 d_19 e_20:Nat,Lf (kI (gH s_15)=[a_16,b_17,c_18,d_19,e_20])→(∃x_21:List UInt8×Nat ×
 Nat×Nat×Nat×Nat×Nat,bI5 x_21 s rb∧ckQ ((aIm s_0&&true&&true)==true) (aO (aKb s_0 n_2 n_4 n_6 n_8 n_10 n_12) 12 [.int .u8 n_14]=ofBytes rb∧[AV.int .u64 0,.int .u64 0,.int .u64 0,.int .u64 0,.int .u64 0,
 iJ a_16,iJ b_17,iJ c_18,iJ d_19,iJ e_20]=aYo x_21 r0 r1 r2 r3 r4∧[AV.str s]=[AV.str x_21.1]∧bB8))∧∀x_21:List UInt8×Nat×Nat×Nat×Nat×Nat×Nat,bI5 x_21 s rb→exI .i64 (x_21.1.length:Int) (fun
 n_22=>bif decide (n_22>0) then exI .i64 (x_21.1.length:Int) (fun n_23=>exI .i64 (vH n_23 16) (fun n_24=>ckQ (decide (0≤n_24)&&true&&Nat.ble n_24.toNat x_21.1.length) (exS (.str ((x_21.1.drop 0).take (n_24.toNat-0)))
 (fun s_25=>ckQ (aBn s_25&&true&&Nat.beq (0+s_25.length*1) s_25.length&&Nat.ble (s_25.length+1) 1099511627776&&Nat.ble ((s_25.length+1)*1) 1099511627776) (ckQ (Nat.beq (aIw s_25).length (s_25.length+1)&&Nat.ble
 (0+(s_25.length+1)*1) (s_25.length+1)&&true) (∃s_26:List UInt8,Lf (List.map (fun (x_27:AV)=>bW 1 [Blk.mk BK.grow true (ofBytes rb),Blk.mk BK.exact true [.int .u64 (x_21.2.2.1:Int),.int .u64 (x_21.2.2.2.1:Int),
 .int .u64 (x_21.2.2.2.2.1:Int),.int .u64 (x_21.2.2.2.2.2.1:Int),.int .u64 (x_21.2.2.2.2.2.2:Int),iJ r0,iJ r1,iJ r2,iJ r3,iJ r4],Blk.mk BK.exact true [.str x_21.1],Blk.mk BK.grow (aAu s_25) (aIw s_25),Blk.mk
 BK.exact true [.int .u8 1]] 8 x_27) (((aIw s_25).drop 0).take ((s_25.length+1)*1))=ofBytes s_26∧s_25.length+1=s_26.length∧aO7 s_26)∧∀a_27 b_28 c_29 d_30 e_31:Nat,Lf (kI (gH s_26)=[a_27,b_28,c_29,d_30,
 e_31])→exW .u64 ((x_21.2.2.1:Int)+(a_27:Int)) (fun n_32=>bAd s_25∧exW .u64 ((x_21.2.2.2.1:Int)+(b_28:Int)) (fun n_33=>bAd s_25∧exW .u64 ((x_21.2.2.2.2.1:Int)+(c_29:Int)) (fun n_34=>bAd s_25∧exW .u64
 ((x_21.2.2.2.2.2.1:Int)+(d_30:Int)) (fun n_35=>bAd s_25∧exW .u64 ((x_21.2.2.2.2.2.2:Int)+(e_31:Int)) (fun n_36=>bAd s_25∧exW .u64 (fD n_32 r0) (fun n_37=>exW .u64 (0+n_37) (fun n_38=>gY s_25∧exW .u64
 (fD n_32 r1) (fun n_39=>exW .u64 (0+n_39) (fun n_40=>gY s_25∧exW .u64 (fD n_32 r2) (fun n_41=>exW .u64 (0+n_41) (fun n_42=>gY s_25∧exW .u64 (fD n_32 r3) (fun n_43=>exW .u64 (0+n_43) (fun n_44=>gY s_25 ∧
 exW .u64 (fD n_32 r4) (fun n_45=>exW .u64 (0+n_45) (fun n_46=>gY s_25∧gY s_25∧exW .u64 (fD n_33 r0) (fun n_47=>exW .u64 (n_40+n_47) (fun n_48=>gY s_25∧exW .u64 (fD n_33 r1) (fun n_49=>exW .u64 (n_42 +
 n_49) (fun n_50=>gY s_25∧exW .u64 (fD n_33 r2) (fun n_51=>exW .u64 (n_44+n_51) (fun n_52=>gY s_25∧exW .u64 (fD n_33 r3) (fun n_53=>exW .u64 (n_46+n_53) (fun n_54=>gY s_25∧exW .u64 (5*n_33) (fun n_55=>exW
 .u64 (fD n_55 r4) (fun n_56=>exW .u64 (n_38+n_56) (fun n_57=>gY s_25∧gY s_25∧exW .u64 (fD n_34 r0) (fun n_58=>exW .u64 (n_50+n_58) (fun n_59=>gY s_25∧exW .u64 (fD n_34 r1) (fun n_60=>exW .u64 (n_52 +
 n_60) (fun n_61=>gY s_25∧exW .u64 (fD n_34 r2) (fun n_62=>exW .u64 (n_54+n_62) (fun n_63=>gY s_25∧exW .u64 (5*n_34) (fun n_64=>exW .u64 (fD n_64 r3) (fun n_65=>exW .u64 (n_57+n_65) (fun n_66=>gY s_25∧exW
 .u64 (5*n_34) (fun n_67=>exW .u64 (fD n_67 r4) (fun n_68=>exW .u64 (n_48+n_68) (fun n_69=>gY s_25∧gY s_25∧exW .u64 (fD n_35 r0) (fun n_70=>exW .u64 (n_61+n_70) (fun n_71=>gY s_25∧exW .u64 (fD n_35 r1)
 (fun n_72=>exW .u64 (n_63+n_72) (fun n_73=>gY s_25∧exW .u64 (5*n_35) (fun n_74=>exW .u64 (fD n_74 r2) (fun n_75=>exW .u64 (n_66+n_75) (fun n_76=>gY s_25∧exW .u64 (5*n_35) (fun n_77=>exW .u64 (fD n_77 r3)
 (fun n_78=>exW .u64 (n_69+n_78) (fun n_79=>gY s_25∧exW .u64 (5*n_35) (fun n_80=>exW .u64 (fD n_80 r4) (fun n_81=>exW .u64 (n_59+n_81) (fun n_82=>gY s_25∧gY s_25∧exW .u64 (fD n_36 r0) (fun n_83=>exW .u64
 (n_73+n_83) (fun n_84=>gY s_25∧exW .u64 (5*n_36) (fun n_85=>exW .u64 (fD n_85 r1) (fun n_86=>exW .u64 (n_76+n_86) (fun n_87=>gY s_25∧exW .u64 (5*n_36) (fun n_88=>exW .u64 (fD n_88 r2) (fun n_89=>exW .u64
 (n_79+n_89) (fun n_90=>gY s_25∧exW .u64 (5*n_36) (fun n_91=>exW .u64 (fD n_91 r3) (fun n_92=>exW .u64 (n_82+n_92) (fun n_93=>gY s_25∧exW .u64 (5*n_36) (fun n_94=>exW .u64 (fD n_94 r4) (fun n_95=>exW .u64
 (n_71+n_95) (fun n_96=>gY s_25∧gY s_25∧exW .u64 (n_87+0) (fun n_97=>exI .u64 (Int.fdiv n_97 67108864) (fun n_98=>exW .u64 (nL n_97) (fun n_99=>gY s_25∧exW .u64 (n_90+n_98) (fun n_100=>exI .u64 (Int.fdiv n_100
 67108864) (fun n_101=>exW .u64 (nL n_100) (fun n_102=>gY s_25∧exW .u64 (n_93+n_101) (fun n_103=>exI .u64 (Int.fdiv n_103 67108864) (fun n_104=>exW .u64 (nL n_103) (fun n_105=>gY s_25∧exW .u64 (n_96+n_104) (fun
 n_106=>exI .u64 (Int.fdiv n_106 67108864) (fun n_107=>exW .u64 (nL n_106) (fun n_108=>gY s_25∧exW .u64 (n_84+n_107) (fun n_109=>exI .u64 (Int.fdiv n_109 67108864) (fun n_110=>exW .u64 (nL n_109) (fun n_111=>gY s_25
 ∧ exW .u64 (5*n_110) (fun n_112=>exW .u64 (n_99+n_112) (fun n_113=>gY s_25∧exW .u64 (n_113+0) (fun n_114=>exI .u64 (Int.fdiv n_114 67108864) (fun n_115=>exW .u64 (nL n_114) (fun n_116=>gY s_25∧exW .u64 (n_102 +
 n_115) (fun n_117=>exI .u64 (Int.fdiv n_117 67108864) (fun n_118=>exW .u64 (nL n_117) (fun n_119=>gY s_25∧exW .u64 (n_105+n_118) (fun n_120=>exI .u64 (Int.fdiv n_120 67108864) (fun n_121=>exW .u64 (nL n_120) (fun n_122
 => gY s_25∧exW .u64 (n_108+n_121) (fun n_123=>exI .u64 (Int.fdiv n_123 67108864) (fun n_124=>exW .u64 (nL n_123) (fun n_125=>gY s_25∧exW .u64 (n_111+n_124) (fun n_126=>exI .u64 (Int.fdiv n_126 67108864) (fun n_127=>
 exW .u64 (nL n_126) (fun n_128=>gY s_25∧exW .u64 (5*n_127) (fun n_129=>exW .u64 (n_116+n_129) (fun n_130=>gY s_25∧exI .u64 (Int.fdiv n_130 67108864) (fun n_131=>exW .u64 (n_119+n_131) (fun n_132=>exW .u64 (nL
 n_130) (fun n_133=>gY s_25∧bAd s_25∧ckQ (decide (0≤n_24)&&true&&Nat.ble n_24.toNat x_21.1.length&&Nat.ble x_21.1.length x_21.1.length) (exS (.str ((x_21.1.drop n_24.toNat).take (x_21.1.length-n_24.toNat))) (fun s_134=>
 (aJ [Lp.mk 0 (T.n (T.n (T.n (T.n (T.n T.e .undef (T.n T.e (.fn (Fn.func 230) [] [.ptr 2 1 0]) T.e)) (.int .i64 16) T.e) .undef (T.n T.e .undef (T.n (T.n T.e (.sl 0 s_0.length 0 s_0.length 1) T.e) .undef T.e))) (.str s) (T.n (T.n (T.n
 (T.n T.e (.int .i64 16) T.e) .undef T.e) .undef T.e) (.sl 0 s_0.length 0 s_0.length 1) (T.n T.e .undef (T.n (T.n T.e (.agg [.int .u64 0,.int .u64 0,.int .u64 0,.int .u64 0,.int .u64 0,iJ a_16,iJ b_17,iJ c_18,iJ d_19,iJ
 e_20]) T.e) .undef T.e)))) (.str key) (T.n (T.n (T.n T.e (.ptr 1 10 0) T.e) (.str []) (T.n T.e .undef (T.n (T.n T.e (.agg [iJ a_16,iJ b_17,iJ c_18,iJ d_19,iJ e_20]) T.e) .undef T.e))) .undef (T.n (T.n (T.n (T.n T.e (.bool
 false) T.e) .undef T.e) .undef T.e) .undef (T.n T.e .undef (T.n (T.n T.e (.str s) T.e) .undef T.e))))) [48] (AC.region [AOper.mk (Option.some (9:Nat)) (AOp.mv (AO.t 48)) Option.none 0 0]) (AC.block 5 (AC.region [AOper.mk (Option.some (49
 : Nat)) (AOp.mv (AO.t 9)) Option.none 0 0,AOper.mk (Option.some (50:Nat)) (AOp.call (AO.c (.fn (Fn.func 213) [] [])) [AO.t 8,AO.t 49]) Option.none 0 0])) Lst.ready 166]∧(1:Nat)=(1:Nat))∧∃y_135:List UInt8×Nat×Nat×Nat
 × Nat×Nat×Nat,bI5 y_135 s rb∧y_135.2.1<x_21.2.1∧aJ (ofBytes rb)∧[AV.int .u64 n_133,.int .u64 n_132,.int .u64 n_122,.int .u64 n_125,.int .u64 n_128,iJ r0,iJ r1,iJ r2,iJ r3,iJ r4]=aYo y_135 r0 r1 r2 r3
 r4∧[AV.str s_134]=[AV.str y_135.1]∧bB8)))))))))))))))))))))))))))))))))))))))))))))))))))))))))))))))))))))))))))))))))))))))))))))))))))))))))))))) else exW .u64 ((x_21.2.2.1:Int)+0) (fun n_23=>exI .u64 (Int.fdiv n_23
 67108864) (fun n_24=>exW .u64 (nL n_23) (fun n_25=>true=true∧exW .u64 ((x_21.2.2.2.1:Int)+n_24) (fun n_26=>exI .u64 (Int.fdiv n_26 67108864) (fun n_27=>exW .u64 (nL n_26) (fun n_28=>true=true∧exW .u64
 ((x_21.2.2.2.2.1:Int)+n_27) (fun n_29=>exI .u64 (Int.fdiv n_29 67108864) (fun n_30=>exW .u64 (nL n_29) (fun n_31=>true=true∧exW .u64 ((x_21.2.2.2.2.2.1:Int)+n_30) (fun n_32=>exI .u64 (Int.fdiv n_32 67108864) (fun n_33
 => exW .u64 (nL n_32) (fun n_34=>true=true∧exW .u64 ((x_21.2.2.2.2.2.2:Int)+n_33) (fun n_35=>exI .u64 (Int.fdiv n_35 67108864) (fun n_36=>exW .u64 (nL n_35) (fun n_37=>true=true∧exW .u64 (5*n_36) (fun n_38=>exW
 .u64 (n_25+n_38) (fun n_39=>true=true∧exW .u64 (n_39+0) (fun n_40=>exI .u64 (Int.fdiv n_40 67108864) (fun n_41=>exW .u64 (nL n_40) (fun n_42=>true=true∧exW .u64 (n_28+n_41) (fun n_43=>exI .u64 (Int.fdiv n_43
 67108864) (fun n_44=>exW .u64 (nL n_43) (fun n_45=>true=true∧exW .u64 (n_31+n_44) (fun n_46=>exI .u64 (Int.fdiv n_46 67108864) (fun n_47=>exW .u64 (nL n_46) (fun n_48=>true=true∧exW .u64 (n_34+n_47) (fun n_49=>
 exI .u64 (Int.fdiv n_49 67108864) (fun n_50=>exW .u64 (nL n_49) (fun n_51=>true=true∧exW .u64 (n_37+n_50) (fun n_52=>exI .u64 (Int.fdiv n_52 67108864) (fun n_53=>exW .u64 (nL n_52) (fun n_54=>true=true∧exW .u64 (5 *
 n_53) (fun n_55=>exW .u64 (n_42+n_55) (fun n_56=>true=true∧exI .u64 (Int.fdiv n_56 67108864) (fun n_57=>exW .u64 (n_45+n_57) (fun n_58=>exW .u64 (nL n_56) (fun n_59=>true=true∧exW .u64 (n_59+5) (fun n_60=>exW
 .u64 (n_60+0) (fun n_61=>exI .u64 (Int.fdiv n_61 67108864) (fun n_62=>exW .u64 (nL n_61) (fun n_63=>exW .u64 (n_58+n_62) (fun n_64=>exI .u64 (Int.fdiv n_64 67108864) (fun n_65=>exW .u64 (nL n_64) (fun n_66=>exW .u64
 (n_48+n_65) (fun n_67=>exI .u64 (Int.fdiv n_67 67108864) (fun n_68=>exW .u64 (nL n_67) (fun n_69=>exW .u64 (n_51+n_68) (fun n_70=>exI .u64 (Int.fdiv n_70 67108864) (fun n_71=>exW .u64 (nL n_70) (fun n_72=>exW .u64 (n_54
 + n_71) (fun n_73=>exI .u64 (Int.fdiv n_73 67108864) (fun n_74=>exW .u64 (nL n_73) (fun n_75=>bif decide (n_74>0) then ckQ (Nat.ble 16 key.length&&Nat.ble key.length key.length) (exS (.str ((key.drop 16).take (key.length -
 16))) (fun s_76=>ckQ (aBn s_76&&Nat.ble (0+s_76.length*1) s_76.length&&true) (∃s_77:List UInt8,Lf (List.map (fun (x_78:AV)=>bW 1 [Blk.mk BK.grow true (ofBytes rb),Blk.mk BK.exact true [.int .u64 n_63,.int .u64 n_66,
 .int .u64 n_69,.int .u64 n_72,.int .u64 n_75,iJ r0,iJ r1,iJ r2,iJ r3,iJ r4],Blk.mk BK.exact true [.str x_21.1],Blk.mk BK.exact true [.int .u64 n_63,.int .u64 n_66,.int .u64 n_69,.int .u64 n_72,.int .u64 n_75],Blk.mk
 BK.grow (aT1 s_76) (ofBytes s_76)] 8 x_78) (((ofBytes s_76).drop 0).take (s_76.length*1))=ofBytes s_77∧s_76.length=s_77.length∧aO7 s_77)∧bMe s_77 n_63 s_76 n_66 n_69 n_72 n_75 Q))) else ckQ (Nat.ble 16 key.length &&
 Nat.ble key.length key.length) (exS (.str ((key.drop 16).take (key.length-16))) (fun s_76=>ckQ (aBn s_76&&Nat.ble (0+s_76.length*1) s_76.length&&true) (∃s_77:List UInt8,Lf (List.map (fun (x_78:AV)=>bW 1 [Blk.mk
 BK.grow true (ofBytes rb),Blk.mk BK.exact true [.int .u64 n_59,.int .u64 n_58,.int .u64 n_48,.int .u64 n_51,.int .u64 n_54,iJ r0,iJ r1,iJ r2,iJ r3,iJ r4],Blk.mk BK.exact true [.str x_21.1],Blk.mk BK.exact true [.int
 .u64 n_63,.int .u64 n_66,.int .u64 n_69,.int .u64 n_72,.int .u64 n_75],Blk.mk BK.grow (aT1 s_76) (ofBytes s_76)] 8 x_78) (((ofBytes s_76).drop 0).take (s_76.length*1))=ofBytes s_77∧s_76.length=s_77.length∧aO7 s_77) ∧
 bMe s_77 n_59 s_76 n_58 n_48 n_51 n_54 Q))))))))))))))))))))))))))))))))))))))))))))))))))))))))))))))))))))))))))))))))))))))))))))))))))))))):=by kernel_rfl

end Go.Proofs.YtnhechnaemmdiaaGreatDoor

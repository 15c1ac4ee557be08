/-
  Chapter 23: equal packets; a draft's packet is valid.
-/
import Derived.Test.YtnhechnaemmdiaaGreatDoorKnE
import Derived.Test.YtnhechnaemmdiaaGreatDoorKnB
import Derived.Test.YtnhechnaemmdiaaGreatDoorKnL
set_option linter.unusedSimpArgs false
set_option linter.unusedVariables false
namespace Go.Proofs.YtnhechnaemmdiaaGreatDoor.Md
open Go.RowKit
set_option maxRecDepth 1000000

theorem aHr (s:List UInt8):eqB s s=true:=by
 induction s with
 | nil=>rfl
 | cons a s ih=>simp[eqB,ih]
theorem bN7 {s:List UInt8} {A B:Prop} (h:B):bif !(eqB s s) then A else B:=by
 rw[aHr]
 exact h
set_option linter.unusedSectionVars false
def aZ7 (cs:List Int) (s:S):List (List LInv):=[[{ α:=Nat,pre:=fun i=>Lf (i≤cs.length),st:=fun i=>⟨mkT [(2,.ptr 0 9 0),(3,.ptr 1 9 0),(5,.int .i64 (i:Nat))],s.hp⟩,mu:=fun i=>cs.length-i }]]
def bAs (ex:List Xt) (s:S):List (List LInv):=[[{ α:=Nat,pre:=fun i=>Lf (i≤ex.length),st:=fun i=>⟨mkT [(2,.ptr 0 9 0),(3,.ptr 1 9 0),(6,.int .i64 (i:Nat))],s.hp⟩,mu:=fun i=>ex.length-i }]]
noncomputable def aWt (hv:Nat→Option Pa) (hb:Nat→Option Bool) (cs:List Int) (ex:List Xt):Env:=e23 sm0 (fun i=>bif Nat.beq i 30000 then some (aZ7 cs) else bif Nat.beq i 30002 then some (bAs ex) else none) hv hb
noncomputable def aDj (hv:Nat→Option Pa) (hb:Nat→Option Bool) (mk:Bool) (ty seq ti ss:Int) (tc:Nat) (cs:List Int) (tx:Nat) (ex:List Xt) (pad:Int) (pl:List UInt8) (tc' tx':Nat) (Q:Out→List Blk→Gh→Prop):Prop:=
 aY (aWt hv hb cs ex) (wpx (aWt hv hb cs ex) 1000) 30 [.agg (iC mk ty seq ti ss tc cs tx ex pad pl),.agg (iC mk ty seq ti ss tc' cs tx' ex pad pl)] [] {} Q
abbrev aNb (Q:Out→List Blk→Gh→Prop):Prop:=Q (.ret (.bool false)) [] {}
abbrev aTe (mk:Bool) (ty seq ti ss:Int) (tc:Nat) (cs:List Int) (tx:Nat) (ex:List Xt) (pad:Int) (pl:List UInt8):Prop:=aJ [AV.bool mk,.int .i64 ty,.int .i64 seq,.int .i64 ti,.int .i64 ss,.lst tc (aB cs) cs.length 1,.lst tx (cellsXM ex) ex.length 2,.int .i64 pad,.str pl]
abbrev bD8:Prop:=aJ (AV.ptr 1 9 0)
abbrev bEs:Prop:=aJ (AV.ptr 0 9 0)
abbrev bFj (n_7:Int):Bool:=decide (0≤n_7)
def yU (mk:Bool) (ty:Int) (seq:Int) (ti:Int) (ss:Int) (tc:Nat) (cs:List Int) (tx:Nat) (ex:List Xt) (pad:Int) (pl:List UInt8) (tc':Nat) (tx':Nat) (Q:Out→List Blk→Gh→Prop):Prop:=
bif ty !=ty then aNb Q else bif seq !=seq then aNb Q else bif ti !=ti then aNb Q else bif ss !=ss then aNb Q else bif pad !=pad then aNb Q else bif !eqB pl pl then aNb Q else exI .i64 (cs.length:Int) (fun n_0=>exI .i64
 (cs.length:Int) (fun n_1=>bif n_0 !=n_1 then aNb Q else exI .i64 (ex.length:Int) (fun n_2=>exI .i64 (ex.length:Int) (fun n_3=>bif n_2 !=n_3 then aNb Q else (∃x_4:Nat,Lf (x_4≤cs.length)∧aTe mk ty seq ti ss tc cs tx
 ex pad pl∧aTe mk ty seq ti ss tc' cs tx' ex pad pl∧bD8∧AV.int .i64 0=AV.int .i64 (x_4:Int)∧bEs∧True)∧∀x_4:Nat,Lf (x_4≤cs.length)→exI .i64 (x_4:Int) (fun n_5=>exI .i64 (cs.length:Int) (fun n_6=>bif decide
 (n_5<n_6) then exI .i64 (x_4:Int) (fun n_7=>ckQ (bFj n_7&&Nat.blt n_7.toNat cs.length&&true) (ckQ (Nat.blt (n_7.toNat*1) (aB cs).length) (exV .i64 ((aB cs).getD (n_7.toNat*1) AV.undef) (fun n_8=>exI .i64 (x_4 :
 Int) (fun n_9=>ckQ (bFj n_9&&Nat.blt n_9.toNat cs.length&&true) (ckQ (Nat.blt (n_9.toNat*1) (aB cs).length) (exV .i64 ((aB cs).getD (n_9.toNat*1) AV.undef) (fun n_10=>bif n_8 !=n_10 then aNb Q else exI .i64 (x_4 :
 Int) (fun n_11=>exW .i64 (n_11+1) (fun n_12=>(True∧(0:Nat)=(0:Nat))∧∃y_13:Nat,Lf (y_13≤cs.length)∧cs.length-y_13<cs.length-x_4∧aTe mk ty seq ti ss tc cs tx ex pad pl∧aTe mk ty seq ti ss tc' cs tx' ex pad
 pl∧bD8∧AV.int .i64 n_12=AV.int .i64 (y_13:Int)∧bEs∧True)))))))))) else (∃x_7:Nat,Lf (x_7≤ex.length)∧aTe mk ty seq ti ss tc cs tx ex pad pl∧aTe mk ty seq ti ss tc' cs tx' ex pad pl∧bD8∧bEs∧AV.int .i64 0 =
 AV.int .i64 (x_7:Int)∧True)∧∀x_7:Nat,Lf (x_7≤ex.length)→exI .i64 (x_7:Int) (fun n_8=>exI .i64 (ex.length:Int) (fun n_9=>bif decide (n_8<n_9) then exI .i64 (x_7:Int) (fun n_10=>ckQ (bFj n_10&&Nat.blt
 n_10.toNat ex.length&&true) (ckQ (Nat.ble (n_10.toNat*2+2) (cellsXM ex).length) (∃n_11 s_12,AV.agg (((cellsXM ex).drop (n_10.toNat*2)).take 2)=AV.agg [.int .i64 n_11,.str s_12]∧exI .i64 (x_7:Int) (fun n_13=>ckQ (bFj
 n_13&&Nat.blt n_13.toNat ex.length&&true) (ckQ (Nat.ble (n_13.toNat*2+2) (cellsXM ex).length) (∃n_14 s_15,AV.agg (((cellsXM ex).drop (n_13.toNat*2)).take 2)=AV.agg [.int .i64 n_14,.str s_15]∧bif !(n_11==n_14&&(eqB s_12
 s_15&&true)) then aNb Q else exI .i64 (x_7:Int) (fun n_16=>exW .i64 (n_16+1) (fun n_17=>(True∧(0:Nat)=(0:Nat))∧∃y_18:Nat,Lf (y_18≤ex.length)∧ex.length-y_18<ex.length-x_7∧aTe mk ty seq ti ss tc cs tx ex
 pad pl∧aTe mk ty seq ti ss tc' cs tx' ex pad pl∧bD8∧bEs∧AV.int .i64 n_17=AV.int .i64 (y_18:Int)∧True)))))))) else Q (.ret (.bool true)) [] {}))))))))
theorem bKv (mk:Bool) (ty:Int) (seq:Int) (ti:Int) (ss:Int) (tc:Nat) (cs:List Int) (tx:Nat) (ex:List Xt) (pad:Int) (pl:List UInt8) (tc':Nat) (tx':Nat) (Q:Out→List Blk→Gh→Prop):aDj (bD [(122937,.int .i64),(122940,.int .i64),(122946,.int .i64),(122949,.int .i64),(122952,.int .i64),(122955,.int .i64),(122961,.int .i64),(122963,.int .i64),(122966,.int .i64),(122968,.int .i64),(122957,.int .i64),(122958,.int .i64),(122970,.int .i64),(122973,.int .i64),(122979,.int .i64),(122981,.agg [(.int .i64),(.str)]),(122984,.int .i64),(122986,.agg [(.int .i64),(.str)]),(122975,.int .i64),(122976,.int .i64)]) (bE []) mk ty seq ti ss tc cs tx ex pad pl tc' tx' Q=(
(bif mk then (bif mk then (yU mk ty seq ti ss tc cs tx ex pad pl tc' tx' Q)
else (Q (Out.ret (AV.bool false)) [] (Gh.mk (0:Nat) (0:Nat) [])))
else (bif mk then (Q (Out.ret (AV.bool false)) [] (Gh.mk (0:Nat) (0:Nat) []))
else (yU mk ty seq ti ss tc cs tx ex pad pl tc' tx' Q)))):=by kernel_rfl

noncomputable def aDw (hv:Nat→Option Pa) (hb:Nat→Option Bool) (at' less:Int) (text s:List UInt8) (Q:Out→List Blk→Gh→Prop):Prop:=
 aY (e23 sm0 (fun _=>none) hv hb) (wpx (e23 sm0 (fun _=>none) hv hb) 1000) 27 [.agg [.int .u16 at',.int .u8 less,.str text],.str s] [] {} Q
abbrev bJ5 (n_2:Int) (s:List UInt8):Bool:=decide (0≤n_2)&&true&&Nat.ble n_2.toNat s.length
theorem bDe (at':Int) (less:Int) (text:List UInt8) (s:List UInt8) (Q:Out→List Blk→Gh→Prop):aDw (bD [(110600,.int .i64),(110602,.int .i64),(110603,.int .i64),(110606,.str),(110611,.int .i64),(110612,.int .i64),(110613,.str),(110614,.str),(110619,.int .i64),(110620,.int .i64),(110622,.int .i64),(110623,.int .i64),(110624,.str),(110625,.str)]) (bE []) at' less text s Q=(exW .i64 at' (fun n_0=>exI .i64 (s.length:Int) (fun n_1=>exI .i64 (vH n_0 n_1) (fun n_2=>ckQ (bJ5 n_2 s) (exS (.str ((s.drop 0).take (n_2.toNat-0))) (fun s_3=>exI .i64 (text.length:Int) (fun n_4=>exI .i64 (vH n_4 20) (fun n_5=>ckQ (bJ5 n_5 text) (exS (.str ((text.drop 0).take (n_5.toNat-0))) (fun s_6=>ckQ (decide (s_3.length+s_6.length≤9223372036854775807)&&true) (exS (.str (s_3++s_6)) (fun s_7=>exW .i64 less (fun n_8=>exW .i64 (n_2+n_8) (fun n_9=>exI .i64 (s.length:Int) (fun n_10=>exI .i64 (vH n_9 n_10) (fun n_11=>ckQ (bJ5 n_11 s&&Nat.ble s.length s.length) (exS (.str ((s.drop n_11.toNat).take (s.length-n_11.toNat))) (fun s_12=>ckQ (decide (s_7.length+s_12.length≤9223372036854775807)&&true) (exS (.str (s_7++s_12)) (fun s_13=>Q (.ret (.str s_13)) [] {})))))))))))))))))))):=by kernel_rfl

theorem wW (mk:Bool) (ty seq ti ss:Int) (tc:Nat) (cs:List Int) (tx:Nat) (ex:List Xt) (pad:Int) (pl:List UInt8) (tc' tx':Nat) (hc:cs.length≤1000000) (hx:ex.length≤1000000) (Q:Out→List Blk→Gh→Prop) (hq:Q (.ret (.bool true)) [] {}) :
  ∃hv hb,aDj hv hb mk ty seq ti ss tc cs tx ex pad pl tc' tx' Q:=by
 obtain ⟨hv,hb',e⟩:∃hv hb,aDj hv hb mk ty seq ti ss tc cs tx ex pad pl tc' tx' Q=_:=⟨_,_,bKv mk ty seq ti ss tc cs tx ex pad pl tc' tx' Q⟩
 refine ⟨hv,hb',e.mpr ?_⟩
 clear e
 have h1:yU mk ty seq ti ss tc cs tx ex pad pl tc' tx' Q:=by
  unfold yU
  delta bEs bD8 aTe aNb bFj
  refine bA (fun h=>absurd rfl h) (fun _=>bA (fun h=>absurd rfl h) (fun _=>bA (fun h=>absurd rfl h) (fun _=>bA (fun h=>absurd rfl h) (fun _=>bA (fun h=>absurd rfl h) (fun _=>bN7 ⟨_,rfl,_,rfl,bA (fun h=>absurd rfl h) (fun _=>⟨_,rfl,_,rfl,bA (fun h=>absurd rfl h) (fun _=>⟨⟨0,⟨by omega⟩,rfl,rfl,rfl,rfl,rfl,trivial⟩, ?_⟩)⟩)⟩)))))
  rintro i ⟨hi⟩
  refine ⟨_,rfl,_,rfl,aD (fun h => ?_) (fun h=>⟨⟨0,⟨by omega⟩,rfl,rfl,rfl,rfl,rfl,trivial⟩, ?_⟩)⟩
  ·have hlt:i<cs.length:=by omega
   refine ⟨_,rfl,ckI (by simp;omega) (ckI (by simp[dY];omega) (nM hlt ⟨_,rfl,ckI (by simp;omega) (ckI (by simp[dY];omega) (nM hlt (bA (fun h=>absurd rfl h) (fun _=>⟨_,rfl,aI (by omega) (by omega) ⟨⟨trivial,rfl⟩,i+1,⟨by omega⟩,by omega,rfl,rfl,rfl,rfl,rfl,trivial⟩⟩)) (by simp)))⟩ (by simp)))⟩
  ·rintro j ⟨hj⟩
   refine ⟨_,rfl,_,rfl,aD (fun h => ?_) (fun h=>hq)⟩
   have hlt:j<ex.length:=by omega
   refine ⟨_,rfl,ckI (by simp;omega) (ckI (by simp[aW];omega) (aVl hlt (by simp) ⟨_,rfl,ckI (by simp;omega) (ckI (by simp[aW];omega) (aVl hlt (by simp) ?_))⟩))⟩
   rw[show (!((ex[j].1==ex[j].1)&&((eqB ex[j].2 ex[j].2)&&true)))=false by simp[aHr]]
   exact ⟨_,rfl,aI (by omega) (by omega) ⟨⟨trivial,rfl⟩,j+1,⟨by omega⟩,by omega,rfl,rfl,rfl,rfl,rfl,trivial⟩⟩
 cases mk
 ·exact h1
 ·exact h1
def cSame:Con
 | [.agg [.bool mk,.int .i64 ty,.int .i64 seq,.int .i64 ti,.int .i64 ss,.lst _ c5 n5 1,.lst _ c6 n6 2,.int .i64 pad,.str pl],.agg [.bool mk',.int .i64 ty',.int .i64 seq',.int .i64 ti',.int .i64 ss',.lst _ c5' n5' 1,.lst _ c6' n6' 2,.int .i64 pad',.str pl']],H,K=>∃ (cs:List Int) (ex:List Xt),Lf ((c5=aB cs∧n5=cs.length∧c6=cellsXM ex∧n6=ex.length∧cs.length≤1000000∧ex.length≤1000000)∧(mk'=mk∧ty'=ty∧seq'=seq∧ti'=ti∧ss'=ss∧c5'=aB cs∧n5'=cs.length∧c6'=cellsXM ex∧n6'=ex.length∧pad'=pad∧pl'=pl))∧K (.ret (.bool true)) H
 | _,_,_=>False
theorem same_raw:aF Tryz.prog gl0 30 cSame:=by
 refine aP (enters_of (by kernel_rfl)) aM fun args H Q hc => ?_
 unfold cSame at hc
 split at hc
 ·rename_i mk ty seq ti ss tc c5 n5 tx c6 n6 pad pl mk' ty' seq' ti' ss' tc' c5' n5' tx' c6' n6' pad' pl'
  obtain ⟨cs,ex,⟨⟨rfl,rfl,rfl,rfl,k1,k2⟩,rfl,rfl,rfl,rfl,rfl,rfl,rfl,rfl,rfl,rfl,rfl⟩,hq⟩:=hc
  obtain ⟨hv,hb',h⟩:=wW mk' ty' seq' ti' ss' tc cs tx ex pad' pl' tc' tx' k1 k2 (fun o H' _=>H'=[]∧(∃v,o=.ret v∧old 0 v=true∧noY v=true)∧Q o H) ⟨rfl,⟨_,rfl,rfl,rfl⟩,hq⟩
  exact ⟨rfl,rfl,_,1000,⟨dQ,dP,bY,bT⟩,rfl,h⟩
 ·exact hc.elim
def bMj:List AV→List AV
 | [a,b]=>[aggK a,aggK b]
 | l=>l
def bG3:Con:=fun args H Q=>cSame (bMj args) H Q
theorem aKt:aF Tryz.prog gl0 30 bG3:=eD same_raw fun args H Q h=>⟨bMj args,by
 unfold bMj
 split
 ·exact dZ (wk_aggK _) (dZ (wk_aggK _) nT)
 ·exact iY _,h⟩
end Go.Proofs.YtnhechnaemmdiaaGreatDoor.Md

set_option linter.unusedSectionVars false
namespace Go.Proofs.YtnhechnaemmdiaaGreatDoor
open Go.RowKit
set_option maxRecDepth 1000000

def bAj (xs:List Int) (s:S):List (List LInv):=[[
 { α:=Nat,pre:=fun i=>Lf (i≤xs.length),st:=fun i=>⟨mkT [(2,s.tm.get 2),(3,s.tm.get 3),(5,.int .i64 (i:Nat))],s.hp⟩,mu:=fun i=>xs.length-i }]]
def aXr (l:List Tr) (s:S):List (List LInv):=[[
 { α:=Nat,pre:=fun i=>Lf (i≤l.length),st:=fun i=>⟨mkT [(2,s.tm.get 2),(3,s.tm.get 3),(6,.int .i64 (i:Nat))],s.hp⟩,mu:=fun i=>l.length-i }]]
noncomputable def aU0 (hv:Nat→Option Pa) (hb:Nat→Option Bool) (xs:List Int) (l:List Tr):Env:=e04 sm0 (fun i=>bif Nat.beq i 17000 then some (bAj xs) else bif Nat.beq i 17002 then some (aXr l) else none) hv hb
noncomputable def aDk (hv:Nat→Option Pa) (hb:Nat→Option Bool) (t1 t2 t3 t4:Nat) (a b c:List UInt8) (xs:List Int) (l:List Tr) (nx rs rt:Int) (rk:Nat) (Q:Out→List Blk→Gh→Prop):Prop:=
 aY (aU0 hv hb xs l) (wpx (aU0 hv hb xs l) 1000) 17 [shV t1 t2 a b c xs l nx rs rt rk,shV t3 t4 a b c xs l nx rs rt rk] [] {} Q
abbrev aWl:Out:=.ret (.bool false)
abbrev aS2 (a b c:List UInt8) (t1:Nat) (xs:List Int) (t2:Nat) (l:List Tr) (nx rs rt:Int) (rk:Nat):Prop:=aJ [AV.str a,.str b,.str c,.lst t1 (aB xs) xs.length 1,.lst t2 (trM l) l.length 3,.int .i64 nx,.int .i64 rs,.int .i64 rt,.int .u64 (rk:Int)]
abbrev bDx:Prop:=aJ (AV.ptr 1 9 0)
abbrev bE9:Prop:=aJ (AV.ptr 0 9 0)
theorem bMn (t1:Nat) (t2:Nat) (t3:Nat) (t4:Nat) (a:List UInt8) (b:List UInt8) (c:List UInt8) (xs:List Int) (l:List Tr) (nx:Int) (rs:Int) (rt:Int) (rk:Nat) (Q:Out→List Blk→Gh→Prop):aDk (bD
 [(69653,.agg [(.int .i64),(.int .i64),(.int .u64)]),(69655,.agg [(.int .i64),(.int .i64),(.int .u64)]),(69661,.int .i64),(69664,.int .i64),(69670,.int .i64),(69673,.int .i64),(69676,.int .i64),(69679,.int .i64),(69685,
 .int .i64),(69687,.int .i64),(69690,.int .i64),(69692,.int .i64),(69681,.int .i64),(69682,.int .i64),(69694,.int .i64),(69697,.int .i64),(69703,.int .i64),(69705,.agg [.int .i64,.int .i64,.int .u64]),(69708,.int
 .i64),(69710,.agg [.int .i64,.int .i64,.int .u64]),(69699,.int .i64),(69700,.int .i64)]) (bE []) t1 t2 t3 t4 a b c xs l nx rs rt rk Q=(bif !(eqB a a&&(eqB b b&&(eqB c c&&true))) then Q aWl [] {} else bif nx !=nx then Q
 aWl [] {} else ∃n_0 n_1 n_2,AV.agg [.int .i64 rs,.int .i64 rt,.int .u64 (rk:Int)]=AV.agg [.int .i64 n_0,.int .i64 n_1,.int .u64 n_2]∧∃n_3 n_4 n_5,AV.agg [.int .i64 rs,.int .i64 rt,.int .u64 (rk:Int)]=AV.agg [.int .i64
 n_3,.int .i64 n_4,.int .u64 n_5]∧bif !(n_0==n_3&&(n_1==n_4&&(n_2==n_5&&true))) then Q aWl [] {} else exI .i64 (xs.length:Int) (fun n_6=>exI .i64 (xs.length:Int) (fun n_7=>bif n_6 !=n_7 then Q aWl [] {} else exI
 .i64 (l.length:Int) (fun n_8=>exI .i64 (l.length:Int) (fun n_9=>bif n_8 !=n_9 then Q aWl [] {} else (∃x_10:Nat,Lf (x_10≤xs.length)∧aS2 a b c t1 xs t2 l nx rs rt rk∧aS2 a b c t3 xs t4 l nx rs rt rk∧bDx∧AV.int .i64
 0=AV.int .i64 (x_10:Int)∧bE9∧True)∧∀x_10:Nat,Lf (x_10≤xs.length)→exI .i64 (x_10:Int) (fun n_11=>exI .i64 (xs.length:Int) (fun n_12=>bif decide (n_11<n_12) then exI .i64 (x_10:Int) (fun n_13=>ckQ (decide (0
 ≤ n_13)&&Nat.blt n_13.toNat xs.length&&true) (ckQ (Nat.blt (n_13.toNat*1) (aB xs).length) (exV .i64 ((aB xs).getD (n_13.toNat*1) AV.undef) (fun n_14=>exI .i64 (x_10:Int) (fun n_15=>ckQ (decide (0≤n_15)&&Nat.blt
 n_15.toNat xs.length&&true) (ckQ (Nat.blt (n_15.toNat*1) (aB xs).length) (exV .i64 ((aB xs).getD (n_15.toNat*1) AV.undef) (fun n_16=>bif n_14 !=n_16 then Q aWl [] {} else exI .i64 (x_10:Int) (fun n_17=>exW .i64 (n_17
 + 1) (fun n_18=>(True∧(0:Nat)=(0:Nat))∧∃y_19:Nat,Lf (y_19≤xs.length)∧xs.length-y_19<xs.length-x_10∧aS2 a b c t1 xs t2 l nx rs rt rk∧aS2 a b c t3 xs t4 l nx rs rt rk∧bDx∧AV.int .i64 n_18=AV.int .i64
 (y_19:Int)∧bE9∧True)))))))))) else (∃x_13:Nat,Lf (x_13≤l.length)∧aS2 a b c t1 xs t2 l nx rs rt rk∧aS2 a b c t3 xs t4 l nx rs rt rk∧bDx∧bE9∧AV.int .i64 0=AV.int .i64 (x_13:Int)∧True)∧∀x_13:Nat,Lf (x_13
 ≤ l.length)→exI .i64 (x_13:Int) (fun n_14=>exI .i64 (l.length:Int) (fun n_15=>bif decide (n_14<n_15) then exI .i64 (x_13:Int) (fun n_16=>ckQ (decide (0≤n_16)&&Nat.blt n_16.toNat l.length&&true) (ckQ (Nat.ble
 (n_16.toNat*3+3) (trM l).length) (∃n_17 n_18 n_19,AV.agg (((trM l).drop (n_16.toNat*3)).take 3)=AV.agg [.int .i64 n_17,.int .i64 n_18,.int .u64 n_19]∧exI .i64 (x_13:Int) (fun n_20=>ckQ (decide (0≤n_20)&&Nat.blt
 n_20.toNat l.length&&true) (ckQ (Nat.ble (n_20.toNat*3+3) (trM l).length) (∃n_21 n_22 n_23,AV.agg (((trM l).drop (n_20.toNat*3)).take 3)=AV.agg [.int .i64 n_21,.int .i64 n_22,.int .u64 n_23]∧bif !(n_17==n_21&&(n_18 ==
 n_22&&(n_19==n_23&&true))) then Q aWl [] {} else exI .i64 (x_13:Int) (fun n_24=>exW .i64 (n_24+1) (fun n_25=>(True∧(0:Nat)=(0:Nat))∧∃y_26:Nat,Lf (y_26≤l.length)∧l.length-y_26<l.length-x_13∧aS2 a b
 c t1 xs t2 l nx rs rt rk∧aS2 a b c t3 xs t4 l nx rs rt rk∧bDx∧bE9∧AV.int .i64 n_25=AV.int .i64 (y_26:Int)∧True)))))))) else Q (.ret (.bool true)) [] {}))))))))):=by kernel_rfl

theorem wW (t1 t2 t3 t4:Nat) (a b c:List UInt8) (xs:List Int) (l:List Tr) (nx rs rt:Int) (rk:Nat) (hx:xs.length≤9223372036854775807) (hl:l.length≤9223372036854775807) (Q:Out→List Blk→Gh→Prop) (hq:Q (.ret (.bool true)) [] {}):∃hv hb,aDk hv hb t1 t2 t3 t4 a b c xs l nx rs rt rk Q:=by
 obtain ⟨hv,hb',e⟩:∃hv hb,aDk hv hb t1 t2 t3 t4 a b c xs l nx rs rt rk Q=_:=⟨_,_,bMn t1 t2 t3 t4 a b c xs l nx rs rt rk Q⟩
 refine ⟨hv,hb',e.mpr ?_⟩
 delta aWl aS2 bDx bE9
 clear e
 have hcl:=aA xs
 have hln:=aF6 l
 rw[tF,tF,tF]
 refine bA (fun h=>absurd rfl h) (fun _=>⟨_,_,_,rfl,_,_,_,rfl, ?_⟩)
 rw[bQh,bQh,bQh]
 refine ⟨_,rfl,_,rfl,bA (fun h=>absurd rfl h) (fun _=>⟨_,rfl,_,rfl,bA (fun h=>absurd rfl h) (fun _=>⟨⟨0,⟨by omega⟩,rfl,rfl,rfl,rfl,rfl,trivial⟩, ?_⟩)⟩)⟩
 rintro i ⟨g1⟩
 refine ⟨_,rfl,_,rfl,aD (fun h => ?_) (fun _=>⟨⟨0,⟨by omega⟩,rfl,rfl,rfl,rfl,rfl,trivial⟩, ?_⟩)⟩
 ·have hi:i<xs.length:=by omega
  exact ⟨_,rfl,ckI (by simp;omega) (ckI (by rw[hcl];simp;omega) (wT (i:=i) hi (by simp) ⟨_,rfl,ckI (by simp;omega) (ckI (by rw[hcl];simp;omega) (wT (i:=i) hi (by simp) (bA (fun h=>absurd rfl h) (fun _=>⟨_,rfl,aI (by omega) (by omega) ⟨⟨trivial,rfl⟩,i+1,⟨by omega⟩,by omega,rfl,rfl,rfl,rfl,rfl,trivial⟩⟩))))⟩))⟩
 ·rintro j ⟨g2⟩
  refine ⟨_,rfl,_,rfl,aD (fun h => ?_) (fun _=>hq)⟩
  have hj:j<l.length:=by omega
  refine ⟨_,rfl,ckI (by simp;omega) (ckI (by rw[hln];simp;omega) ?_)⟩
  rw[show Int.toNat ((j:Nat):Int)=j from rfl,wF l j hj]
  refine ⟨_,_,_,rfl,_,rfl,ckI (by simp;omega) (ckI (by rw[hln];simp;omega) ?_)⟩
  rw[show Int.toNat ((j:Nat):Int)=j from rfl,wF l j hj]
  refine ⟨_,_,_,rfl, ?_⟩
  rw[bQh,bQh,bQh]
  exact ⟨_,rfl,aI (by omega) (by omega) ⟨⟨trivial,rfl⟩,j+1,⟨by omega⟩,by omega,rfl,rfl,rfl,rfl,rfl,trivial⟩⟩
def aHg:Con
 | [.agg [.str a,.str b,.str c,.lst _ h n 1,.lst _ tr m 3,.int .i64 nx,.int .i64 rs,.int .i64 rt,.int .u64 u],.agg [.str a',.str b',.str c',.lst _ h' n' 1,.lst _ tr' m' 3,.int .i64 nx',.int .i64 rs',.int .i64 rt',.int .u64 u']],H,K=>∃ (xs:List Int) (l:List Tr) (rk:Nat),
  Lf (h=aB xs∧n=xs.length∧tr=trM l∧m=l.length∧u=(rk:Int)∧xs.length≤9223372036854775807∧l.length≤9223372036854775807∧a'=a∧b'=b∧c'=c∧h'=aB xs∧n'=xs.length∧tr'=trM l∧m'=l.length∧nx'=nx∧rs'=rs∧rt'=rt∧u'=(rk:Int))∧K (.ret (.bool true)) H
 | _,_,_=>False
theorem aKt:aF Tryz.prog gl0 17 aHg:=by
 refine aP (enters_of (by kernel_rfl)) aM fun args H Q hc => ?_
 unfold aHg at hc
 split at hc
 ·obtain ⟨xs,l,rk,⟨rfl,rfl,rfl,rfl,rfl,h1,h2,rfl,rfl,rfl,rfl,rfl,rfl,rfl,rfl,rfl,rfl,rfl⟩,hq⟩:=hc
  obtain ⟨hv,hb',h⟩:=wW _ _ _ _ _ _ _ xs l _ _ _ rk h1 h2 (Q:=fun o H' _=>H'=[]∧(∃v,o=.ret v∧old 0 v=true∧noY v=true)∧Q o H) ⟨rfl,⟨_,rfl,rfl,rfl⟩,hq⟩
  exact ⟨by simp[aL,old,yB,(jK l).1],by simp[bG,noY,(jD xs).2,(jK l).2],_,1000,aT bT _ _ _,rfl,h⟩
 ·exact hc.elim
def bV (s:List UInt8) (n:Nat):List UInt8:=if s=[] then List.replicate n 0 else (List.range n).map fun i=>s.getD (i%s.length) 0
def bEr (s:List UInt8) (n:Nat):LInv where
 α:=Nat×List UInt8
 pre p:=Lf (p.1≤n∧(p.1=0∨s≠[])∧p.2=(bV s n).take p.1++List.replicate (n-p.1) 0)
 st p:=⟨mkT [(0,.str s),(1,.int .i64 (n:Nat)),(5,.sl 0 n 0 n 1),(6,.int .i64 (p.1:Nat))],[⟨.exact,true,ofBytes p.2⟩]⟩
 mu p:=n-p.1
noncomputable def aU2 (hv:Nat→Option Pa) (hb:Nat→Option Bool) (s:List UInt8) (n:Nat):Env:=e04 sm0 (fun i=>bif Nat.beq i 79000 then some (fun _=>[[bEr s n]]) else none) hv hb
noncomputable def aEj (hv:Nat→Option Pa) (hb:Nat→Option Bool) (s:List UInt8) (n:Nat) (Q:Out→List Blk→Gh→Prop):Prop:=
 aY (aU2 hv hb s n) (wpx (aU2 hv hb s n) 1000) 79 [.str s,.int .i64 (n:Nat)] [] {} Q
abbrev bJb (x_0:Nat×List UInt8) (n:Nat) (s:List UInt8):Prop:=Lf (x_0.1≤n∧(x_0.1=0∨s≠[])∧x_0.2=(bV s n).take x_0.1++List.replicate (n-x_0.1) 0)
abbrev bL2 (x_0:Nat×List UInt8) (n:Nat) (Q:Out→List Blk→Gh→Prop):Prop:=ckQ (Nat.beq (ofBytes x_0.2).length n&&Nat.ble (0+n) n&&true&&fK (((ofBytes x_0.2).drop 0).take n)) (exS (.str (List.map toB (((ofBytes x_0.2).drop 0).take n))) (fun s_2=>Q (.ret (.str s_2)) [] {}))
theorem bLu (s:List UInt8) (n:Nat) (Q:Out→List Blk→Gh→Prop):aEj (bD [(323598,.int .i64),(323608,.int .i64),(323609,.int .i64),(323610,.int .u8),(323602,.int .i64),(323613,.str)]) (bE []) s n Q=(ckQ
 (decide ((n:Int)≤(n:Int))&&decide ((n:Int)≤1099511627776)&&decide ((n:Int)*1≤1099511627776)) ((∃x_0:Nat×List UInt8,bJb x_0 n s∧ckQ (aL 0 (List.replicate (n:Int).toNat [AV.int .u8 0]).flatten==true)
 ((List.replicate (n:Int).toNat [AV.int .u8 0]).flatten=ofBytes x_0.2∧aJ (AV.str s)∧aJ (AV.int .i64 (n:Int))∧AV.sl 0 ((n:Int).toNat*1) 0 (n:Int).toNat 1=AV.sl 0 n 0 n 1∧AV.int .i64 0=AV.int .i64 (x_0.1:Int) ∧
 True))∧∀x_0:Nat×List UInt8,bJb x_0 n s→bif decide ((x_0.1:Int)<(n:Int)) then exI .i64 (s.length:Int) (fun n_1=>bif decide (n_1>0) then exI .i64 (s.length:Int) (fun n_2=>ckQ (n_2 !=0&&true) (exI .i64 ((x_0.1 :
 Int).tmod n_2) (fun n_3=>ckQ (decide (0≤n_3)&&Nat.blt n_3.toNat s.length) (exI .u8 (UInt8.toNat (s.getD n_3.toNat (UInt8.ofNat 0)):Int) (fun n_4=>ckQ (Nat.blt (x_0.1:Int).toNat n&&Nat.beq (ofBytes x_0.2).length n&&true)
 (ckQ (Nat.beq (ofBytes x_0.2).length n&&Nat.ble (0+(x_0.1:Int).toNat*1+1) n&&true&&true&&true) (exW .i64 ((x_0.1:Int)+1) (fun n_5=>(True∧(0:Nat)=(0:Nat))∧∃y_6:Nat×List UInt8,bJb y_6 n s∧n-y_6.1 <
 n-x_0.1∧aO (ofBytes x_0.2) (0+(x_0.1:Int).toNat*1) [.int .u8 n_4]=ofBytes y_6.2∧aJ (AV.str s)∧aJ (AV.int .i64 (n:Int))∧aJ (AV.sl 0 n 0 n 1)∧AV.int .i64 n_5=AV.int .i64 (y_6.1:Int)∧True)))))))) else
 bL2 x_0 n Q) else bL2 x_0 n Q)):=by kernel_rfl

theorem mM (s:List UInt8) (n:Nat):(bV s n).length=n:=by
 unfold bV
 split<;>simp
theorem aOd (s:List UInt8) (n:Nat) (Q:Out→List Blk→Gh→Prop) (hn:n≤100000) (hs:s.length≤9223372036854775807) (hq:Q (.ret (.str (bV s n))) [] {}):∃hv hb,aEj hv hb s n Q:=by
 obtain ⟨hv,hb',e⟩:∃hv hb,aEj hv hb s n Q=_:=⟨_,_,bLu s n Q⟩
 refine ⟨hv,hb',e.mpr ?_⟩
 delta bJb bL2
 clear e
 have z:List.flatten (List.replicate n [AV.int .u8 0])=ofBytes (List.replicate n 0):=by
  have e1:∀k,List.flatten (List.replicate k [AV.int .u8 0])=List.replicate k (AV.int .u8 0):=fun k=>by
   induction k with
   | zero=>rfl
   | succ k ih=>rw[bQr,bQ6,ih];rfl
  rw[e1];simp[ofBytes]
 have hl:=mM s n
 rw[bOa,z]
 refine ckI (by simp;omega) ⟨⟨(0,List.replicate n 0),⟨by simp,.inl rfl,by simp⟩,ckI (by rw[aK];rfl) ⟨rfl,rfl,rfl,by simp,rfl,trivial⟩⟩, ?_⟩
 rintro ⟨i,b⟩ ⟨g1,g2,g3⟩
 dsimp only at *
 have hb:b.length=n:=by rw[g3,bN8,bOu,bOn,hl];omega
 have fin:(i=n∨s=[])→b=bV s n:=fun h=>by
  rw[g3]
  rcases h with h | h
  ·rw[h,bR4,bSi,bPd,bOk (by omega)]
  ·rcases g2 with g2 | g2
   ·rw[g2,bQ4,bPg,bQw,bV,if_pos h]
   ·exact absurd h g2
 have cl:((Nat.beq (List.length (ofBytes b)) n&&Nat.ble (0+n) n&&true)&&fK (List.take n (List.drop 0 (ofBytes b))))=true:=by
  rw[eU,aH,hb];simp
 have st:List.map toB (List.take n (List.drop 0 (ofBytes b)))=b:=bJj hb.symm rfl
 refine aD (fun hlt=>⟨_,rfl,aD (fun hpos => ?_) (fun hz => ?_)⟩) (fun hge => ?_)
 ·have hi:i<n:=by omega
  have hs0:s≠[]:=fun h=>by rw[h] at hpos;simp at hpos
  have hm:Int.tmod (i:Int) (s.length:Int)=((i%s.length:Nat):Int):=by rw[bPz (by omega)];omega
  have hlt2:i%s.length<s.length:=bRc _ (by omega)
  have hx:b.getD i 0=0∨True:=.inr trivial
  refine ⟨_,rfl,ckI (by simp;omega) ⟨_,rfl,ckI (by rw[hm];simp;omega) ⟨_,rfl,ckI (by rw[aH];simp;omega) (ckI (by rw[aH];simp;omega) ?_)⟩⟩⟩
  rw[hm,bOa,bOa,bQo,bQ1,stB (by omega) rfl]
  refine aI (by omega) (by omega) ⟨⟨trivial,rfl⟩,(i+1,b.set i (s.getD (i%s.length) 0)),⟨hi,.inr hs0, ?_⟩, ?_,by simp⟩
  ·show b.set i (s.getD (i%s.length) 0)=(bV s n).take (i+1)++List.replicate (n-(i+1)) 0
   have e1:(bV s n).getD i 0=s.getD (i%s.length) 0:=by
    rw[bV,if_neg hs0]
    simp[bOs,hi]
   have e2:List.replicate (n-i) (0:UInt8)=0::List.replicate (n-(i+1)) 0:=by
    rw[show n-i=(n-(i+1))+1 by omega,bQr]
   have e3:((bV s n).take i).length=i:=by rw[bOu,hl];omega
   rw[kJ _ 0 (by omega:i<(bV s n).length),e1,g3,e2,bRe _ _ (by omega),e3,bR4,bRx,bOz]
   rfl
  ·show n-(i+1)<n-i
   omega
 ·refine ckI cl ⟨_,rfl, ?_⟩
  rw[st,fin (.inr (bO8.1 (by omega)))]
  exact hq
 ·refine ckI cl ⟨_,rfl, ?_⟩
  rw[st,fin (.inl (by omega))]
  exact hq
def aM8:Con
 | [.str s,.int .i64 n],H,K=>Lf (0≤n∧n≤100000∧s.length≤9223372036854775807)∧∀t,Lf (t=bV s n.toNat)→K (.ret (.str t)) H
 | _,_,_=>False
theorem aTn:aF Tryz.prog gl0 79 aM8:=by
 refine aP (enters_of (by kernel_rfl)) aM fun args H Q hc => ?_
 unfold aM8 at hc
 split at hc
 ·rename_i s n
  obtain ⟨⟨h0,h1,h2⟩,hq⟩:=hc
  obtain ⟨m,rfl⟩:=bPq h0
  obtain ⟨hv,hb',h⟩:=aOd s m (Q:=fun o H' _=>H'=[]∧(∃v,o=.ret v∧old 0 v=true∧noY v=true)∧Q o H) (by omega) (by omega) ⟨rfl,⟨_,rfl,rfl,rfl⟩,hq _ ⟨rfl⟩⟩
  exact ⟨rfl,rfl,_,1000,aT bT _ _ _,rfl,h⟩
 ·exact hc.elim
def gJ (w:Nat):Nat→List Int
 | 0=>[]
 | i+1=>gJ w i++if w/2^i%2=1 then [1+(i:Int)] else []
def bG1 (w:Nat) (s:S):List (List LInv):=[[
 { α:=Nat,pre:=fun i=>Lf (i≤16∧gJ w i=[]),st:=fun i=>⟨mkT [(1,s.tm.get 1),(2,s.tm.get 2),(3,.nils),(4,.int .i64 (i:Nat))],s.hp⟩,mu:=fun i=>16-i },
 { α:=Nat,pre:=fun i=>Lf (i≤16∧0<(gJ w i).length),st:=fun i=>⟨mkT [(1,s.tm.get 1),(2,s.tm.get 2),(3,.sl 2 (gJ w i).length 0 (gJ w i).length 1),(4,.int .i64 (i:Nat))],s.hp++[⟨.grow,true,aB (gJ w i)⟩]⟩,mu:=fun i=>16-i }]]
theorem bGl (xs:List Int):aC2 (aB xs)=true:=by
 unfold aB
 induction xs with
 | nil=>rfl
 | cons x xs ih=>simp[aC2,noT,ih]
theorem aVy:∀l:List Tr,aC2 (trM l)=true
 | []=>rfl
 | x::l=>by simp[trM,aC2,noT,aVy l]
theorem bFz (a b c:List UInt8) (xs:List Int) (l:List Tr) (nx rs rt:Int) (rk:Nat):noT (shV 0 0 a b c xs l nx rs rt rk)=true:=by
 simp[shV,noT,aC2,bGl,aVy]
def bDt:Con:=fun args H Q=>sK [0,1] H args fun a=>bIk a H Q
theorem aZr:aF Tryz.prog gl0 16 bDt:=eT bA4 aM [0,1] fun args H Q h=>by
 unfold bIk at h ⊢
 split at h
 ·obtain ⟨xs,hx,hq⟩:=h
  exact ⟨xs,hx,fun a' b' c' xs' rt e he=>⟨rfl,⟨_,rfl,by simp[noT,aC2,bFz]⟩,hq a' b' c' xs' rt e he⟩⟩
 ·exact h.elim
def bNm:SM:=dV [(79,aM8),(16,bDt)]
theorem bAn:∀f g,bNm f=some g→aF Tryz.prog gl0 f g:=bF _ (by simp only[bOr,bOx,bP3,bPj,bQe];exact ⟨aTn,aZr⟩)
noncomputable def aVa (hv:Nat→Option Pa) (hb:Nat→Option Bool) (w:Nat):Env := { e04 bNm (fun i=>bif Nat.beq i 26000 then some (bG1 w) else none) hv hb with hz:=fun k=>Nat.beq k 106516 }
noncomputable def aEa (hv:Nat→Option Pa) (hb:Nat→Option Bool) (key:List UInt8) (w:Nat) (fi:Int) (st:List AV) (n:Nat) (ss:Int) (Q:Out→List Blk→Gh→Prop):Prop:=
 aY (aVa hv hb w) (wpx (aVa hv hb w) 1000) 26 [.agg [.str key,.int .u16 (w:Nat),.int .u16 fi,.lst 0 st n 1,.int .u32 ss]] [] {} Q
abbrev aYn (key:List UInt8) (w:Nat) (fi:Int) (st:List AV) (n:Nat) (ss:Int):Prop:=aJ [AV.str key,.int .u16 (w:Int),.int .u16 fi,.lst 0 st n 1,.int .u32 ss]
abbrev aYr:Prop:=aJ [AV.str [],.str [],.str [],.nils,.nils,.int .i64 0,.int .i64 0,.int .i64 0,.int .u64 0]
def rP (key:List UInt8) (w:Nat) (fi:Int) (st:List AV) (n:Nat) (ss:Int):Prop:=
aYn key w fi st n ss∧aYr∧False
abbrev bB2 (x_0 w:Nat):Prop:=Lf (x_0≤16∧gJ w x_0=[])
abbrev aIo:Prop:=aJ (AV.ptr 0 5 0)
abbrev aC6 (w x_0:Nat):Nat:=(gJ w x_0).length
abbrev aFo (x_0 w:Nat):Prop:=Lf (x_0≤16∧0<aC6 w x_0)
abbrev aOm:Prop:=True∧(0:Nat)=(0:Nat)
abbrev aPx (w y_10:Nat):AV:=.sl 2 (aC6 w y_10) 0 (aC6 w y_10) 1
abbrev bGp (n_9:Int) (y_10:Nat):Prop:=aJ (AV.ptr 1 9 0)∧AV.int .i64 n_9=AV.int .i64 (y_10:Int)∧True
abbrev bFk (key:List UInt8):Bool:=decide (key.length+1≤9223372036854775807)&&true
abbrev bHi (key:List UInt8):Prop:=Lf ((0:Int)≤(32:Int)∧(32:Int)≤(100000:Int)∧key.length≤9223372036854775807)
abbrev bBl (key:List UInt8):Bool:=dI [.str key] [.str key]&&true
abbrev bB7 (s_2:List UInt8):Prop:=Lf ((0:Int)≤(12:Int)∧(12:Int)≤(100000:Int)∧s_2.length≤9223372036854775807)
abbrev bKq (t_4 t_5 t_6:List UInt8) (xs_7:List Int) (Q:Out→List Blk→Gh→Prop):Prop:=∀a'_8 b'_9 c'_10:List UInt8,∀xs'_11:List Int,∀rt_12 e_13:Int,Lf (bC2 t_4 t_5 t_6 xs_7=Prod.mk a'_8 (Prod.mk b'_9 (Prod.mk c'_10 (Prod.mk xs'_11 (Prod.mk rt_12 e_13)))))→Q (.ret (.agg [.str a'_8,.str b'_9,.str c'_10,.lst 0 (aB xs'_11) xs'_11.length 1,.lst 0 (trM []) 0 3,.int .i64 0,.int .i64 0,.int .i64 rt_12,.int .u64 0])) [] {}
abbrev bLn:Blk:=Blk.mk BK.exact true [.str [],.str [],.str [],.nils,.nils,.int .i64 0,.int .i64 0,.int .i64 0,.int .u64 0]
theorem bLg (key:List UInt8) (w:Nat) (fi:Int) (st:List AV) (n:Nat) (ss:Int) (Q:Out→List Blk→Gh→Prop):aEa (bD [(106503,.int .i64),(106508,.int .u16),(106509,.int .i64),(106510,.int .u16),(106511,.int
 .u16),(106514,.int .i64),(106515,.int .i64),(106505,.int .i64),(106506,.int .i64),(106524,.str),(106528,.str)]) (bE []) key w fi st n ss Q=(((∃x_0:Nat,bB2 x_0 w∧aYn key w fi st n ss∧aYr∧aIo∧AV.nils =
 AV.nils∧aJ (AV.ptr 1 9 0)∧AV.int .i64 0=AV.int .i64 (x_0:Int)∧True)∨∃x_0:Nat,aFo x_0 w∧rP key w fi st n ss)∧(∀x_0:Nat,bB2 x_0 w→exI .i64 (x_0:Int) (fun n_1=>bif decide (n_1<16) then exI .u16 (w :
 Int) (fun n_2=>exI .i64 (x_0:Int) (fun n_3=>ckQ (decide (0≤n_3)&&true) (exI .u16 (Int.fdiv n_2 ((2:Int)^Min.min n_3.toNat 16)) (fun n_4=>exW .u16 (((n_4%65536).toNat &&& 1:Nat):Int) (fun n_5=>bif n_5==1 then exI
 .i64 (x_0:Int) (fun n_6=>exW .i64 (1+n_6) (fun n_7=>exI .i64 (x_0:Int) (fun n_8=>exW .i64 (n_8+1) (fun n_9=>aOm∧((∃y_10:Nat,bB2 y_10 w∧16-y_10<16-x_0∧rP key w fi st n ss)∨∃y_10:Nat,aFo y_10 w
 ∧ 16-y_10<16-x_0∧aYn key w fi st n ss∧aYr∧[AV.int .i64 n_7]=aB (gJ w y_10)∧aIo∧AV.sl 2 1 0 1 1=aPx w y_10∧bGp n_9 y_10))))) else exI .i64 (x_0:Int) (fun n_6=>exW .i64 (n_6+1) (fun n_7=>aOm∧((∃
 y_8:Nat,bB2 y_8 w∧16-y_8<16-x_0∧aYn key w fi st n ss∧aYr∧aIo∧AV.nils=AV.nils∧bGp n_7 y_8)∨∃y_8:Nat,aFo y_8 w∧16-y_8<16-x_0∧rP key w fi st n ss)))))))) else ckQ (bFk key) (exS (.str (key
 ++ [UInt8.ofNat 115])) (fun s_2=>ckQ (bFk key) (exS (.str (key++[UInt8.ofNat 109])) (fun s_3=>bHi key∧∀t_4:List UInt8,Lf (t_4=bV key (Int.toNat 32))→ckQ (bBl key) (ckQ (bBl key) (bB7 s_2∧∀t_5:List UInt8,Lf
 (t_5=bV s_2 (Int.toNat 12))→ckQ (bBl key) (bHi s_3∧∀t_6:List UInt8,Lf (t_6=bV s_3 (Int.toNat 32))→∃xs_7:List Int,Lf (([]:List AV)=aB xs_7∧0=xs_7.length∧xs_7.length≤9223372036854775807)∧bKq t_4
 t_5 t_6 xs_7 Q)))))))))∧∀x_0:Nat,aFo x_0 w→exI .i64 (x_0:Int) (fun n_1=>bif decide (n_1<16) then exI .u16 (w:Int) (fun n_2=>exI .i64 (x_0:Int) (fun n_3=>ckQ (decide (0≤n_3)&&true) (exI .u16 (Int.fdiv n_2 ((2 :
 Int)^Min.min n_3.toNat 16)) (fun n_4=>exW .u16 (((n_4%65536).toNat &&& 1:Nat):Int) (fun n_5=>bif n_5==1 then exI .i64 (x_0:Int) (fun n_6=>exW .i64 (1+n_6) (fun n_7=>ckQ (Nat.beq (aB (gJ w x_0)).length (aC6 w
 x_0)&&true&&Nat.beq (0+aC6 w x_0*1) (aC6 w x_0)&&Nat.ble (aC6 w x_0+1) 1099511627776&&Nat.ble ((aC6 w x_0+1)*8) 1099511627776) (exI .i64 (x_0:Int) (fun n_8=>exW .i64 (n_8+1) (fun n_9=>aOm∧((∃y_10:Nat,
 bB2 y_10 w∧16-y_10<16-x_0∧rP key w fi st n ss)∨∃y_10:Nat,aFo y_10 w∧16-y_10<16-x_0∧aYn key w fi st n ss∧aYr∧aB (gJ w x_0)++[AV.int .i64 n_7]=aB (gJ w y_10)∧aIo∧AV.sl 2 (aC6 w
 x_0+1) 0 (aC6 w x_0+1) 1=aPx w y_10∧bGp n_9 y_10)))))) else exI .i64 (x_0:Int) (fun n_6=>exW .i64 (n_6+1) (fun n_7=>aOm∧((∃y_8:Nat,bB2 y_8 w∧16-y_8<16-x_0∧rP key w fi st n ss)∨∃y_8:Nat,
 aFo y_8 w∧16-y_8<16-x_0∧aYn key w fi st n ss∧aYr∧aB (gJ w x_0)=aB (gJ w y_8)∧aIo∧aPx w x_0=aPx w y_8∧bGp n_7 y_8)))))))) else ckQ (bFk key) (exS (.str (key++[UInt8.ofNat 115])) (fun s_2=>
 ckQ (bFk key) (exS (.str (key++[UInt8.ofNat 109])) (fun s_3=>bHi key∧∀t_4:List UInt8,Lf (t_4=bV key (Int.toNat 32))→ckQ (bBl key) (ckQ (bBl key) (bB7 s_2∧∀t_5:List UInt8,Lf (t_5=bV s_2 (Int.toNat 12)) →
 ckQ (bBl key) (bHi s_3∧∀t_6:List UInt8,Lf (t_6=bV s_3 (Int.toNat 32))→ckQ (Nat.beq (aB (gJ w x_0)).length (aC6 w x_0)&&Nat.ble (0+aC6 w x_0*1) (aC6 w x_0)&&true) (∃xs_7:List Int,Lf (List.map (fun (x_8 :
 AV)=>bW 1 [Blk.mk BK.exact true [.str key,.int .u16 (w:Int),.int .u16 fi,.lst 0 st n 1,.int .u32 ss],bLn,Blk.mk BK.grow true (aB (gJ w x_0)),bLn] 8 x_8) (((aB (gJ w x_0)).drop 0).take (aC6 w x_0*1))=aB
 xs_7∧aC6 w x_0=xs_7.length∧xs_7.length≤9223372036854775807)∧bKq t_4 t_5 t_6 xs_7 Q)))))))))):=by kernel_rfl

theorem zG (w:Nat):∀i,(gJ w i).length≤i
 | 0=>by simp[gJ]
 | i+1=>by
  have h:=zG w i
  rw[gJ,bN8]
  split<;>simp<;>omega
theorem aWc (w:Nat):∀i,∀x∈gJ w i,1≤x∧x≤i
 | 0,x,h=>by simp[gJ] at h
 | i+1,x,h=>by
  rw[gJ,bPo] at h
  rcases h with h | h
  ·have:=aWc w i x h;omega
  ·split at h
   ·rw[bOy] at h;omega
   ·simp at h
theorem aF5 (x:Int) (l:List Int):∀i,i≤l.length→iX (l++[x]) i=iX l i
 | 0,_=>rfl
 | i+1,h=>by
  have e1:(l++[x]).getD i 0=l.getD i 0:=by rw[bOs,bOs,bPc (by omega)]
  have e2:(l++[x]).getD (i-1) 0=l.getD (i-1) 0:=by rw[bOs,bOs,bPc (by omega)]
  rw[iX,iX,aF5 x l i (by omega),e1,e2]
theorem aL6 (w:Nat):∀i,i≤255→iX (gJ w i) (gJ w i).length=true
 | 0,_=>rfl
 | i+1,hi=>by
  have h:=aL6 w i (by omega)
  rw[gJ]
  split
  ·rw[bN8,bR1,iX,aF5 _ _ _ (bOt _),h,bOg]
   have e1:(gJ w i++[1+(i:Int)]).getD (gJ w i).length 0=1+(i:Int):=by rw[bOs,bPm (bOt _),bR4];rfl
   rw[e1,bO4 (by omega),bO4 (by omega),bOg,bOg,bOf,aN,bOc]
   by_cases h0:(gJ w i).length=0
   ·exact .inl h0
   ·right
    have hlt:(gJ w i).length-1<(gJ w i).length:=by omega
    have e2:(gJ w i++[1+(i:Int)]).getD ((gJ w i).length-1) 0=(gJ w i)[(gJ w i).length-1]:=by
     rw[bOs,bPc hlt,bOq hlt];rfl
    have:=aWc w i _ (bPx hlt)
    rw[e2];omega
  ·rw[bPd];exact h
theorem sW (a b c:List UInt8) (w:Nat):bO (bV a 32) (bV b 12) (bV c 32) (gJ w 16)=true:=by
 have:=zG w 16
 rw[bO,aL6 w 16 (by omega),gG,mM,mM,mM,bOh]
 simp[aN,bOi];omega
theorem bBf (l:List Int) (x:Int):aB l++[AV.int .i64 x]=aB (l++[x]):=by
 rw[aB,aB,bR0];rfl
theorem aQg (key:List UInt8) (w:Nat) (hw:w<65536) (hk:key.length≤9223372036854775000) (fi:Int) (st:List AV) (n:Nat) (ss:Int) (Q:Out→List Blk→Gh→Prop)
  (hq:Q (.ret (shV 0 0 (bV key 32) (bV (key++[115]) 12) (bV (key++[109]) 32) (gJ w 16) [] 0 0 (-1) 0)) [] {}):∃hv hb,aEa hv hb key w fi st n ss Q:=by
 obtain ⟨hv,hb',e⟩:∃hv hb,aEa hv hb key w fi st n ss Q=_:=⟨_,_,bLg key w fi st n ss Q⟩
 refine ⟨hv,hb',e.mpr ?_⟩
 delta bB2 aYn aYr aIo aC6 aFo aOm aPx bGp bFk bHi bBl bB7 bKq bLn
 clear e
 have hnew:=sW key (key++[115]) (key++[109]) w
 have bit:∀ {i:Nat} {P:Int→Prop},i<16→P ((w/2^i%2:Nat):Int)→∃n4:Int,AV.int .u16 (Int.fdiv (w:Int) ((2:Int)^(min (Int.toNat (i:Int)) 16)))=AV.int .u16 n4∧∃n5:Int,AV.int .u16 (IntKind.wrap .u16 ((Int.toNat (n4%65536) &&& 1:Nat):Int))=AV.int .u16 n5∧P n5:=fun {i} {P} hi h=>by
  rw[show min (Int.toNat (i:Int)) 16=i by omega,bLk]
  have hd:w/2^i≤w:=bTa _ _
  generalize w/2^i=q at hd h ⊢
  refine ⟨_,rfl,((q%2:Nat):Int), ?_,h⟩
  rw[show Int.toNat ((q:Int)%65536)=q by omega,bTg,show IntKind.wrap .u16 ((q%2:Nat):Int)=((q%2:Nat):Int)%65536 from rfl,show ((q%2:Nat):Int)%65536=((q%2:Nat):Int) by omega]
 have succ1:∀ {i:Nat},w/2^i%2=1→gJ w (i+1)=gJ w i++[1+(i:Int)]:=fun h=>by rw[gJ,if_pos h]
 have succ0:∀ {i:Nat},¬ w/2^i%2=1→gJ w (i+1)=gJ w i:=fun h=>by rw[gJ,if_neg h,bPd]
 have ckk:∀ {s:List UInt8} {A:Prop},A→bif dI [AV.str s] [AV.str s]&&true then A else False:=fun h=>ckI (by simp[dI,gZ,tF]) h
 refine ⟨.inl ⟨0,⟨by omega,rfl⟩,rfl,rfl,rfl,rfl,rfl,rfl,trivial⟩, ?_, ?_⟩
 ·rintro i ⟨g1,g2⟩
  refine ⟨_,rfl,aD (fun h => ?_) (fun h => ?_)⟩
  ·refine ⟨_,rfl,_,rfl,ckI (by simp) (bit (by omega) (aS (fun hb => ?_) (fun hb => ?_)))⟩
   ·have hh:=succ1 (i:=i) (by omega)
    rw[g2] at hh
    exact ⟨_,rfl,aI (by omega) (by omega) ⟨_,rfl,aI (by omega) (by omega) ⟨⟨trivial,rfl⟩,.inr ⟨i+1,⟨by omega,by rw[hh];simp⟩,by omega,rfl,rfl,by rw[hh];rfl,rfl,by rw[hh];rfl,rfl,rfl,trivial⟩⟩⟩⟩
   ·have hh:=succ0 (i:=i) (by omega)
    exact ⟨_,rfl,aI (by omega) (by omega) ⟨⟨trivial,rfl⟩,.inl ⟨i+1,⟨by omega,by rw[hh,g2]⟩,by omega,rfl,rfl,rfl,rfl,rfl,rfl,trivial⟩⟩⟩
  ·obtain rfl:i=16:=by omega
   generalize gJ w 16=X at *
   refine ckI (by simp;omega) ⟨_,rfl,ckI (by simp;omega) ⟨_,rfl,⟨by omega,by omega,by omega⟩, ?_⟩⟩
   rintro t4 ⟨rfl⟩
   refine ckk (ckk ⟨⟨by omega,by omega,by simp;omega⟩, ?_⟩)
   rintro t5 ⟨rfl⟩
   refine ckk ⟨⟨by omega,by omega,by simp;omega⟩, ?_⟩
   rintro t6 ⟨rfl⟩
   refine ⟨[],⟨rfl,rfl,by simp⟩, ?_⟩
   rintro a b c xs rt e ⟨he⟩
   subst g2
   rw[bC2,if_pos (by exact hnew)] at he
   simp only[bPb] at he
   obtain ⟨rfl,rfl,rfl,rfl,rfl,rfl⟩:=he
   exact hq
 ·rintro i ⟨g1,g2⟩
  have hcl:=aA (gJ w i)
  have hl:=zG w i
  refine ⟨_,rfl,aD (fun h => ?_) (fun h => ?_)⟩
  ·refine ⟨_,rfl,_,rfl,ckI (by simp) (bit (by omega) (aS (fun hb => ?_) (fun hb => ?_)))⟩
   ·have hh:=succ1 (i:=i) (by omega)
    exact ⟨_,rfl,aI (by omega) (by omega) (ckI (by rw[hcl];simp[aN];omega) ⟨_,rfl,aI (by omega) (by omega) ⟨⟨trivial,rfl⟩,.inr ⟨i+1,⟨by omega,by rw[hh];simp⟩,by omega,rfl,rfl,by rw[hh,bBf],rfl,by rw[hh,bN8];rfl,rfl,rfl,trivial⟩⟩⟩)⟩
   ·have hh:=succ0 (i:=i) (by omega)
    exact ⟨_,rfl,aI (by omega) (by omega) ⟨⟨trivial,rfl⟩,.inr ⟨i+1,⟨by omega,by rw[hh];exact g2⟩,by omega,rfl,rfl,by rw[hh],rfl,by rw[hh],rfl,rfl,trivial⟩⟩⟩
  ·obtain rfl:i=16:=by omega
   generalize gJ w 16=X at *
   refine ckI (by simp;omega) ⟨_,rfl,ckI (by simp;omega) ⟨_,rfl,⟨by omega,by omega,by omega⟩, ?_⟩⟩
   rintro t4 ⟨rfl⟩
   refine ckk (ckk ⟨⟨by omega,by omega,by simp;omega⟩, ?_⟩)
   rintro t5 ⟨rfl⟩
   refine ckk ⟨⟨by omega,by omega,by simp;omega⟩, ?_⟩
   rintro t6 ⟨rfl⟩
   refine ckI (by rw[hcl];simp[aN]) ⟨X,⟨?_,rfl,by omega⟩, ?_⟩
   ·rw[bOv,bOk (by rw[hcl];omega)]
    exact aD3 1 _ 7 _ (bD7 _)
   rintro a b c xs rt e ⟨he⟩
   rw[bC2,if_pos (by exact hnew)] at he
   simp only[bPb] at he
   obtain ⟨rfl,rfl,rfl,rfl,rfl,rfl⟩:=he
   exact hq
def aU9 (ks:List Int):List AV:=ks.map (AV.int .i16)
theorem bGc (ks:List Int):aL 0 (aU9 ks)=true∧bG (aU9 ks)=true:=by
 unfold aU9
 induction ks with
 | nil=>exact ⟨rfl,rfl⟩
 | cons x xs ih=>simp[aL,bG,old,noY,ih.1,ih.2]
def aVx:Con
 | [.agg [.str key,.int .u16 u,.int .u16 _,.lst 0 l n 1,.int .u32 _]],H,K=>∃ (w:Nat) (ks:List Int),Lf (u=(w:Int)∧l=aU9 ks∧n=ks.length∧w<65536∧key.length≤140737488351232) ∧
   ∀ (a b c:List UInt8) (xs:List Int),Lf (a=bV key 32∧b=bV (key++[115]) 12∧c=bV (key++[109]) 32∧xs=gJ w 16)→K (.ret (shV 0 0 a b c xs [] 0 0 (-1) 0)) H
 | _,_,_=>False
theorem aT0:aF Tryz.prog gl0 26 aVx:=by
 refine aP (enters_of (by kernel_rfl)) aM fun args H Q hc => ?_
 unfold aVx at hc
 split at hc
 ·rename_i key u fi l n ss
  obtain ⟨w,ks,⟨rfl,rfl,rfl,h1,h2⟩,hq⟩:=hc
  obtain ⟨hv,hb',h⟩:=aQg key w h1 (by omega) fi (aU9 ks) ks.length ss (Q:=fun o H' _=>H'=[]∧(∃v,o=.ret v∧old 0 v=true∧noY v=true)∧Q o H)
   ⟨rfl,⟨_,rfl,by simp[shV,old,aL,yB,trM],by simp[shV,noY,bG,(jD _).2,trM]⟩,hq _ _ _ _ ⟨rfl,rfl,rfl,rfl⟩⟩
  exact ⟨by simp[aL,old,(bGc ks).1],by simp[bG,noY,(bGc ks).2],_,1000,⟨iB,iZ,bY,bAn⟩,rfl,h⟩
 ·exact hc.elim
end Go.Proofs.YtnhechnaemmdiaaGreatDoor

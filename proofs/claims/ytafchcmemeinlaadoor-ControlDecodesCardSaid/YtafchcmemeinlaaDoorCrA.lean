/-
  Chapter 24: the reference's reader: number: residual.
-/
import Derived.Test.YtafchcmemeinlaaDoorCmC
import Derived.Test.YtafchcmemeinlaaDoorC24QR
set_option linter.unusedSimpArgs false
set_option linter.unusedVariables false
set_option linter.unusedSectionVars false
namespace Go.Proofs.YtafchcmemeinlaaDoor
open Go.RowKit
set_option maxRecDepth 1000000

def nbM (s:List UInt8):Nat→Nat
 | 0=>0
 | i+1=>nbM s i*256+(s.getD i 0).toNat
def bHa (s:List UInt8) (n:Int) (z:S):List (List LInv):=[[{ α:=Nat,pre:=fun i=>Lf (i≤4∧(i:Int)≤n),st:=fun i=>⟨mkT [(0,z.tm.get 0),(1,z.tm.get 1),(5,.int .i64 (nbM s i:Nat)),(6,.int .i64 (i:Nat))],[⟨.exact,true,[.str (s.drop i)]⟩]⟩,mu:=fun i=>4-i }]]
noncomputable def aZm (hv:Nat→Option Pa) (hb:Nat→Option Bool) (s:List UInt8) (n:Int):Env:=e24 sm0 (fun i=>bif Nat.beq i 62000 then some (bHa s n) else none) hv hb
noncomputable def aIy (hv:Nat→Option Pa) (hb:Nat→Option Bool) (s:List UInt8) (n:Int) (Q:Out→List Blk→Gh→Prop):Prop:=
 bH (aZm hv hb s n) (wpx (aZm hv hb s n) 1000) 62 [.ptr 0 1 0,.int .i64 n] [⟨.exact,true,[.str s]⟩] {} Q
theorem bP4 (s:List UInt8) (n:Int) (Q:Out→List Blk→Gh→Prop):aIy (bG [(253959,.int .i64),(253964,.int .i64),(253965,.int .i64),(253969,.str),(253970,.int .i64),(253976,.str),(253977,.int .u8),(253978,
 .int .i64),(253979,.int .i64),(253984,.str),(253985,.str),(253962,.int .i64),(253963,.int .i64),(253988,.int .i64)]) (bF []) s n Q=((∃x_0:Nat,Lf (x_0≤4∧(x_0:Int)≤n)∧[AV.str s]=[AV.str (s.drop x_0)]∧aK
 (AV.ptr 0 1 0)∧aK (AV.int .i64 n)∧AV.int .i64 0=AV.int .i64 (nbM s x_0:Int)∧AV.int .i64 0=AV.int .i64 (x_0:Int)∧True)∧∀x_0:Nat,Lf (x_0≤4∧(x_0:Int)≤n)→exI .i64 (x_0:Int) fun n_1=>bif decide (n_1<n)
 then exI .i64 (nbM s x_0:Int) fun n_2=>exW .i64 (n_2*256) fun n_3=>exS (.str (s.drop x_0)) fun s_4=>exI .i64 (s_4.length:Int) fun n_5=>bif decide (n_5>0) then exS (.str (s.drop x_0)) fun s_6=>ckQ (Nat.blt 0 s_6.length)
 (exI .u8 (UInt8.toNat (s_6.getD 0 (UInt8.ofNat 0)):Int) fun n_7=>exW .i64 n_7 fun n_8=>exW .i64 (n_3+n_8) fun n_9=>exS (.str (s.drop x_0)) fun s_10=>ckQ (Nat.ble 1 s_10.length&&Nat.ble s_10.length s_10.length) (exS (.str
 ((s_10.drop 1).take (s_10.length-1))) fun s_11=>exI .i64 (x_0:Int) fun n_12=>exW .i64 (n_12+1) fun n_13=>(True∧(0:Nat)=(0:Nat))∧∃y_14:Nat,Lf (y_14≤4∧(y_14:Int)≤n)∧4-y_14<4-x_0∧[AV.str s_11] =
 [AV.str (s.drop y_14)]∧aK (AV.ptr 0 1 0)∧aK (AV.int .i64 n)∧AV.int .i64 n_9=AV.int .i64 (nbM s y_14:Int)∧AV.int .i64 n_13=AV.int .i64 (y_14:Int)∧True)) else exI .i64 (x_0:Int) fun n_6=>exW .i64 (n_6+1) fun n_7
 => (True∧(0:Nat)=(0:Nat))∧∃y_8:Nat,Lf (y_8≤4∧(y_8:Int)≤n)∧4-y_8<4-x_0∧[AV.str (s.drop x_0)]=[AV.str (s.drop y_8)]∧aK (AV.ptr 0 1 0)∧aK (AV.int .i64 n)∧AV.int .i64 n_3=AV.int .i64 (nbM s y_8 :
 Int)∧AV.int .i64 n_7=AV.int .i64 (y_8:Int)∧True else exI .i64 (nbM s x_0:Int) fun n_2=>Q (.ret (.int .i64 n_2)) [Blk.mk BK.exact true [.str (s.drop x_0)]] {}):=by kernel_rfl

end Go.Proofs.YtafchcmemeinlaaDoor

set_option linter.unusedSimpArgs false
set_option linter.unusedVariables false
set_option linter.unusedSectionVars false
namespace Go.Proofs.YtafchcmemeinlaaDoor
open Go.RowKit
set_option maxRecDepth 1000000

theorem bLa {b:Bool} {p:Prop} (h:bif b then p else False):b=true∧p:=by
 cases b
 ·exact h.elim
 ·exact ⟨rfl,h⟩
def bKj (tot:Nat) (g:List AV→List AV→(Out→List AV→Prop)→Prop):Con
 | .ptr i t 0::rest,H,K=>match H.getD i ⟨.ro,false,[]⟩ with
  | ⟨.exact,true,cs⟩=>bif (Nat.blt i H.length&&(Nat.beq t tot&&(bB 0 rest&&(bQ rest&&(bB 0 cs&&bQ cs))))) then g rest cs fun o cs'=>K o (H.set i ⟨.exact,true,cs'⟩) else False
  | _=>False
 | _,_,_=>False
theorem aO7 {P:Program} {gl:Nat→Option (List AV)} {f:FuncId} {tot:Nat} {g:List AV→List AV→(Out→List AV→Prop)→Prop} (he:Enters P f) (hgl:∀g cs,gl g=some cs→bQ cs=true)
  (h:∀rest cs R,bB 0 rest=true→bQ rest=true→bB 0 cs=true→bQ cs=true→g rest cs R→∃ (E:Env) (n:Nat),EnvFor P E∧E.gl=gl ∧
   bH E (wpx E n) f (.ptr 0 tot 0::rest) [⟨.exact,true,cs⟩] {} fun o H' _=>∃cs',H'=[⟨.exact,true,cs'⟩]∧bB 0 cs'=true∧bQ cs'=true∧(∃v,o=.ret v∧old 0 v=true∧noY v=true)∧R o cs'):aO P gl f (bKj tot g):=by
 refine iF he hgl fun args H Q hc => ?_
 unfold bKj at hc
 split at hc
 ·rename_i i t rest
  split at hc
  ·rename_i cs hb
   obtain ⟨hz,hg⟩:=bLa hc
   simp only[Bool.and_eq_true] at hz
   obtain ⟨h0,ht,h1,h2,h3,h4⟩:=hz
   obtain rfl:=Nat.eq_of_beq_eq_true ht
   rw[aL] at h0
   have hi:H[i]? = some ⟨.exact,true,cs⟩:=by
    rw[List.getD_eq_getElem?_getD,List.getElem?_eq_getElem h0] at hb
    rw[List.getElem?_eq_getElem h0]
    exact congrArg some hb
   obtain ⟨E,n,k1,k2,k3⟩:=h rest cs _ h1 h2 h3 h4 hg
   refine ⟨E,n,fun _=>i,.ptr 0 t 0::rest,[⟨.exact,true,cs⟩],_,k1,k2, ?_, ?_, ?_,⟨?_, ?_, ?_⟩,k3, ?_⟩
   ·simp only[qV,ren,bC _ rest h1 h2]
   ·simp only[bB,old,Bool.and_eq_true]
    exact ⟨by simp,dU (Nat.zero_le _) _ h1⟩
   ·simp only[bQ,noY,Bool.and_eq_true]
    exact ⟨trivial,h2⟩
   ·intro j b0 hj
    match j,hj with
    | 0,hj=>
     cases hj
     exact ⟨h0,dU (Nat.zero_le _) _ h3,h4,fun _=>h3,_,hi,(bC _ cs h3 h4).symm,.inr rfl⟩
   ·intro j j' b0 hj _ hj' _
    have:j<1:=(List.getElem?_eq_some_iff.1 hj).1
    simp at hj'
    omega
   ·intro j b0 hj
    match j,hj with
    | 0,hj=>
     cases hj
     exact fun h=>by cases h
   ·rintro o H0' g' ⟨cs',rfl,q1,q2,⟨v,rfl,q3,q4⟩,q5⟩
    refine ⟨H.set i ⟨.exact,true,cs'⟩,⟨by simp, ?_, ?_, ?_,by simp, ?_, ?_⟩, ?_⟩
    ·intro j b0 hj hk
     match j,hj with
     | 0,hj=>cases hj;cases hk
    ·intro j b0 hj hk
     match j,hj with
     | 0,hj=>cases hj;exact ⟨_,rfl,rfl⟩
    ·intro j b0 hj hk
     have h7:=(List.getElem?_eq_some_iff.1 hk).1
     simp at h7 hj
     omega
    ·intro id hid hn
     have:i≠id:=hn 0 _ rfl (fun h=>by cases h)
     rw[List.getElem?_set_ne this]
    ·intro j b hj _
     match j,hj with
     | 0,hj=>
      cases hj
      simp only[sig,aD1,bC _ cs' q1 q2]
      rw[if_pos (by simp),List.getElem?_set_self h0]
    ·simp only[aM6,uZ _ v q3 q4]
     exact q5
  ·exact hc.elim
 ·exact hc.elim
theorem mZ (s:List UInt8):∀i,nbM s i<256^i
 | 0=>by simp[nbM]
 | i+1=>by
  have h1:=mZ s i
  have h2:=(s.getD i 0).toNat_lt
  rw[nbM,Nat.pow_succ]
  omega
theorem bC1 (s:List UInt8) (n:Nat) (hn:n≤4) (hs:s.length≤9223372036854775807) (Q:Out→List Blk→Gh→Prop) (hq:Q (.ret (.int .i64 (nbM s n:Nat))) [⟨.exact,true,[.str (s.drop n)]⟩] {}):∃hv hb,aIy hv hb s n Q:=by
 obtain ⟨hv',hb',e'⟩:∃hv hb,aIy hv hb s n Q=_:=⟨_,_,bP4 s n Q⟩
 refine ⟨hv',hb',e'.mpr ?_⟩
 clear e'
 refine ⟨⟨0,⟨by omega,by omega⟩,rfl,rfl,rfl,rfl,rfl,trivial⟩, ?_⟩
 rintro i ⟨h1,h2⟩
 refine ⟨_,rfl,aD (fun h => ?_) (fun h => ?_)⟩
 ·have hb:=mZ s i
  have h3:i≤3:=by omega
  have h4:256^i≤256^3:=Nat.pow_le_pow_right (by decide) h3
  have p3:(256:Nat)^3=16777216:=by decide
  refine ⟨_,rfl,aC (by omega) (by omega) ⟨_,rfl,_,rfl,aD (fun hl => ?_) (fun hl => ?_)⟩⟩
  ·rw[List.length_drop] at hl
   have hi:i<s.length:=by omega
   have e1:List.getD (List.drop i s) 0 (UInt8.ofNat 0)=s.getD i 0:=by simp[List.getD_eq_getElem?_getD]
   have hc:=(s.getD i 0).toNat_lt
   refine ⟨_,rfl,ckI (by simp;omega) ⟨_,rfl, ?_⟩⟩
   rw[e1]
   refine aC (by omega) (by omega) (aC (by omega) (by omega) ⟨_,rfl,ckI (by simp;omega) ⟨_,rfl,_,rfl,aC (by omega) (by omega) ⟨⟨trivial,rfl⟩,i+1,⟨by omega,by omega⟩,by omega, ?_,rfl,rfl, ?_,rfl,trivial⟩⟩⟩)
   ·rw[List.take_of_length_le (by simp;omega),List.drop_drop]
   ·rw[nbM]
    simp
  ·rw[List.length_drop] at hl
   have hi:s.length≤i:=by omega
   refine ⟨_,rfl,aC (by omega) (by omega) ⟨⟨trivial,rfl⟩,i+1,⟨by omega,by omega⟩,by omega, ?_,rfl,rfl, ?_,rfl,trivial⟩⟩
   ·rw[List.drop_eq_nil_of_le hi,List.drop_eq_nil_of_le (by omega)]
   ·rw[nbM,List.getD_eq_getElem?_getD,List.getElem?_eq_none hi]
    simp
 ·obtain rfl:i=n:=by omega
  exact ⟨_,rfl,hq⟩
def bLj (rest cs:List AV) (K:Out→List AV→Prop):Prop:=match rest,cs with
 | [.int .i64 n],[.str s]=>∃k:Nat,Lf (n=(k:Int)∧k≤4∧s.length≤9223372036854775807)∧K (.ret (.int .i64 (nbM s k:Nat))) [.str (s.drop k)]
 | _,_=>False
theorem aK1:aO Tryd.prog glC 62 (bKj 1 bLj):=by
 refine aO7 (enters_of (by kernel_rfl)) aV fun rest cs R _ _ _ _ hg => ?_
 unfold bLj at hg
 split at hg
 ·rename_i n s _ _ _ _
  obtain ⟨k,⟨rfl,h1,h2⟩,hq⟩:=hg
  obtain ⟨hv,hb',h⟩:=bC1 s k h1 h2 (Q:=fun o H' _=>∃cs',H'=[⟨.exact,true,cs'⟩]∧bB 0 cs'=true∧bQ cs'=true∧(∃v,o=.ret v∧old 0 v=true∧noY v=true)∧R o cs') ⟨_,rfl,rfl,rfl,⟨_,rfl,rfl,rfl⟩,hq⟩
  exact ⟨_,1000,aS fB _ hv hb',rfl,h⟩
 ·exact hg.elim
end Go.Proofs.YtafchcmemeinlaaDoor

set_option linter.unusedSimpArgs false
set_option linter.unusedVariables false
set_option linter.unusedSectionVars false
namespace Go.Proofs.YtafchcmemeinlaaDoor
open Go.RowKit
set_option maxRecDepth 1000000

def xA (x:Nat):Int:=if 8388608≤x then (x:Int)-16777216 else (x:Int)
def zD (s:List UInt8):Rc:=((nbM s 4:Nat),(nbM (s.drop 4) 1:Nat),xA (nbM (s.drop 5) 3),(nbM (s.drop 8) 4:Nat),(nbM (s.drop 12) 4:Nat),(nbM (s.drop 16) 4:Nat),(nbM (s.drop 20) 4:Nat))
def fT (s:List UInt8):Nat→List Rc
 | 0=>[]
 | i+1=>fT s i++[zD (s.drop (24*i))]
def bHu (s:List UInt8) (n:Int) (z:S):List (List LInv):=[[
 { α:=Nat,pre:=fun x=>Lf (x=0),st:=fun _=>⟨mkT [(0,z.tm.get 0),(1,z.tm.get 1),(5,.nils),(6,.int .i64 0)],[⟨.exact,true,[.str s]⟩]⟩,mu:=fun _=>100 },
 { α:=Nat,pre:=fun i=>Lf (1≤i∧i≤31∧(i:Int)≤n),st:=fun i=>⟨mkT [(0,z.tm.get 0),(1,z.tm.get 1),(5,.sl 2 (7*i) 0 i 7),(6,.int .i64 (i:Nat))],[⟨.exact,true,[.str (s.drop (24*i))]⟩,⟨.exact,true,oW (zD s)⟩,⟨.grow,true,aF (fT s i)⟩]⟩,mu:=fun i=>64-i }]]
def bOt:SM:=gH [(62,bKj 1 bLj)]
theorem aSw:∀f g,bOt f=some g→aO Tryd.prog glC f g:=bW _ (by simp only[List.mem_cons,List.not_mem_nil,or_false,forall_eq_or_imp,forall_eq];exact aK1)
noncomputable def aY9 (hv:Nat→Option Pa) (hb:Nat→Option Bool) (s:List UInt8) (n:Int):Env:=e24 bOt (fun i=>bif Nat.beq i 63000 then some (bHu s n) else none) hv hb
noncomputable def aIc (hv:Nat→Option Pa) (hb:Nat→Option Bool) (s:List UInt8) (n:Int) (Q:Out→List Blk→Gh→Prop):Prop:=
 bH (aY9 hv hb s n) (wpx (aY9 hv hb s n) 1000) 63 [.ptr 0 1 0,.int .i64 n] [⟨.exact,true,[.str s]⟩] {} Q
abbrev bKz (x_0:Nat) (n:Int):Prop:=Lf (1≤x_0∧x_0≤31∧(x_0:Int)≤n)
abbrev bFm (x_0:Nat) (s:List UInt8):List UInt8:=s.drop (24*x_0)
abbrev bE7 (k_6 k_4 k_2:Nat) (s:List UInt8):List UInt8:=((s.drop k_2).drop k_4).drop k_6
abbrev aVh (k_9 k_6 k_4 k_2:Nat) (s:List UInt8):List UInt8:=(((s.drop k_2).drop k_4).drop k_6).drop k_9
abbrev bMr (n_3 n_5 n_8 n_10 n_12 n_14 n_16:Int):List AV:=[.int .i64 n_3,.int .i64 n_5,.int .i64 n_8,.int .i64 n_10,.int .i64 n_12,.int .i64 n_14,.int .i64 n_16]
abbrev bOi (s:List UInt8):List AV:=[.int .i64 (zD s).1,.int .i64 (zD s).2.1,.int .i64 (zD s).2.2.1,.int .i64 (zD s).2.2.2.1,.int .i64 (zD s).2.2.2.2.1,.int .i64 (zD s).2.2.2.2.2.1,.int .i64 (zD s).2.2.2.2.2.2]
abbrev bOq (k_6 k_4 k_2:Nat) (s:List UInt8) (n n_3 n_5 n_8:Int):Prop:=∃k_9:Nat,Lf (4=(k_9:Int)∧k_9≤4∧(bE7 k_6 k_4 k_2 s).length≤9223372036854775807)∧exI .i64 (nbM (bE7 k_6 k_4 k_2 s) k_9:Int) (fun n_10=>∃k_11:Nat,Lf (4=(k_11:Int)∧k_11≤4∧(aVh k_9 k_6 k_4 k_2 s).length≤9223372036854775807)∧exI .i64 (nbM (aVh k_9 k_6 k_4 k_2 s) k_11:Int) (fun n_12=>∃k_13:Nat,Lf (4=(k_13:Int)∧k_13≤4∧((aVh k_9 k_6 k_4 k_2 s).drop k_11).length≤9223372036854775807)∧exI .i64 (nbM ((aVh k_9 k_6 k_4 k_2 s).drop k_11) k_13:Int) (fun n_14=>∃k_15:Nat,Lf (4=(k_15:Int)∧k_15≤4∧(((aVh k_9 k_6 k_4 k_2 s).drop k_11).drop k_13).length≤9223372036854775807)∧exI .i64 (nbM (((aVh k_9 k_6 k_4 k_2 s).drop k_11).drop k_13) k_15:Int) (fun n_16=>exI .i64 0 (fun n_17=>exW .i64 (n_17+1) (fun n_18=>(True∧(0:Nat)=(0:Nat))∧((∃y_19:Nat,Lf (y_19=0)∧(100:Nat)<(100:Nat)∧[AV.str ((((aVh k_9 k_6 k_4 k_2 s).drop k_11).drop k_13).drop k_15)]=[AV.str s]∧False)∨∃y_19:Nat,bKz y_19 n∧64-y_19<100∧[AV.str ((((aVh k_9 k_6 k_4 k_2 s).drop k_11).drop k_13).drop k_15)]=[AV.str (bFm y_19 s)]∧bMr n_3 n_5 n_8 n_10 n_12 n_14 n_16=bOi s∧bMr n_3 n_5 n_8 n_10 n_12 n_14 n_16=aF (fT s y_19)∧aK (AV.ptr 0 1 0)∧aK (AV.int .i64 n)∧AV.sl 2 7 0 1 7=AV.sl 2 (7*y_19) 0 y_19 7∧AV.int .i64 n_18=AV.int .i64 (y_19:Int)∧True)))))))
abbrev bOa (k_2 x_0:Nat) (s:List UInt8):List UInt8:=(s.drop (24*x_0)).drop k_2
abbrev bOk (k_4 k_2 x_0:Nat) (s:List UInt8):List UInt8:=((s.drop (24*x_0)).drop k_2).drop k_4
abbrev aQn (k_6 k_4 k_2 x_0:Nat) (s:List UInt8):List UInt8:=(((s.drop (24*x_0)).drop k_2).drop k_4).drop k_6
abbrev bNv (k_6 k_4 k_2 x_0:Nat) (s:List UInt8) (n n_3 n_5 n_8:Int):Prop:=∃k_9:Nat,Lf (4=(k_9:Int)∧k_9≤4∧(aQn k_6 k_4 k_2 x_0 s).length≤9223372036854775807)∧exI .i64 (nbM (aQn k_6 k_4 k_2 x_0 s) k_9:Int) (fun n_10=>∃k_11:Nat,Lf (4=(k_11:Int)∧k_11≤4∧((aQn k_6 k_4 k_2 x_0 s).drop k_9).length≤9223372036854775807)∧exI .i64 (nbM ((aQn k_6 k_4 k_2 x_0 s).drop k_9) k_11:Int) (fun n_12=>∃k_13:Nat,Lf (4=(k_13:Int)∧k_13≤4∧(((aQn k_6 k_4 k_2 x_0 s).drop k_9).drop k_11).length≤9223372036854775807)∧exI .i64 (nbM (((aQn k_6 k_4 k_2 x_0 s).drop k_9).drop k_11) k_13:Int) (fun n_14=>∃k_15:Nat,Lf (4=(k_15:Int)∧k_15≤4∧((((aQn k_6 k_4 k_2 x_0 s).drop k_9).drop k_11).drop k_13).length≤9223372036854775807)∧exI .i64 (nbM ((((aQn k_6 k_4 k_2 x_0 s).drop k_9).drop k_11).drop k_13) k_15:Int) (fun n_16=>ckQ (Nat.beq (aF (fT s x_0)).length (7*x_0)&&true&&Nat.beq (0+x_0*7) (7*x_0)&&Nat.ble (x_0+1) 1099511627776&&Nat.ble ((x_0+1)*56) 1099511627776) (exI .i64 (x_0:Int) (fun n_17=>exW .i64 (n_17+1) (fun n_18=>(True∧(0:Nat)=(0:Nat))∧((∃y_19:Nat,Lf (y_19=0)∧100<64-x_0∧[AV.str (((((aQn k_6 k_4 k_2 x_0 s).drop k_9).drop k_11).drop k_13).drop k_15)]=[AV.str s]∧False)∨∃y_19:Nat,bKz y_19 n∧64-y_19<64-x_0∧[AV.str (((((aQn k_6 k_4 k_2 x_0 s).drop k_9).drop k_11).drop k_13).drop k_15)]=[AV.str (bFm y_19 s)]∧aK (bOi s)∧aF (fT s x_0)++bMr n_3 n_5 n_8 n_10 n_12 n_14 n_16=aF (fT s y_19)∧aK (AV.ptr 0 1 0)∧aK (AV.int .i64 n)∧AV.sl 2 (7*x_0+7) 0 (x_0+1) 7=AV.sl 2 (7*y_19) 0 y_19 7∧AV.int .i64 n_18=AV.int .i64 (y_19:Int)∧True))))))))
theorem bO2 (s:List UInt8) (n:Int) (Q:Out→List Blk→Gh→Prop):aIc (bG [(258062,.int .i64),(258064,.int .i64),(258066,.int .i64),(258073,.int .i64),(258076,.int .i64),(258079,.int .i64),(258082,.int .i64),
 (258085,.int .i64),(258056,.int .i64),(258059,.int .i64),(258060,.int .i64)]) (bF []) s n Q=(((∃x_0:Nat,Lf (x_0=0)∧aK [AV.str s]∧aK (AV.ptr 0 1 0)∧aK (AV.int .i64 n)∧AV.nils=AV.nils∧aK (AV.int .i64 0)
 ∧ True)∨∃x_0:Nat,bKz x_0 n∧[AV.str s]=[AV.str (bFm x_0 s)]∧False)∧(∀x_0:Nat,Lf (x_0=0)→exI .i64 0 (fun n_1=>bif decide (n_1<n) then ∃k_2:Nat,Lf (4=(k_2:Int)∧k_2≤4∧s.length≤9223372036854775807) ∧
 exI .i64 (nbM s k_2:Int) (fun n_3=>∃k_4:Nat,Lf (1=(k_4:Int)∧k_4≤4∧(s.drop k_2).length≤9223372036854775807)∧exI .i64 (nbM (s.drop k_2) k_4:Int) (fun n_5=>∃k_6:Nat,Lf (3=(k_6:Int)∧k_6≤4∧((s.drop
 k_2).drop k_4).length≤9223372036854775807)∧exI .i64 (nbM ((s.drop k_2).drop k_4) k_6:Int) (fun n_7=>bif decide (n_7≥8388608) then exW .i64 (n_7-16777216) (fun n_8=>bOq k_6 k_4 k_2 s n n_3 n_5 n_8) else bOq k_6 k_4 k_2 s n
 n_3 n_5 n_7))) else Q (.ret .nils) [Blk.mk BK.exact true [.str s]] {}))∧∀x_0:Nat,bKz x_0 n→exI .i64 (x_0:Int) (fun n_1=>bif decide (n_1<n) then ∃k_2:Nat,Lf (4=(k_2:Int)∧k_2≤4∧(bFm x_0 s).length ≤
 9223372036854775807)∧exI .i64 (nbM (bFm x_0 s) k_2:Int) (fun n_3=>∃k_4:Nat,Lf (1=(k_4:Int)∧k_4≤4∧(bOa k_2 x_0 s).length≤9223372036854775807)∧exI .i64 (nbM (bOa k_2 x_0 s) k_4:Int) (fun n_5=>∃k_6:Nat,Lf (3
 = (k_6:Int)∧k_6≤4∧(bOk k_4 k_2 x_0 s).length≤9223372036854775807)∧exI .i64 (nbM (bOk k_4 k_2 x_0 s) k_6:Int) (fun n_7=>bif decide (n_7≥8388608) then exW .i64 (n_7-16777216) (fun n_8=>bNv k_6 k_4 k_2 x_0 s n n_3 n_5
 n_8) else bNv k_6 k_4 k_2 x_0 s n n_3 n_5 n_7))) else Q (.ret (.sl 2 (7*x_0) 0 x_0 7)) [Blk.mk BK.exact true [.str (bFm x_0 s)],Blk.mk BK.exact true (oW (zD s)),Blk.mk BK.grow true (aF (fT s x_0))] {})):=by kernel_rfl

end Go.Proofs.YtafchcmemeinlaaDoor

set_option linter.unusedSimpArgs false
set_option linter.unusedVariables false
set_option linter.unusedSectionVars false
namespace Go.Proofs.YtafchcmemeinlaaDoor
open Go.RowKit
set_option maxRecDepth 1000000

def aLt (tot:Nat) (g:List AV→List AV→((Nat→Out)→List AV→List Blk→Prop)→Prop):Con
 | .ptr i t 0::rest,H,K=>match H.getD i ⟨.ro,false,[]⟩ with
  | ⟨.exact,true,cs⟩=>bif (Nat.blt i H.length&&(Nat.beq t tot&&(bB 0 rest&&(bQ rest&&(bB 0 cs&&bQ cs))))) then g rest cs fun o cs' nw=>K (o H.length) (H.set i ⟨.exact,true,cs'⟩++nw) else False
  | _=>False
 | _,_,_=>False
theorem aA3 {P:Program} {gl:Nat→Option (List AV)} {f:FuncId} {tot:Nat} {g:List AV→List AV→((Nat→Out)→List AV→List Blk→Prop)→Prop} (he:Enters P f) (hgl:∀g cs,gl g=some cs→bQ cs=true)
  (h:∀rest cs R,bB 0 rest=true→bQ rest=true→bB 0 cs=true→bQ cs=true→g rest cs R→∃ (E:Env) (n:Nat),EnvFor P E∧E.gl=gl ∧
   bH E (wpx E n) f (.ptr 0 tot 0::rest) [⟨.exact,true,cs⟩] {} fun o H' _=>∃of cs' nw,H'=⟨.exact,true,cs'⟩::nw∧bB 0 cs'=true∧bQ cs'=true∧(∀b∈nw,b.k≠.ro∧bB 0 b.cs=true∧bQ b.cs=true)∧o=of 1∧(∀i N,aM6 (sig (fun _=>i) 1 N) o=of N)∧R of cs' nw):aO P gl f (aLt tot g):=by
 refine iF he hgl fun args H Q hc => ?_
 unfold aLt at hc
 split at hc
 ·rename_i i t rest
  split at hc
  ·rename_i cs hb
   obtain ⟨hz,hg⟩:=bLa hc
   simp only[Bool.and_eq_true] at hz
   obtain ⟨h0,ht,h1,h2,h3,h4⟩:=hz
   obtain rfl:=Nat.eq_of_beq_eq_true ht
   rw[aL] at h0
   have hi:H[i]? = some ⟨.exact,true,cs⟩:=by
    rw[List.getD_eq_getElem?_getD,List.getElem?_eq_getElem h0] at hb
    rw[List.getElem?_eq_getElem h0]
    exact congrArg some hb
   obtain ⟨E,n,k1,k2,k3⟩:=h rest cs _ h1 h2 h3 h4 hg
   refine ⟨E,n,fun _=>i,.ptr 0 t 0::rest,[⟨.exact,true,cs⟩],_,k1,k2, ?_, ?_, ?_,⟨?_, ?_, ?_⟩,k3, ?_⟩
   ·simp only[qV,ren,bC _ rest h1 h2]
   ·simp only[bB,old,Bool.and_eq_true]
    exact ⟨by simp,dU (Nat.zero_le _) _ h1⟩
   ·simp only[bQ,noY,Bool.and_eq_true]
    exact ⟨trivial,h2⟩
   ·intro j b0 hj
    match j,hj with
    | 0,hj=>
     cases hj
     exact ⟨h0,dU (Nat.zero_le _) _ h3,h4,fun _=>h3,_,hi,(bC _ cs h3 h4).symm,.inr rfl⟩
   ·intro j j' b0 hj _ hj' _
    have:j<1:=(List.getElem?_eq_some_iff.1 hj).1
    simp at hj'
    omega
   ·intro j b0 hj
    match j,hj with
    | 0,hj=>
     cases hj
     exact fun h=>by cases h
   ·rintro o H0' g' ⟨of,cs',nw,rfl,q1,q2,qn,q3,q4,q5⟩
    refine ⟨H.set i ⟨.exact,true,cs'⟩++nw,⟨by simp, ?_, ?_, ?_,by simp, ?_, ?_⟩, ?_⟩
    ·intro j b0 hj hk
     match j,hj with
     | 0,hj=>cases hj;cases hk
    ·intro j b0 hj hk
     match j,hj with
     | 0,hj=>cases hj;exact ⟨_,rfl,rfl⟩
    ·intro j b0 hj hk
     match j,hj,hk with
     | 0,hj,_=>simp at hj
     | j+1,_,hk=>
      rw[List.getElem?_cons_succ] at hk
      exact (qn b0 (List.mem_of_getElem? hk)).1
    ·intro id hid hn
     have:i≠id:=hn 0 _ rfl (fun h=>by cases h)
     rw[List.getElem?_append_left (by simpa using hid),List.getElem?_set_ne this]
    ·intro j b hj _
     match j,hj with
     | 0,hj=>
      cases hj
      simp only[sig,aD1,bC _ cs' q1 q2]
      rw[if_pos (by simp),List.getElem?_append_left (by simpa using h0),List.getElem?_set_self h0]
     | j+1,hj=>
      rw[List.getElem?_cons_succ] at hj
      obtain ⟨_,c1,c2⟩:=qn b (List.mem_of_getElem? hj)
      simp only[sig,aD1,bC _ b.cs c1 c2]
      rw[if_neg (by simp),List.getElem?_append_right (by simp)]
      simpa using hj
    ·show Q (aM6 (sig (fun _=>i) 1 H.length) o) _
     rw[q4]
     exact q5
  ·exact hc.elim
 ·exact hc.elim
end Go.Proofs.YtafchcmemeinlaaDoor

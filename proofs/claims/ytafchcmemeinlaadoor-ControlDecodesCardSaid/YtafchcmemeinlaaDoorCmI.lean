/-
  Chapter 24, the reference: numbers and receptions as octets.
-/
import Derived.Test.YtafchcmemeinlaaDoorC24XK
import Derived.Test.YtafchcmemeinlaaDoorC24QR
set_option linter.unusedSimpArgs false
set_option linter.unusedVariables false
set_option linter.unusedSectionVars false
namespace Go.Proofs.YtafchcmemeinlaaDoor
open Go.RowKit
set_option maxRecDepth 1000000

def bK1 (k:Nat) (v:Int):LInv where
 α:=Nat
 pre i:=Lf (i≤k)
 st i:=⟨mkT [(0,.int .i64 (k:Nat)),(1,.int .i64 (v/256^i)),(5,.str (beM v i)),(6,.int .i64 (i:Nat))],[]⟩
 mu i:=k-i
noncomputable def aYw (hv:Nat→Option Pa) (hb:Nat→Option Bool) (k:Nat) (v:Int):Env:=e24 sm0 (fun i=>bif Nat.beq i 74000 then some (fun _=>[[bK1 k v]]) else none) hv hb
noncomputable def aGl (hv:Nat→Option Pa) (hb:Nat→Option Bool) (k:Nat) (v:Int) (Q:Out→List Blk→Gh→Prop):Prop:=
 bH (aYw hv hb k v) (wpx (aYw hv hb k v) 1000) 74 [.int .i64 (k:Nat),.int .i64 v] [] {} Q
abbrev aMd (k:Nat):AV:=.int .i64 (k:Int)
abbrev aTy (s_6 s_7:List UInt8):Bool:=decide (s_6.length+s_7.length≤9223372036854775807)&&true
abbrev bGk:Prop:=True∧(0:Nat)=(0:Nat)
theorem bPb (k:Nat) (v:Int) (Q:Out→List Blk→Gh→Prop):aGl (bG [(303111,.int .i64),(303112,.int .i64),(303116,.int .i64),(303117,.int .i64),(303118,.int .u8),(303120,.str),(303121,.str),(303122,.str),(303123,.int .i64),(303124,.int .i64),(303114,.int .i64),(303115,.int .i64),(303125,.str)]) (bF []) k v Q=((∃x_0:Nat,Lf (x_0≤k)∧aK (aMd k)∧AV.int .i64 v=AV.int .i64 (v/(256:Int)^x_0)∧AV.str []=AV.str (beM v x_0)∧AV.int .i64 0=aMd x_0∧True)∧∀x_0:Nat,Lf (x_0≤k)→exI .i64 (x_0:Int) (fun n_1=>exI .i64 (k:Int) (fun n_2=>bif decide (n_1<n_2) then exI .i64 (v/(256:Int)^x_0) (fun n_3=>exI .i64 (n_3.tmod 256) (fun n_4=>exW .u8 n_4 (fun n_5=>exS (.str [toB (.int .u8 n_5)]) (fun s_6=>exS (.str (beM v x_0)) (fun s_7=>ckQ (aTy s_6 s_7) (exS (.str (s_6++s_7)) (fun s_8=>exI .i64 (v/(256:Int)^x_0) (fun n_9=>exW .i64 (n_9.tdiv 256) (fun n_10=>exI .i64 (x_0:Int) (fun n_11=>exW .i64 (n_11+1) (fun n_12=>bGk∧∃y_13:Nat,Lf (y_13≤k)∧k-y_13<k-x_0∧aK (aMd k)∧AV.int .i64 n_10=AV.int .i64 (v/(256:Int)^y_13)∧AV.str s_8=AV.str (beM v y_13)∧AV.int .i64 n_12=aMd y_13∧True))))))))))) else exS (.str (beM v x_0)) (fun s_3=>Q (.ret (.str s_3)) [] {})))):=by kernel_rfl

theorem bRm {x:Int} {n:Int} {i:Nat} (hx:x=n/256^i) (h0:0≤x):toB (AV.int .u8 (IntKind.wrap .u8 (Int.tmod x 256)))=kV n i:=by
 rw[Int.tmod_eq_emod_of_nonneg h0,IntKind.wrap_u8,kV,←hx,toB]
 congr 2
 omega
theorem bE8 (k:Nat) (v:Int) (hk:k≤8) (hv0:0≤v) (hv1:v≤9223372036854775807) (Q:Out→List Blk→Gh→Prop) (hq:Q (.ret (.str (beM v k))) [] {}):∃hv hb,aGl hv hb k v Q:=by
 obtain ⟨hv,hb',e⟩:∃hv hb,aGl hv hb k v Q=_:=⟨_,_,bPb k v Q⟩
 refine ⟨hv,hb',e.mpr ?_⟩
 delta aMd aTy bGk
 clear e
 refine ⟨⟨0,⟨by omega⟩,rfl,by rw[Int.pow_zero,Int.ediv_one],rfl,rfl,trivial⟩, ?_⟩
 rintro i ⟨hi⟩
 have hp:(0:Int)<256^i:=Int.pow_pos (by decide)
 have hd0:0≤v/256^i:=Int.ediv_nonneg hv0 (Int.le_of_lt hp)
 have hd1:v/256^i≤v:=Int.ediv_le_self _ hv0
 refine ⟨_,rfl,_,rfl,aD (fun hlt => ?_) (fun hge => ?_)⟩
 ·have htd:Int.tdiv (v/256^i) 256=v/256^(i+1):=by rw[Int.tdiv_eq_ediv_of_nonneg hd0,Int.ediv_ediv_of_nonneg (Int.le_of_lt hp),Int.pow_succ]
  have hp2:(0:Int)<256^(i+1):=Int.pow_pos (by decide)
  have hd2:0≤v/256^(i+1):=Int.ediv_nonneg hv0 (Int.le_of_lt hp2)
  have hd3:v/256^(i+1)≤v:=Int.ediv_le_self _ hv0
  refine ⟨_,rfl,_,rfl,_,rfl,_,rfl,_,rfl,ckI (by simp[gG];omega) ⟨_,rfl,_,rfl,aC (by rw[htd];omega) (by rw[htd];omega) ⟨_,rfl,aC (by omega) (by omega) ⟨⟨trivial,rfl⟩,i+1,⟨by omega⟩,by omega,rfl,by rw[htd], ?_,rfl,trivial⟩⟩⟩⟩
  rw[bRm rfl hd0]
  rfl
 ·have:i=k:=by omega
  subst this
  exact ⟨_,rfl,hq⟩
def bPp:Con
 | [.int .i64 k,.int .i64 v],H,K=>Lf ((0≤k∧k≤8)∧0≤v∧v≤9223372036854775807)∧K (.ret (.str (beM v k.toNat))) H
 | _,_,_=>False
theorem bLg:aO Tryd.prog glC 74 bPp:=by
 refine bE (enters_of (by kernel_rfl)) aV fun args H Q hc => ?_
 unfold bPp at hc
 split at hc
 ·rename_i k v
  obtain ⟨⟨⟨h0,h1⟩,h2,h3⟩,hq⟩:=hc
  obtain ⟨k,rfl⟩:∃m:Nat,k=m:=⟨k.toNat,by omega⟩
  rw[Int.toNat_natCast] at hq
  obtain ⟨hv,hb',h⟩:=bE8 k v (by omega) h2 h3 (fun o H' _=>H'=[]∧(∃v,o=.ret v∧old 0 v=true∧noY v=true)∧Q o H) ⟨rfl,⟨_,rfl,rfl,rfl⟩,hq⟩
  exact ⟨rfl,rfl,_,1000,aS fB _ _ _,rfl,h⟩
 ·exact hc.elim
def bQr:SM:=gH [(74,bPp)]
theorem bEx:∀f g,bQr f=some g→aO Tryd.prog glC f g:=bW _ (by simp only[List.mem_cons,List.not_mem_nil,or_false,forall_eq];exact bLg)
def bKe (t k:Nat) (xs:List Int):LInv where
 α:=Nat
 pre i:=Lf (i≤xs.length)
 st i:=⟨mkT [(0,.int .i64 (k:Nat)),(1,.lst t (aA xs) xs.length 1),(5,.str (aJ k (xs.take i))),(6,.int .i64 (i:Nat))],[]⟩
 mu i:=xs.length-i
noncomputable def aZb (hv:Nat→Option Pa) (hb:Nat→Option Bool) (t k:Nat) (xs:List Int):Env:=e24 bQr (fun i=>bif Nat.beq i 53000 then some (fun _=>[[bKe t k xs]]) else none) hv hb
noncomputable def aHv (hv:Nat→Option Pa) (hb:Nat→Option Bool) (t k:Nat) (xs:List Int) (Q:Out→List Blk→Gh→Prop):Prop:=
 bH (aZb hv hb t k xs) (wpx (aZb hv hb t k xs) 1000) 53 [.int .i64 (k:Nat),.lst t (aA xs) xs.length 1] [] {} Q
theorem bOm (t:Nat) (k:Nat) (xs:List Int) (Q:Out→List Blk→Gh→Prop):aHv (bG [(217095,.int .i64),(217097,.int .i64),(217101,.str),(217102,.int .i64),(217104,.int .i64),(217106,.int .i64),(217107,.str),(217108,.str),(217099,.int .i64),(217100,.int .i64),(217109,.str)]) (bF []) t k xs Q=((∃x_0:Nat,Lf (x_0≤xs.length)∧aK (aMd k)∧aK (AV.lst t (aA xs) xs.length 1)∧AV.str []=AV.str (aJ k (xs.take x_0))∧AV.int .i64 0=aMd x_0∧True)∧∀x_0:Nat,Lf (x_0≤xs.length)→exI .i64 (x_0:Int) (fun n_1=>exI .i64 (xs.length:Int) (fun n_2=>bif decide (n_1<n_2) then exS (.str (aJ k (xs.take x_0))) (fun s_3=>exI .i64 (k:Int) (fun n_4=>exI .i64 (x_0:Int) (fun n_5=>ckQ (decide (0≤n_5)&&Nat.blt n_5.toNat xs.length&&true) (ckQ (Nat.blt (n_5.toNat*1) (aA xs).length) (exV .i64 ((aA xs).getD (n_5.toNat*1) AV.undef) (fun n_6=>Lf ((0≤n_4∧n_4≤8)∧0≤n_6∧n_6≤9223372036854775807)∧exS (.str (beM n_6 n_4.toNat)) (fun s_7=>ckQ (aTy s_3 s_7) (exS (.str (s_3++s_7)) (fun s_8=>exI .i64 (x_0:Int) (fun n_9=>exW .i64 (n_9+1) (fun n_10=>bGk∧∃y_11:Nat,Lf (y_11≤xs.length)∧xs.length-y_11<xs.length-x_0∧aK (aMd k)∧aK (AV.lst t (aA xs) xs.length 1)∧AV.str s_8=AV.str (aJ k (xs.take y_11))∧AV.int .i64 n_10=aMd y_11∧True))))))))))) else exS (.str (aJ k (xs.take x_0))) (fun s_3=>Q (.ret (.str s_3)) [] {})))):=by kernel_rfl

theorem aA2 {xs:List Int} {i:Nat} (h:i<xs.length):xs.take (i+1)=xs.take i++[xs.getD i 0]:=by
 rw[List.take_add_one];simp[h]
theorem aTl (t k:Nat) (xs:List Int) (hk:k≤8) (hl:xs.length≤1000) (hx:∀x∈xs,0≤x∧x≤9223372036854775807) (Q:Out→List Blk→Gh→Prop) (hq:Q (.ret (.str (aJ k xs))) [] {}):∃hv hb,aHv hv hb t k xs Q:=by
 obtain ⟨hv,hb',e⟩:∃hv hb,aHv hv hb t k xs Q=_:=⟨_,_,bOm t k xs Q⟩
 refine ⟨hv,hb',e.mpr ?_⟩
 delta aMd aTy bGk
 clear e
 refine ⟨⟨0,⟨by omega⟩,rfl,rfl,rfl,rfl,trivial⟩, ?_⟩
 rintro i ⟨hi⟩
 have hpl:=aH k (xs.take i)
 rw[List.length_take] at hpl
 have hkl:k*min i xs.length≤8*1000:=Nat.mul_le_mul hk (by omega)
 refine ⟨_,rfl,_,rfl,aD (fun hlt => ?_) (fun hge => ?_)⟩
 ·have hm:xs.getD i 0∈xs:=by
   rw[List.getD_eq_getElem?_getD,List.getElem?_eq_getElem (by omega)];exact List.getElem_mem _
  have hx0:=hx _ hm
  refine ⟨_,rfl,_,rfl,_,rfl,ckI (by simp;omega) (ckI (by simp[aB];omega) (kS (i:=i) (by omega) (by omega) ⟨⟨by omega,hx0⟩,_,rfl,ckI (by simp[gG];omega) ⟨_,rfl,_,rfl,aC (by omega) (by omega) ⟨⟨trivial,rfl⟩,i+1,⟨by omega⟩,by omega,rfl,rfl, ?_,rfl,trivial⟩⟩⟩))⟩
  rw[aA2 (by omega),aQo,aJ,aJ,List.append_nil,Int.toNat_natCast]
 ·rw[List.take_of_length_le (by omega)]
  exact ⟨_,rfl,hq⟩
def aUd:Con
 | [.int .i64 k,.lst _ l n 1],H,K=>∃xs:List Int,Lf (l=aA xs∧n=xs.length∧xs.length≤1000∧(0≤k∧k≤8)∧∀x∈xs,0≤x∧x≤9223372036854775807)∧K (.ret (.str (aJ k.toNat xs))) H
 | _,_,_=>False
theorem aW9:aO Tryd.prog glC 53 aUd:=by
 refine bE (enters_of (by kernel_rfl)) aV fun args H Q hc => ?_
 unfold aUd at hc
 split at hc
 ·rename_i k t l n
  obtain ⟨xs,⟨rfl,rfl,hl,hk,hx⟩,hq⟩:=hc
  obtain ⟨k,rfl⟩:∃m:Nat,k=m:=⟨k.toNat,by omega⟩
  rw[Int.toNat_natCast] at hq
  obtain ⟨hv,hb',h⟩:=aTl t k xs (by omega) hl hx (fun o H' _=>H'=[]∧(∃v,o=.ret v∧old 0 v=true∧noY v=true)∧Q o H) ⟨rfl,⟨_,rfl,rfl,rfl⟩,hq⟩
  refine ⟨by simp[bB,old],by simp[bQ,noY],_,1000,aS bEx _ _ _,rfl,h⟩
 ·exact hc.elim
def aOc:Con:=fun args H Q=>uC [0,1] H args fun a=>aUd a H Q
theorem aSk:aO Tryd.prog glC 53 aOc:=dW aW9 aV [0,1] fun args H Q hc=>by
 unfold aUd at hc
 split at hc
 ·obtain ⟨xs,h,hq⟩:=hc
  exact ⟨xs,h,rfl,⟨_,rfl,rfl⟩,hq⟩
 ·exact hc.elim
def bM0:SM:=gH [(53,aOc)]
theorem aP4:∀f g,bM0 f=some g→aO Tryd.prog glC f g:=bW _ (by simp only[List.mem_cons,List.not_mem_nil,or_false,forall_eq];exact aSk)
def bIq (t:Nat) (rs:List Rc):LInv where
 α:=Nat
 pre i:=Lf (i≤rs.length)
 st i:=⟨mkT [(0,.lst t (aF rs) rs.length 7),(3,.str (bY (rs.take i))),(4,.int .i64 (i:Nat))],[]⟩
 mu i:=rs.length-i
noncomputable def aXy (hv:Nat→Option Pa) (hb:Nat→Option Bool) (t:Nat) (rs:List Rc):Env := { e24 bM0 (fun i=>bif Nat.beq i 54000 then some (fun _=>[[bIq t rs]]) else none) hv hb with hz:=fun k=>[221203,221208,221215,221226].any (Nat.beq k) }
noncomputable def aIq (hv:Nat→Option Pa) (hb:Nat→Option Bool) (t:Nat) (rs:List Rc) (Q:Out→List Blk→Gh→Prop):Prop:=
 bH (aXy hv hb t rs) (wpx (aXy hv hb t rs) 1000) 54 [.lst t (aF rs) rs.length 7] [] {} Q
abbrev bMc (xs_14:List Int):Prop:=∀x_15:Int,Membership.mem xs_14 x_15→0≤x_15∧x_15≤9223372036854775807
abbrev bO8 (xs_14:List Int):Prop:=xs_14.length≤1000∧((0:Int)≤(4:Int)∧(4:Int)≤(8:Int))∧bMc xs_14
theorem bPk (t:Nat) (rs:List Rc) (Q:Out→List Blk→Gh→Prop):aIq (bG [(221190,.int .i64),(221192,.int .i64),(221197,.int .i64),(221199,.agg [.int .i64,.int .i64,.int .i64,.int .i64,.int .i64,.int .i64,.int
 .i64]),(221200,.str),(221213,.int .i64),(221214,.int .i64),(221204,.str),(221205,.str),(221209,.str),(221210,.str),(221216,.str),(221217,.str),(221227,.str),(221228,.str),(221194,.int .i64),(221195,.int .i64),
 (221229,.str)]) (bF []) t rs Q=((∃x_0:Nat,Lf (x_0≤rs.length)∧aK (AV.lst t (aF rs) rs.length 7)∧AV.str []=AV.str (bY (rs.take x_0))∧AV.int .i64 0=aMd x_0∧True)∧∀x_0:Nat,Lf (x_0≤rs.length)→exI
 .i64 (x_0:Int) (fun n_1=>exI .i64 (rs.length:Int) (fun n_2=>bif decide (n_1<n_2) then exI .i64 (x_0:Int) (fun n_3=>ckQ (decide (0≤n_3)&&Nat.blt n_3.toNat rs.length&&true) (ckQ (Nat.ble (n_3.toNat*7+7) (aF
 rs).length) (∃n_4 n_5 n_6 n_7 n_8 n_9 n_10,AV.agg (((aF rs).drop (n_3.toNat*7)).take 7)=AV.agg [.int .i64 n_4,.int .i64 n_5,.int .i64 n_6,.int .i64 n_7,.int .i64 n_8,.int .i64 n_9,.int .i64 n_10]∧exS (.str (bY
 (rs.take x_0))) (fun s_11=>exW .i64 (n_6+16777216) (fun n_12=>exI .i64 (n_12.tmod 16777216) (fun n_13=>∃xs_14:List Int,Lf ([AV.int .i64 n_4]=aA xs_14∧1=xs_14.length∧bO8 xs_14)∧ckQ (bK [.int .i64 n_7,.int .i64
 n_8,.int .i64 n_9,.int .i64 n_10] [.int .i64 n_7,.int .i64 n_8,.int .i64 n_9,.int .i64 n_10]) (ckQ (bK [.int .i64 n_10] [.int .i64 n_10]&&true) (ckQ (bK [.int .i64 n_9] [.int .i64 n_9]&&true) (ckQ (bK [.int .i64 n_8]
 [.int .i64 n_8]&&true) (ckQ (bK [.int .i64 n_7] [.int .i64 n_7]&&true) (ckQ (bK [.int .i64 n_13] [.int .i64 n_13]) (ckQ (bK [.int .i64 n_6] [.int .i64 n_6]&&true) (ckQ (bK [.int .i64 n_5] [.int .i64 n_5]) (ckQ (bK
 [.int .i64 n_5] [.int .i64 n_5]&&true) (exS (.str (aJ 4 xs_14)) (fun s_15=>ckQ (aTy s_11 s_15) (exS (.str (s_11++s_15)) (fun s_16=>∃xs_17:List Int,Lf ([AV.int .i64 n_5]=aA xs_17∧1=xs_17.length∧xs_17.length≤1000
 ∧ ((0:Int)≤(1:Int)∧(1:Int)≤(8:Int))∧bMc xs_17)∧ckQ (bK [.int .i64 n_7,.int .i64 n_8,.int .i64 n_9,.int .i64 n_10] [.int .i64 n_7,.int .i64 n_8,.int .i64 n_9,.int .i64 n_10]) (ckQ (bK [.int .i64 n_10] [.int
 .i64 n_10]&&true) (ckQ (bK [.int .i64 n_9] [.int .i64 n_9]&&true) (ckQ (bK [.int .i64 n_8] [.int .i64 n_8]&&true) (ckQ (bK [.int .i64 n_7] [.int .i64 n_7]&&true) (ckQ (bK [.int .i64 n_13] [.int .i64 n_13]) (ckQ (bK
 [.int .i64 n_6] [.int .i64 n_6]&&true) (exS (.str (aJ 1 xs_17)) (fun s_18=>ckQ (aTy s_16 s_18) (exS (.str (s_16++s_18)) (fun s_19=>∃xs_20:List Int,Lf ([AV.int .i64 n_13]=aA xs_20∧1=xs_20.length∧xs_20.length ≤
 1000∧((0:Int)≤(3:Int)∧(3:Int)≤(8:Int))∧bMc xs_20)∧ckQ (bK [.int .i64 n_7,.int .i64 n_8,.int .i64 n_9,.int .i64 n_10] [.int .i64 n_7,.int .i64 n_8,.int .i64 n_9,.int .i64 n_10]) (ckQ (bK [.int .i64 n_10]
 [.int .i64 n_10]&&true) (ckQ (bK [.int .i64 n_9] [.int .i64 n_9]&&true) (ckQ (bK [.int .i64 n_8] [.int .i64 n_8]&&true) (ckQ (bK [.int .i64 n_7] [.int .i64 n_7]&&true) (exS (.str (aJ 3 xs_20)) (fun s_21=>ckQ (aTy s_19
 s_21) (exS (.str (s_19++s_21)) (fun s_22=>∃xs_23:List Int,Lf ([AV.int .i64 n_7,.int .i64 n_8,.int .i64 n_9,.int .i64 n_10]=aA xs_23∧4=xs_23.length∧bO8 xs_23)∧exS (.str (aJ 4 xs_23)) (fun s_24=>ckQ (aTy s_22
 s_24) (exS (.str (s_22++s_24)) (fun s_25=>exI .i64 (x_0:Int) (fun n_26=>exW .i64 (n_26+1) (fun n_27=>bGk∧∃y_28:Nat,Lf (y_28≤rs.length)∧rs.length-y_28<rs.length-x_0∧aK (AV.lst t (aF rs) rs.length 7) ∧
 AV.str s_25=AV.str (bY (rs.take y_28))∧AV.int .i64 n_27=aMd y_28∧True))))))))))))))))))))))))))))))))))))))))) else exS (.str (bY (rs.take x_0))) (fun s_3=>Q (.ret (.str s_3)) [] {})))):=by kernel_rfl

theorem bEb {l:List Rc} {i:Nat} {r:Rc} (h:l[i]? = some r):bY (l.take (i+1))=bY (l.take i)++aF3 r:=by
 rw[List.take_add_one,h];simp[bY]
theorem bGq (r:Rc):(aF3 r).length=24:=by simp[aF3,aH]
theorem vE:∀l:List Rc,(bY l).length=24*l.length
 | []=>rfl
 | r::l=>by
  have:=vE l
  rw[show bY (r::l)=aF3 r++bY l from rfl,List.length_append,bGq,List.length_cons];omega
theorem bB3 (n:Int):beM ((n+16777216)%16777216) 3=beM n 3:=by
 have e:∀i:Nat,i<3→kV ((n+16777216)%16777216) i=kV n i:=fun i hi=>by
  unfold kV
  rcases (show i=0∨i=1∨i=2 by omega) with rfl | rfl | rfl<;>congr 2<;>omega
 simp only[beM,e 0 (by omega),e 1 (by omega),e 2 (by omega)]
theorem aV7 (t:Nat) (rs:List Rc) (hl:rs.length≤1000) (hr:rs.all fH=true) (Q:Out→List Blk→Gh→Prop) (hq:Q (.ret (.str (bY rs))) [] {}):∃hv hb,aIq hv hb t rs Q:=by
 obtain ⟨hv,hb',e⟩:∃hv hb,aIq hv hb t rs Q=_:=⟨_,_,bPk t rs Q⟩
 refine ⟨hv,hb',e.mpr ?_⟩
 delta aMd bMc bO8 aTy bGk
 clear e
 refine ⟨⟨0,⟨by omega⟩,rfl,rfl,rfl,trivial⟩, ?_⟩
 rintro i ⟨hi⟩
 have hbl:=vE (rs.take i)
 rw[List.length_take] at hbl
 refine ⟨_,rfl,_,rfl,aD (fun hlt => ?_) (fun hge => ?_)⟩
 ·obtain ⟨r,hri,hrc⟩:=fK (l:=rs) (i:=i) (by omega) (Nat.mul_comm 7 i▸rfl:i*7=7*i)
  have ok:=List.all_eq_true.1 hr r (List.mem_of_getElem? hri)
  rw[fH,decide_eq_true_eq] at ok
  have hm:(r.2.2.1+16777216).tmod 16777216=(r.2.2.1+16777216)%16777216:=Int.tmod_eq_emod_of_nonneg (by omega)
  refine ⟨_,rfl, ?_⟩
  try dsimp only
  rw[Int.toNat_natCast,hrc]
  refine ckI (by simp;omega) (ckI (by simp[bI];omega) ⟨_,_,_,_,_,_,_,rfl,_,rfl,aC (by omega) (by omega) ⟨_,rfl,[r.1],⟨rfl,rfl,by simp,by omega,by simp;omega⟩, ?_⟩⟩)
  have e3:beM ((r.2.2.1+16777216).tmod 16777216) 3=beM r.2.2.1 3:=by rw[hm,bB3]
  repeat (first | refine ckE ?_ | refine ckF ?_)
  refine ⟨_,rfl,ckI (by simp[aH];omega) ⟨_,rfl,[r.2.1],⟨rfl,rfl,by simp,by omega,by simp;omega⟩, ?_⟩⟩
  repeat (first | refine ckE ?_ | refine ckF ?_)
  refine ⟨_,rfl,ckI (by simp[aH];omega) ⟨_,rfl,[(r.2.2.1+16777216).tmod 16777216],⟨rfl,rfl,by simp,by omega,by simp only[List.mem_singleton,forall_eq];omega⟩, ?_⟩⟩
  repeat (first | refine ckE ?_ | refine ckF ?_)
  refine ⟨_,rfl,ckI (by simp[aH];omega) ⟨_,rfl,[r.2.2.2.1,r.2.2.2.2.1,r.2.2.2.2.2.1,r.2.2.2.2.2.2],⟨rfl,rfl,by simp,by omega,by simp only[List.mem_cons,List.not_mem_nil,or_false,forall_eq_or_imp,forall_eq];omega⟩,_,rfl,ckI (by simp[aH];omega) ⟨_,rfl,_,rfl,aC (by omega) (by omega) ⟨⟨trivial,rfl⟩,i+1,⟨by omega⟩,by omega,rfl, ?_,rfl,trivial⟩⟩⟩⟩
  rw[bEb hri,aF3]
  rw[show aJ 3 [(r.2.2.1+16777216).tmod 16777216]=aJ 3 [r.2.2.1] by simp only[aJ,e3]]
  simp only[List.append_assoc]
 ·rw[List.take_of_length_le (by omega)]
  exact ⟨_,rfl,hq⟩
def aWp:Con
 | [.lst _ l n 7],H,K=>∃rs:List Rc,Lf (l=aF rs∧n=rs.length∧rs.length≤1000∧rs.all fH=true)∧K (.ret (.str (bY rs))) H
 | _,_,_=>False
theorem aXr:aO Tryd.prog glC 54 aWp:=by
 refine bE (enters_of (by kernel_rfl)) aV fun args H Q hc => ?_
 unfold aWp at hc
 split at hc
 ·rename_i t l n
  obtain ⟨rs,⟨rfl,rfl,hl,hr⟩,hq⟩:=hc
  obtain ⟨hv,hb',h⟩:=aV7 t rs hl hr (fun o H' _=>H'=[]∧(∃v,o=.ret v∧old 0 v=true∧noY v=true)∧Q o H) ⟨rfl,⟨_,rfl,rfl,rfl⟩,hq⟩
  exact ⟨by simp[bB,old],by simp[bQ,noY],_,1000,⟨dX,eB,eF,aP4⟩,rfl,h⟩
 ·exact hc.elim
def aYr:Con:=fun args H Q=>uC [7] H args fun a=>aWp a H Q
theorem bDj:aO Tryd.prog glC 54 aYr:=dW aXr aV [7] fun args H Q hc=>by
 unfold aWp at hc
 split at hc
 ·obtain ⟨rs,h,hq⟩:=hc
  exact ⟨rs,h,rfl,⟨_,rfl,rfl⟩,hq⟩
 ·exact hc.elim
end Go.Proofs.YtafchcmemeinlaaDoor

set_option linter.unusedSimpArgs false
set_option linter.unusedVariables false
set_option linter.unusedSectionVars false
namespace Go.Proofs.YtafchcmemeinlaaDoor
open Go.RowKit
set_option maxRecDepth 1000000

def aFp (xs:List Int) (i:Nat) (R la:Int) (acc:List Int):Prop:=∃f b,dM xs=aT R b f (xs.drop i) acc∧dF (xs.take i)=acc.length∧(f=true→la = -1∧R=0∧acc=[])∧(f=false→la=b∧0≤b∧b<4294967296∧0≤R∧R<16777216)
def aKc (S:List Int) (j:Nat):Nat→Int
 | 0=>3
 | k+1=>4*aKc S j k+S.getD (7*j+k) 0
def bA3 (c:Ctl):List LInv:=[
 { α:=Nat,pre:=fun i=>Lf (i=0),st:=fun _=>⟨mkT [(1,.ptr 0 13 0),(3,.int .i64 0),(4,.int .i64 (-1)),(5,.str []),(6,.nils),(7,.int .i64 0)],[⟨.exact,true,ctC c⟩]⟩,mu:=fun _=>c.ti.length },
 { α:=Nat×Int×Int×List Int,pre:=fun x=>Lf (1≤x.1∧x.1≤c.ti.length∧aFp c.ti x.1 x.2.1 x.2.2.1 x.2.2.2),st:=fun x=>⟨mkT [(1,.ptr 0 13 0),(3,.int .i64 x.2.1),(4,.int .i64 x.2.2.1),(5,.str (bD x.2.2.2)),(6,.sl 1 x.1 0 x.1 1),(7,.int .i64 (x.1:Nat))],[⟨.exact,true,ctC c⟩,⟨.grow,true,aA (bA (c.ti.take x.1) x.2.2.2)⟩]⟩,mu:=fun x=>c.ti.length-x.1 }]
def gV (S:List Int) (m:Nat):List Int:=S++List.replicate m 0
def aZu (c:Ctl) (ref:Int) (l:List Int):LInv where
 α:=Nat×List AV×List AV×List AV
 pre x:=Lf (x.1≤(7-c.ti.length%7)%7)
 st x:=⟨mkT [(5,.str (bD l)),(6,.sl 1 (c.ti.length+x.1) 0 (c.ti.length+x.1) 1),(10,.str (fF c.ti ref c.ro))],[⟨.exact,true,ctC c⟩,⟨.grow,true,aA (gV (bA c.ti l) x.1)⟩,⟨.exact,true,x.2.1⟩,⟨.exact,true,x.2.2.1⟩,⟨.exact,true,x.2.2.2⟩]⟩
 mu x:=7-x.1
def bBy (c:Ctl) (ref:Int) (l:List Int) (m:Nat) (s:S):List (List LInv):=match s.hp with
 | b0::b1::r=>[[{ α:=Nat,pre:=fun j=>Lf (7*j≤c.ti.length+m),st:=fun j=>⟨mkT [(5,.str (bD l)),(6,.sl 1 (c.ti.length+m) 0 (c.ti.length+m) 1),(10,.str (fF c.ti ref c.ro++aW (bA c.ti l) (7*j))),(11,.int .i64 (7*(j:Nat):Int))],b0::⟨.grow,true,aA (gV (bA c.ti l) m)⟩::r⟩,mu:=fun j=>c.ti.length+m-7*j }]]
 | _=>[]
def bCp (c:Ctl) (ref:Int) (l:List Int) (m:Nat) (s:S):List (List LInv):=match s.tm.get 11,s.hp with
 | .int _ n,b0::b1::r=>[[{ α:=Nat,pre:=fun k=>Lf (k≤7),st:=fun k=>⟨mkT [(5,.str (bD l)),(6,.sl 1 (c.ti.length+m) 0 (c.ti.length+m) 1),(10,.str (fF c.ti ref c.ro++aW (bA c.ti l) (7*(n/7).toNat))),(11,.int .i64 n),(12,.int .i64 (aKc (bA c.ti l) (n/7).toNat k)),(13,.int .i64 (k:Nat))],b0::⟨.grow,true,aA (gV (bA c.ti l) m)⟩::r⟩,mu:=fun k=>7-k }]]
 | _,_=>[]
noncomputable def aX6 (hv:Nat→Option Pa) (hb:Nat→Option Bool) (c:Ctl) (ref:Int) (l:List Int):Env := { e24 bM0 (fun i=>bif Nat.beq i 55000 then some (fun _=>[bA3 c]) else bif Nat.beq i 55002 then some (fun _=>[[aZu c ref l]]) else bif Nat.beq i 55004 then some (bBy c ref l ((7-c.ti.length%7)%7)) else bif Nat.beq i 55006 then some (bCp c ref l ((7-c.ti.length%7)%7)) else none) hv hb with hz:=fun k=>[225309,225328,225332,225336,225342,225348,225351,225356,225364,225387].any (Nat.beq k) }
noncomputable def aH0 (hv:Nat→Option Pa) (hb:Nat→Option Bool) (c:Ctl) (ref:Int) (l:List Int) (Q:Out→List Blk→Gh→Prop):Prop:=
 bH (aX6 hv hb c ref l) (wpx (aX6 hv hb c ref l) 1000) 55 [.agg (ctC c)] [] {} Q
def aDt (c:Ctl):Prop:=(
((((AV.int .i64 (c).1)::((AV.int .i64 (c).2)::((AV.int .i64 (c).3)::((AV.int .i64 (c).4)::((AV.int .i64 (c).5)::((AV.int .i64 (c).6)::((AV.int .i64 (c).7)::((AV.int .i64 (c).8)::((AV.lst (0:Nat) (aF (c).9) (List.length (c).9) (7:Nat))::((AV.lst (0:Nat) (aA (c).10) (List.length (c).10) (1:Nat))::((AV.int .i64 (c).11)::((AV.int .i64 (c).12)::((AV.lst (0:Nat) (aA (c).13) (List.length (c).13) (1:Nat))::[])))))))))))))=((AV.int .i64 (c).1)::((AV.int .i64 (c).2)::((AV.int .i64 (c).3)::((AV.int .i64 (c).4)::((AV.int .i64 (c).5)::((AV.int .i64 (c).6)::((AV.int .i64 (c).7)::((AV.int .i64 (c).8)::((AV.lst (0:Nat) (aF (c).9) (List.length (c).9) (7:Nat))::((AV.lst (0:Nat) (aA (c).10) (List.length (c).10) (1:Nat))::((AV.int .i64 (c).11)::((AV.int .i64 (c).12)::((AV.lst (0:Nat) (aA (c).13) (List.length (c).13) (1:Nat))::[])))))))))))))) ∧
 False))
def aGh (c:Ctl):Prop:=(
(∃y_0:Nat,((Lf (y_0=(0:Nat))) ∧
 (((List.length (c).13)<(List.length (c).13)) ∧
 (aDt c)))))
def aDl (c:Ctl) (ref:Int) (l:List Int) (Q:Out→List Blk→Gh→Prop):Prop:=
∀x_0:Nat×List AV×List AV×List AV,Lf (x_0.1≤(7-(Ctl.ti c).length%7)%7)→ckQ (Nat.beq (aA (gV (bA c.13 l) x_0.1)).length (c.13.length+x_0.1)) (exI .i64 ((c.13.length+x_0.1:Nat):Int) fun n_1=>exI .i64
 (n_1.tmod 7) fun n_2=>bif n_2 !=0 then ckQ (Nat.beq (aA (gV (bA c.13 l) x_0.1)).length (c.13.length+x_0.1)&&true&&Nat.beq (0+(c.13.length+x_0.1)*1) (c.13.length+x_0.1)&&Nat.ble (c.13.length+x_0.1+1)
 1099511627776&&Nat.ble ((c.13.length+x_0.1+1)*8) 1099511627776) ((True∧(0:Nat)=(0:Nat))∧∃y_3:Nat×List AV×List AV×List AV,Lf (y_3.1≤(7-(Ctl.ti c).length%7)%7)∧7-y_3.1<7-x_0.1∧aK [AV.int .i64
 c.1,.int .i64 c.2,.int .i64 c.3,.int .i64 c.4,.int .i64 c.5,.int .i64 c.6,.int .i64 c.7,.int .i64 c.8,.lst 0 (aF c.9) c.9.length 7,.lst 0 (aA c.10) c.10.length 1,.int .i64 c.11,.int .i64 c.12,.lst 0 (aA c.13)
 c.13.length 1]∧aA (gV (bA c.13 l) x_0.1)++[AV.int .i64 0]=aA (gV (bA c.13 l) y_3.1)∧x_0.2.1=y_3.2.1∧x_0.2.2.1=y_3.2.2.1∧x_0.2.2.2=y_3.2.2.2∧aK (AV.str (bD l))∧AV.sl 1 (c.13.length+x_0.1+1) 0
 (c.13.length+x_0.1+1) 1=AV.sl 1 (c.13.length+y_3.1) 0 (c.13.length+y_3.1) 1∧aK (AV.str (fF c.13 ref c.12))∧True) else (∃x_3:Nat,Lf (7*x_3≤(Ctl.ti c).length+(7-(Ctl.ti c).length%7)%7)∧aK [AV.int .i64
 c.1,.int .i64 c.2,.int .i64 c.3,.int .i64 c.4,.int .i64 c.5,.int .i64 c.6,.int .i64 c.7,.int .i64 c.8,.lst 0 (aF c.9) c.9.length 7,.lst 0 (aA c.10) c.10.length 1,.int .i64 c.11,.int .i64 c.12,.lst 0 (aA c.13)
 c.13.length 1]∧aA (gV (bA c.13 l) x_0.1)=aA (gV (bA c.13 l) ((7-c.13.length%7)%7))∧x_0.2.1=x_0.2.1∧x_0.2.2.1=x_0.2.2.1∧x_0.2.2.2=x_0.2.2.2∧AV.int .i64 0=AV.int .i64 (7*(x_3:Int))∧aK
 (AV.str (bD l))∧AV.sl 1 (c.13.length+x_0.1) 0 (c.13.length+x_0.1) 1=AV.sl 1 (c.13.length+(7-c.13.length%7)%7) 0 (c.13.length+(7-c.13.length%7)%7) 1∧AV.str (fF c.13 ref c.12)=AV.str (fF c.13 ref c.12 ++
 aW (bA c.13 l) (7*x_3))∧True)∧∀x_3:Nat,Lf (7*x_3≤(Ctl.ti c).length+(7-(Ctl.ti c).length%7)%7)→exI .i64 (7*(x_3:Int)) fun n_4=>ckQ (Nat.beq (aA (gV (bA c.13 l) ((7-c.13.length%7)%7))).length
 (c.13.length+(7-c.13.length%7)%7)) (exI .i64 ((c.13.length+(7-c.13.length%7)%7:Nat):Int) fun n_5=>bif decide (n_4<n_5) then (∃x_6:Nat,Lf (x_6≤7)∧aK [AV.int .i64 c.1,.int .i64 c.2,.int .i64 c.3,.int .i64
 c.4,.int .i64 c.5,.int .i64 c.6,.int .i64 c.7,.int .i64 c.8,.lst 0 (aF c.9) c.9.length 7,.lst 0 (aA c.10) c.10.length 1,.int .i64 c.11,.int .i64 c.12,.lst 0 (aA c.13) c.13.length 1]∧aK (aA (gV (bA c.13 l)
 ((7-c.13.length%7)%7)))∧x_0.2.1=x_0.2.1∧x_0.2.2.1=x_0.2.2.1∧x_0.2.2.2=x_0.2.2.2∧aK (AV.int .i64 (7*(x_3:Int)))∧aK (AV.str (bD l))∧AV.int .i64 0=AV.int .i64 (x_6:Int)∧AV.int .i64 3=AV.int .i64
 (aKc (bA c.13 l) (7*(x_3:Int)/7).toNat x_6)∧aK (AV.sl 1 (c.13.length+(7-c.13.length%7)%7) 0 (c.13.length+(7-c.13.length%7)%7) 1)∧AV.str (fF c.13 ref c.12++aW (bA c.13 l) (7*x_3))=AV.str (fF
 c.13 ref c.12++aW (bA c.13 l) (7*(7*(x_3:Int)/7).toNat))∧True)∧∀x_6:Nat,Lf (x_6≤7)→exI .i64 (x_6:Int) fun n_7=>bif decide (n_7<7) then exI .i64 (aKc (bA c.13 l) (7*(x_3:Int)/7).toNat x_6) fun n_8
 => exW .i64 (4*n_8) fun n_9=>exI .i64 (7*(x_3:Int)) fun n_10=>exI .i64 (x_6:Int) fun n_11=>exW .i64 (n_10+n_11) fun n_12=>ckQ (decide (0≤n_12)&&Nat.blt n_12.toNat (c.13.length+(7-c.13.length%7)%7)&&Nat.beq
 (aA (gV (bA c.13 l) ((7-c.13.length%7)%7))).length (c.13.length+(7-c.13.length%7)%7)&&true) (ckQ (Nat.beq (aA (gV (bA c.13 l) ((7-c.13.length%7)%7))).length (c.13.length+(7-c.13.length%7)%7)
 && Nat.blt (0+n_12.toNat*1) (c.13.length+(7-c.13.length%7)%7)) (exV .i64 ((((aA (gV (bA c.13 l) ((7-c.13.length%7)%7))).drop (0+n_12.toNat*1)).take 1).getD 0 AV.undef) fun n_13=>exW .i64 (n_9+n_13) fun
 n_14=>exI .i64 (x_6:Int) fun n_15=>exW .i64 (n_15+1) fun n_16=>(True∧(0:Nat)=(0:Nat))∧∃y_17:Nat,Lf (y_17≤7)∧7-y_17<7-x_6∧aK [AV.int .i64 c.1,.int .i64 c.2,.int .i64 c.3,.int .i64 c.4,.int .i64 c.5,
 .int .i64 c.6,.int .i64 c.7,.int .i64 c.8,.lst 0 (aF c.9) c.9.length 7,.lst 0 (aA c.10) c.10.length 1,.int .i64 c.11,.int .i64 c.12,.lst 0 (aA c.13) c.13.length 1]∧aK (aA (gV (bA c.13 l) ((7-c.13.length %
 7)%7)))∧x_0.2.1=x_0.2.1∧x_0.2.2.1=x_0.2.2.1∧x_0.2.2.2=x_0.2.2.2∧aK (AV.int .i64 (7*(x_3:Int)))∧aK (AV.str (bD l))∧AV.int .i64 n_16=AV.int .i64 (y_17:Int)∧AV.int .i64 n_14=AV.int .i64 (aKc (bA c.13
 l) (7*(x_3:Int)/7).toNat y_17)∧aK (AV.sl 1 (c.13.length+(7-c.13.length%7)%7) 0 (c.13.length+(7-c.13.length%7)%7) 1)∧aK (AV.str (fF c.13 ref c.12++aW (bA c.13 l) (7*(7*(x_3:Int)/7).toNat))) ∧
 True)) else exS (.str (fF c.13 ref c.12++aW (bA c.13 l) (7*(7*(x_3:Int)/7).toNat))) fun s_8=>exI .i64 (aKc (bA c.13 l) (7*(x_3:Int)/7).toNat x_6) fun n_9=>∃xs_10:List Int,Lf ([AV.int .i64 n_9]=aA
 xs_10∧1=xs_10.length∧xs_10.length≤1000∧((0:Int)≤(2:Int)∧(2:Int)≤(8:Int))∧∀x_11:Int,Membership.mem xs_10 x_11→0≤x_11∧x_11≤9223372036854775807)∧exS (.str (aJ 2 xs_10)) fun s_11=>ckQ (decide
 (s_8.length+s_11.length≤9223372036854775807)&&true) (exS (.str (s_8++s_11)) fun s_12=>exI .i64 (7*(x_3:Int)) fun n_13=>exW .i64 (n_13+7) fun n_14=>(True∧(0:Nat)=(0:Nat))∧∃y_15:Nat,Lf (7*y_15≤(Ctl.ti
 c).length+(7-(Ctl.ti c).length%7)%7)∧c.13.length+(7-c.13.length%7)%7-7*y_15<c.13.length+(7-c.13.length%7)%7-7*x_3∧aK [AV.int .i64 c.1,.int .i64 c.2,.int .i64 c.3,.int .i64 c.4,.int .i64 c.5,.int
 .i64 c.6,.int .i64 c.7,.int .i64 c.8,.lst 0 (aF c.9) c.9.length 7,.lst 0 (aA c.10) c.10.length 1,.int .i64 c.11,.int .i64 c.12,.lst 0 (aA c.13) c.13.length 1]∧aK (aA (gV (bA c.13 l) ((7-c.13.length%7) %
 7)))∧x_0.2.1=x_0.2.1∧x_0.2.2.1=x_0.2.2.1∧x_0.2.2.2=x_0.2.2.2∧AV.int .i64 n_14=AV.int .i64 (7*(y_15:Int))∧aK (AV.str (bD l))∧aK (AV.sl 1 (c.13.length+(7-c.13.length%7)%7) 0 (c.13.length+(7 -
 c.13.length%7)%7) 1)∧AV.str s_12=AV.str (fF c.13 ref c.12++aW (bA c.13 l) (7*y_15))∧True) else exS (.str (fF c.13 ref c.12++aW (bA c.13 l) (7*x_3))) fun s_6=>exS (.str (bD l)) fun s_7=>ckQ (decide
 (s_6.length+s_7.length≤9223372036854775807)&&true) (exS (.str (s_6++s_7)) fun s_8=>Q (.ret (.str s_8)) [] {})))
abbrev aNs (c:Ctl):Prop:=aK [AV.int .i64 c.1,.int .i64 c.2,.int .i64 c.3,.int .i64 c.4,.int .i64 c.5,.int .i64 c.6,.int .i64 c.7,.int .i64 c.8,.lst 0 (aF c.9) c.9.length 7,.lst 0 (aA c.10) c.10.length 1,.int .i64 c.11,.int .i64 c.12,.lst 0 (aA c.13) c.13.length 1]
abbrev aBu:Prop:=aK (AV.ptr 0 13 0)
abbrev aRy (x_0:Nat×Int×Int×List Int) (c:Ctl):Prop:=Lf (1≤x_0.1∧x_0.1≤(Ctl.ti c).length∧aFp (Ctl.ti c) x_0.1 x_0.2.1 x_0.2.2.1 x_0.2.2.2)
abbrev aB1:Prop:=True∧(0:Nat)=(0:Nat)
abbrev oL (c:Ctl) (y_7:Nat×Int×Int×List Int):Nat:=c.13.length-y_7.1
abbrev aGg (x_0:Nat×Int×Int×List Int) (c:Ctl):List AV:=aA (bA (c.13.take x_0.1) x_0.2.2.2)
abbrev aTa (y_7:Nat×Int×Int×List Int) (c:Ctl):List AV:=aGg y_7 c
abbrev rE (y_7:Nat×Int×Int×List Int):AV:=.int .i64 y_7.2.1
abbrev aWf (n_6:Int) (y_7:Nat×Int×Int×List Int):Prop:=AV.int .i64 n_6=AV.int .i64 (y_7.1:Int)
abbrev aMl (y_7:Nat×Int×Int×List Int):AV:=.str (bD y_7.2.2.2)
abbrev bAs (xs_9:List Int):Prop:=∀x_10:Int,Membership.mem xs_9 x_10→0≤x_10∧x_10≤9223372036854775807
abbrev bFo (n_7:Int) (xs_9:List Int):Prop:=Lf ([AV.int .i64 n_7]=aA xs_9∧1=xs_9.length∧xs_9.length≤1000∧((0:Int)≤(1:Int)∧(1:Int)≤(8:Int))∧bAs xs_9)
abbrev aPu (s_6 s_10:List UInt8):Bool:=decide (s_6.length+s_10.length≤9223372036854775807)&&true
abbrev aEc (s_8 s_10:List UInt8):Bool:=aPu s_8 s_10
abbrev bCz (n_5:Int) (y_14:Nat×Int×Int×List Int) (n_13:Int) (s_11:List UInt8) (n_4:Int):Prop:=aBu∧AV.int .i64 n_5=rE y_14∧aWf n_13 y_14∧AV.str s_11=AV.str (bD y_14.2.2.2)∧AV.int .i64 n_4=AV.int .i64 y_14.2.2.1∧AV.sl 1 1 0 1 1=AV.sl 1 y_14.1 0 y_14.1 1∧True
abbrev bDe (xs_7:List Int):Prop:=bAs xs_7
abbrev bF6 (n_10:Int) (xs_11:List Int):Prop:=Lf ([AV.int .i64 n_10]=aA xs_11∧1=xs_11.length∧xs_11.length≤1000∧((0:Int)≤(2:Int)∧(2:Int)≤(8:Int))∧bDe xs_11)
abbrev bN6 (n_7:Int) (c:Ctl) (n_5 n_4:Int):Prop:=exS (.str []) (fun s_8=>exW .i64 (n_7+65536) (fun n_9=>exI .i64 (n_9.tmod 65536) (fun n_10=>∃xs_11:List Int,bF6 n_10 xs_11∧exS (.str (aJ 2 xs_11)) (fun s_12=>ckQ (aPu s_8 s_12) (exS (.str (s_8++s_12)) (fun s_13=>exI .i64 0 (fun n_14=>exW .i64 (n_14+1) (fun n_15=>aB1∧(aGh c∨∃y_16:Nat×Int×Int×List Int,aRy y_16 c∧oL c y_16<c.13.length∧aNs c∧[AV.int .i64 2]=aGg y_16 c∧bCz n_5 y_16 n_15 s_13 n_4)))))))))
abbrev aQz (n_4:Int):Bool:=bK [.int .i64 n_4] [.int .i64 n_4]
abbrev aR2 (c:Ctl):Bool:=bK [.int .i64 c.12] [.int .i64 c.12]&&true
abbrev bBz (xs_7:List Int):Prop:=1=xs_7.length∧xs_7.length≤1000∧((0:Int)≤(3:Int)∧(3:Int)≤(8:Int))∧bDe xs_7
abbrev aT9 (x_0:Nat×Int×Int×List Int) (c:Ctl):Bool:=Nat.beq (aA (bA (c.13.take x_0.1) x_0.2.2.2)).length x_0.1&&true&&Nat.beq (0+x_0.1*1) x_0.1&&Nat.ble (x_0.1+1) 1099511627776&&Nat.ble ((x_0.1+1)*8) 1099511627776
abbrev bMw (x_0:Nat×Int×Int×List Int) (c:Ctl):Bool:=aT9 x_0 c
abbrev aLb (c:Ctl) (x_0:Nat×Int×Int×List Int):Prop:=∃y_7:Nat,Lf (y_7=0)∧c.13.length<oL c x_0∧aDt c
abbrev aWu (n_13:Int) (y_14:Nat×Int×Int×List Int) (s_11:List UInt8) (n_4:Int) (x_0:Nat×Int×Int×List Int):Prop:=AV.int .i64 n_13=AV.int .i64 (y_14.1:Int)∧AV.str s_11=aMl y_14∧AV.int .i64 n_4=AV.int .i64 y_14.2.2.1∧AV.sl 1 (x_0.1+1) 0 (x_0.1+1) 1=AV.sl 1 y_14.1 0 y_14.1 1∧True
abbrev bNr (n_13:Int) (y_14:Nat×Int×Int×List Int) (s_11:List UInt8) (n_4:Int) (x_0:Nat×Int×Int×List Int):Prop:=aWu n_13 y_14 s_11 n_4 x_0
abbrev bNs (x_0:Nat×Int×Int×List Int) (c:Ctl) (n_7 n_5 n_4:Int):Prop:=ckQ (aT9 x_0 c) (exS (.str (bD x_0.2.2.2)) (fun s_8=>exW .i64 (n_7+65536) (fun n_9=>exI .i64 (n_9.tmod 65536) (fun n_10=>∃xs_11:List Int,bF6 n_10 xs_11∧exS (.str (aJ 2 xs_11)) (fun s_12=>ckQ (aPu s_8 s_12) (exS (.str (s_8++s_12)) (fun s_13=>exI .i64 (x_0.1:Int) (fun n_14=>exW .i64 (n_14+1) (fun n_15=>aB1∧(aLb c x_0∨∃y_16:Nat×Int×Int×List Int,aRy y_16 c∧oL c y_16<oL c x_0∧aNs c∧aGg x_0 c++[AV.int .i64 2]=aGg y_16 c∧aBu∧AV.int .i64 n_5=rE y_16∧aWu n_15 y_16 s_13 n_4 x_0))))))))))
abbrev bPc (x_0:Nat×Int×Int×List Int) (c:Ctl) (n_5 n_4:Int):Prop:=ckQ (aT9 x_0 c) (exS (.str (bD x_0.2.2.2)) (fun s_6=>exW .i64 (n_5+65536) (fun n_7=>exI .i64 (n_7.tmod 65536) (fun n_8=>∃xs_9:List Int,bF6 n_8 xs_9∧exS (.str (aJ 2 xs_9)) (fun s_10=>ckQ (aPu s_6 s_10) (exS (.str (s_6++s_10)) (fun s_11=>exI .i64 (x_0.1:Int) (fun n_12=>exW .i64 (n_12+1) (fun n_13=>aB1∧(aLb c x_0∨∃y_14:Nat×Int×Int×List Int,aRy y_14 c∧oL c y_14<oL c x_0∧aNs c∧aGg x_0 c++[AV.int .i64 2]=aGg y_14 c∧aBu∧rE x_0=rE y_14∧aWu n_13 y_14 s_11 n_4 x_0))))))))))
theorem bPw (c:Ctl) (ref:Int) (l:List Int) (Q:Out→List Blk→Gh→Prop):aH0 (bG [(225297,.int .i64),(225305,.int .i64),(225314,.int .i64),(225316,.int .i64),(225319,.int .i64),(225333,.str),(225334,.str),
 (225340,.int .i64),(225341,.int .i64),(225343,.str),(225344,.str),(225347,.int .i64),(225355,.int .i64),(225349,.str),(225352,.str),(225353,.str),(225357,.str),(225358,.str),(225360,.int .i64),(225361,.int .i64),
 (225366,.int .i64),(225368,.int .i64),(225372,.int .i64),(225376,.int .i64),(225377,.int .i64),(225379,.int .i64),(225380,.int .i64),(225381,.int .i64),(225383,.int .i64),(225384,.int .i64),(225374,.int .i64),(225375,
 .int .i64),(225385,.str),(225386,.int .i64),(225388,.str),(225389,.str),(225370,.int .i64),(225371,.int .i64),(225390,.str),(225391,.str),(225392,.str),(225294,.int .i64),(225303,.int .i64),(225299,.int .i64),
 (225300,.int .i64),(225330,.str),(225338,.str)]) (bF []) c ref l Q=(((∃x_0:Nat,Lf (x_0=0)∧aNs c∧aBu∧aK (AV.int .i64 0)∧aK (AV.int .i64 0)∧aK (AV.str [])∧aK (AV.int .i64 (-1))∧AV.nils=AV.nils ∧
 True)∨∃x_0:Nat×Int×Int×List Int,aRy x_0 c∧aDt c)∧(∀x_0:Nat,Lf (x_0=0)→exI .i64 0 (fun n_1=>exI .i64 (c.13.length:Int) (fun n_2=>bif decide (n_1<n_2) then exI .i64 0 (fun n_3=>ckQ (decide (0≤n_3) &&
 Nat.blt n_3.toNat c.13.length&&true) (ckQ (Nat.blt (n_3.toNat*1) (aA c.13).length) (exV .i64 ((aA c.13).getD (n_3.toNat*1) AV.undef) (fun n_4=>bif decide (n_4<0) then exI .i64 0 (fun n_5=>exW .i64 (n_5+1) (fun n_6=>
 aB1∧(aGh c∨∃y_7:Nat×Int×Int×List Int,aRy y_7 c∧oL c y_7<c.13.length∧aNs c∧[AV.int .i64 0]=aTa y_7 c∧aBu∧AV.int .i64 0=rE y_7∧aWf n_6 y_7∧AV.str []=aMl y_7∧AV.int .i64 (-1)=AV.int
 .i64 y_7.2.2.1∧AV.sl 1 1 0 1 1=AV.sl 1 y_7.1 0 y_7.1 1∧True))) else exW .i64 (n_4.tdiv 256) (fun n_5=>exW .i64 (n_5*256) (fun n_6=>exW .i64 (n_4-n_6) (fun n_7=>bif decide (n_7≥0) then bif decide (n_7≤255) then exS (.str
 []) (fun s_8=>∃xs_9:List Int,bFo n_7 xs_9∧exS (.str (aJ 1 xs_9)) (fun s_10=>ckQ (aEc s_8 s_10) (exS (.str (s_8++s_10)) (fun s_11=>exI .i64 0 (fun n_12=>exW .i64 (n_12+1) (fun n_13=>aB1∧(aGh c∨∃y_14:Nat
 × Int×Int×List Int,aRy y_14 c∧oL c y_14<c.13.length∧aNs c∧[AV.int .i64 1]=aTa y_14 c∧bCz n_5 y_14 n_13 s_11 n_4))))))) else bN6 n_7 c n_5 n_4 else bN6 n_7 c n_5 n_4))))))) else exI .i64 (c.13.length:Int) (fun
 n_3=>exI .i64 c.12 (fun n_4=>∃xs_5:List Int,bF6 n_3 xs_5∧ckQ (aQz n_4) (ckQ (aR2 c) (exS (.str (aJ 2 xs_5)) (fun s_6=>∃xs_7:List Int,Lf ([AV.int .i64 0]=aA xs_7∧bBz xs_7)∧ckQ (aQz n_4) (ckQ (aR2 c)
 (exS (.str (aJ 3 xs_7)) (fun s_8=>ckQ (aEc s_6 s_8) (exS (.str (s_6++s_8)) (fun s_9=>∃xs_10:List Int,bFo n_4 xs_10∧exS (.str (aJ 1 xs_10)) (fun s_11=>ckQ (aEc s_9 s_11) (exS (.str (s_9++s_11)) (fun s_12=>(∃x_13
 : Nat×List AV×List AV×List AV,Lf (x_13.1≤(7-(Ctl.ti c).length%7)%7)∧aDt c)∧aDl c ref l Q))))))))))))))))∧∀x_0:Nat×Int×Int×List Int,aRy x_0 c→exI .i64 (x_0.1:Int) (fun n_1=>exI .i64 (c.13.length
 : Int) (fun n_2=>bif decide (n_1<n_2) then exI .i64 (x_0.1:Int) (fun n_3=>ckQ (decide (0≤n_3)&&Nat.blt n_3.toNat c.13.length&&true) (ckQ (Nat.blt (n_3.toNat*1) (aA c.13).length) (exV .i64 ((aA c.13).getD (n_3.toNat
 * 1) AV.undef) (fun n_4=>bif decide (n_4<0) then ckQ (bMw x_0 c) (exI .i64 (x_0.1:Int) (fun n_5=>exW .i64 (n_5+1) (fun n_6=>aB1∧(aLb c x_0∨∃y_7:Nat×Int×Int×List Int,aRy y_7 c∧oL c y_7<oL c x_0 ∧
 aNs c∧aTa x_0 c++[AV.int .i64 0]=aTa y_7 c∧aBu∧rE x_0=rE y_7∧aWf n_6 y_7∧aMl x_0=aMl y_7∧AV.int .i64 x_0.2.2.1=AV.int .i64 y_7.2.2.1∧AV.sl 1 (x_0.1+1) 0 (x_0.1+1) 1=AV.sl 1 y_7.1 0 y_7.1 1 ∧
 True)))) else bif decide (x_0.2.2.1<0) then exW .i64 (n_4.tdiv 256) (fun n_5=>exW .i64 (n_5*256) (fun n_6=>exW .i64 (n_4-n_6) (fun n_7=>bif decide (n_7≥0) then bif decide (n_7≤255) then ckQ (bMw x_0 c) (exS (.str (bD
 x_0.2.2.2)) (fun s_8=>∃xs_9:List Int,bFo n_7 xs_9∧exS (.str (aJ 1 xs_9)) (fun s_10=>ckQ (aEc s_8 s_10) (exS (.str (s_8++s_10)) (fun s_11=>exI .i64 (x_0.1:Int) (fun n_12=>exW .i64 (n_12+1) (fun n_13=>aB1 ∧
 (aLb c x_0∨∃y_14:Nat×Int×Int×List Int,aRy y_14 c∧oL c y_14<oL c x_0∧aNs c∧aTa x_0 c++[AV.int .i64 1]=aTa y_14 c∧aBu∧AV.int .i64 n_5=rE y_14∧bNr n_13 y_14 s_11 n_4 x_0)))))))) else bNs x_0
 c n_7 n_5 n_4 else bNs x_0 c n_7 n_5 n_4))) else exW .i64 (n_4-x_0.2.2.1) (fun n_5=>bif decide (n_5≥0) then bif decide (n_5≤255) then ckQ (bMw x_0 c) (exS (.str (bD x_0.2.2.2)) (fun s_6=>∃xs_7:List Int,bFo n_5 xs_7 ∧
 exS (.str (aJ 1 xs_7)) (fun s_8=>ckQ (aEc s_6 s_8) (exS (.str (s_6++s_8)) (fun s_9=>exI .i64 (x_0.1:Int) (fun n_10=>exW .i64 (n_10+1) (fun n_11=>aB1∧(aLb c x_0∨∃y_12:Nat×Int×Int×List Int,aRy y_12 c ∧
 oL c y_12<oL c x_0∧aNs c∧aTa x_0 c++[AV.int .i64 1]=aTa y_12 c∧aBu∧rE x_0=rE y_12∧bNr n_11 y_12 s_9 n_4 x_0)))))))) else bPc x_0 c n_5 n_4 else bPc x_0 c n_5 n_4))))) else exI .i64 (c.13.length:Int)
 (fun n_3=>exI .i64 c.12 (fun n_4=>∃xs_5:List Int,bF6 n_3 xs_5∧ckQ (aQz n_4) (ckQ (aR2 c) (ckQ (bK [.int .i64 x_0.2.1] [.int .i64 x_0.2.1]) (exS (.str (aJ 2 xs_5)) (fun s_6=>∃xs_7:List Int,Lf ([rE x_0]=aA
 xs_7∧bBz xs_7)∧ckQ (aQz n_4) (ckQ (aR2 c) (exS (.str (aJ 3 xs_7)) (fun s_8=>ckQ (aEc s_6 s_8) (exS (.str (s_6++s_8)) (fun s_9=>∃xs_10:List Int,bFo n_4 xs_10∧exS (.str (aJ 1 xs_10)) (fun s_11=>ckQ (aEc s_9
 s_11) (exS (.str (s_9++s_11)) (fun s_12=>(∃x_13:Nat×List AV×List AV×List AV,Lf (x_13.1≤(7-(Ctl.ti c).length%7)%7)∧aNs c∧aTa x_0 c=aA (gV (bA c.13 l) x_13.1)∧[AV.int .i64 n_3]=x_13.2.1∧[rE
 x_0]=x_13.2.2.1∧[AV.int .i64 n_4]=x_13.2.2.2∧aMl x_0=AV.str (bD l)∧AV.sl 1 x_0.1 0 x_0.1 1=AV.sl 1 (c.13.length+x_13.1) 0 (c.13.length+x_13.1) 1∧AV.str s_12=AV.str (fF c.13 ref c.12)∧True)∧aDl c ref l
 Q))))))))))))))))):=by kernel_rfl


theorem aWv (ts:List Int) (t:Int):dF (ts++[t])=dF ts+(if t = -1 then 0 else 1):=by
 unfold dF
 rw[List.filter_append,List.length_append]
 by_cases h:t = -1
 ·rw[if_pos h,List.filter_cons_of_neg (by simp[h])];rfl
 ·rw[if_neg h,List.filter_cons_of_pos (by simpa using h)];rfl
theorem sK {xs:List Int} {i:Nat} (h:i<xs.length):xs.take (i+1)=xs.take i++[xs.getD i 0]:=aA2 h
theorem bNd {xs:List Int} {i:Nat} (h:i<xs.length):xs.drop i=xs.getD i 0::xs.drop (i+1):=by
 rw[List.getD_eq_getElem?_getD,List.getElem?_eq_getElem h,List.drop_eq_getElem_cons h];rfl
theorem aO8 {xs:List Int} {ref:Int} {l:List Int} (hst:dM xs=some (ref,l)) {i:Nat} {R la:Int} {acc:List Int} (h:aFp xs i R la acc) (hi:i<xs.length) :
  (xs.getD i 0 = -1∧aFp xs (i+1) R la acc)∨(0≤xs.getD i 0∧xs.getD i 0<4294967296∧((la = -1∧acc=[]∧aFp xs (i+1) (xs.getD i 0/256) (xs.getD i 0) (acc++[xs.getD i 0%256]))∨(0≤la∧la<4294967296 ∧ -32768≤xs.getD i 0-la∧xs.getD i 0-la<32768∧aFp xs (i+1) R (xs.getD i 0) (acc++[xs.getD i 0-la])))):=by
 obtain ⟨f,b,h1,h2,h3,h4⟩:=h
 have hc:=aWv (xs.take i) (xs.getD i 0)
 rw[←sK hi] at hc
 rw[bNd hi,aT] at h1
 by_cases e1:xs.getD i 0 = -1
 ·rw[if_pos e1] at h1 hc
  exact .inl ⟨e1,f,b,h1,by omega,h3,h4⟩
 ·rw[if_neg e1] at h1 hc
  by_cases e2:xs.getD i 0<0∨4294967296≤xs.getD i 0
  ·rw[if_pos e2,hst] at h1;cases h1
  ·rw[if_neg e2] at h1
   refine .inr ⟨by omega,by omega, ?_⟩
   cases f with
   | true=>
    obtain ⟨a1,a2,a3⟩:=h3 rfl
    rw[if_pos rfl] at h1
    exact .inl ⟨a1,a3,false,xs.getD i 0,h1,by rw[List.length_append,List.length_singleton];omega,fun h=>(by cases h),fun _=>⟨rfl,by omega,by omega,by omega,by omega⟩⟩
   | false=>
    obtain ⟨rfl,a2,a3,a4,a5⟩:=h4 rfl
    rw[if_neg (by simp)] at h1
    by_cases e3:xs.getD i 0-la < -32768∨32768≤xs.getD i 0-la
    ·rw[if_pos e3,hst] at h1;cases h1
    ·rw[if_neg e3] at h1
     exact .inr ⟨a2,a3,by omega,by omega,false,xs.getD i 0,h1,by rw[List.length_append,List.length_singleton];omega,fun h=>(by cases h),fun _=>⟨rfl,by omega,by omega,a4,a5⟩⟩
theorem aSq (xs:List Int):aFp xs 0 0 (-1) []:=⟨true,0,rfl,rfl,fun _=>⟨rfl,rfl,rfl⟩,fun h=>(by cases h)⟩
theorem aT4 {xs:List Int} {ref:Int} {l:List Int} (hst:dM xs=some (ref,l)) {R la:Int} {acc:List Int} (h:aFp xs xs.length R la acc):R=ref∧acc=l:=by
 obtain ⟨f,b,h1,_⟩:=h
 rw[List.drop_length,aT,hst] at h1
 simp only[Option.some.injEq,Prod.mk.injEq] at h1
 exact ⟨h1.1.symm,h1.2.symm⟩
theorem vH:∀ (ts acc:List Int),dF ts=acc.length→(∀e,bA (ts++[-1]) (acc++e)=bA ts acc++[0])∧∀t d,t ≠ -1→bA (ts++[t]) (acc++[d])=bA ts acc++[oU d]
 | [],acc,h=>by
  have h0:acc=[]:=List.eq_nil_of_length_eq_zero (by rw[←h];rfl)
  subst h0
  refine ⟨fun e=>by simp[bA],fun t d ht=>by simp[bA,ht]⟩
 | x::ts,acc,h=>by
  by_cases hx:x = -1
  ·subst hx
   have hc:dF ts=acc.length:=h
   obtain ⟨k1,k2⟩:=vH ts acc hc
   refine ⟨fun e => ?_,fun t d ht => ?_⟩
   ·rw[List.cons_append,bA,if_pos rfl,k1,bA,if_pos rfl];rfl
   ·rw[List.cons_append,bA,if_pos rfl,k2 t d ht,bA,if_pos rfl];rfl
  ·have hc:dF ts+1=acc.length:=by
    rw[←h,dF,dF,List.filter_cons_of_pos (by simpa using hx)];rfl
   cases acc with
   | nil=>simp at hc
   | cons a acc=>
    obtain ⟨k1,k2⟩:=vH ts acc (by simpa using hc)
    refine ⟨fun e => ?_,fun t d ht => ?_⟩
    ·rw[List.cons_append,bA,if_neg hx,bA,if_neg hx]
     simp only[List.cons_append,List.getD_cons_zero,List.drop_succ_cons,List.drop_zero,k1]
    ·rw[List.cons_append,bA,if_neg hx,bA,if_neg hx]
     simp only[List.cons_append,List.getD_cons_zero,List.drop_succ_cons,List.drop_zero,k2 t d ht]
theorem xC (acc:List Int) (d:Int):bD (acc++[d])=bD acc++aJ (oU d).toNat [d]:=by simp[bD]
theorem bDr (n:Int):beM ((n+65536)%65536) 2=beM n 2:=by
 have e:∀i:Nat,i<2→kV ((n+65536)%65536) i=kV n i:=fun i hi=>by
  unfold kV
  rcases (show i=0∨i=1 by omega) with rfl | rfl<;>congr 2<;>omega
 simp only[beM,e 0 (by omega),e 1 (by omega)]
theorem aY7 {S:List Int} (hS:∀i,0≤S.getD i 0∧S.getD i 0≤2) (j:Nat):∀k:Nat,0≤aKc S j k∧aKc S j k<4^(k+1)
 | 0=>by simp[aKc]
 | k+1=>by
  have h:=aY7 hS j k
  have h2:=hS (7*j+k)
  rw[aKc,Int.pow_succ]
  omega
theorem aOx (S:List Int) (j:Nat):aW S (7*(j+1))=aW S (7*j)++aJ 2 [aKc S j 7]:=by
 have c0:∀j,eZ S (7*j)=0:=fun j=>by
  cases j with
  | zero=>rfl
  | succ j=>rw[show 7*(j+1)=7*j+6+1 by omega,eZ,if_pos (by omega)]
 have c1:eZ S (7*j+1)=S.getD (7*j) 0:=by rw[eZ,if_neg (by omega),c0];omega
 have c2:eZ S (7*j+2)=4*S.getD (7*j) 0+S.getD (7*j+1) 0:=by rw[eZ,if_neg (by omega),c1]
 have c3:eZ S (7*j+3)=4*eZ S (7*j+2)+S.getD (7*j+2) 0:=by rw[eZ,if_neg (by omega)]
 have c4:eZ S (7*j+4)=4*eZ S (7*j+3)+S.getD (7*j+3) 0:=by rw[eZ,if_neg (by omega)]
 have c5:eZ S (7*j+5)=4*eZ S (7*j+4)+S.getD (7*j+4) 0:=by rw[eZ,if_neg (by omega)]
 have c6:eZ S (7*j+6)=4*eZ S (7*j+5)+S.getD (7*j+5) 0:=by rw[eZ,if_neg (by omega)]
 have b1:aW S (7*j+6)=aW S (7*j):=by
  rw[aW,if_neg (by omega),aW,if_neg (by omega),aW,if_neg (by omega),aW,if_neg (by omega),aW,if_neg (by omega),aW,if_neg (by omega)]
 rw[show 7*(j+1)=7*j+6+1 by omega,aW,if_pos (by omega),b1]
 congr 3
 rw[c6,c5,c4,c3,c2]
 simp only[aKc,Nat.add_zero]
 omega
theorem aUm (S:List Int) (m i:Nat):(gV S m).getD i 0=S.getD i 0:=by
 unfold gV
 rw[List.getD_eq_getElem?_getD,List.getD_eq_getElem?_getD]
 by_cases h:i<S.length
 ·rw[List.getElem?_append_left h]
 ·rw[List.getElem?_append_right (by omega),List.getElem?_eq_none (l:=S) (by omega),List.getElem?_replicate]
  split<;>rfl
theorem mK (S:List Int) (m:Nat):(gV S m).length=S.length+m:=by simp[gV]
theorem aWy (S:List Int) (m:Nat):gV S (m+1)=gV S m++[0]:=by
 rw[gV,gV,List.replicate_succ',List.append_assoc]
theorem ldG {xs:List Int} {i:Nat} (hi:i<xs.length) {K:Int→Prop} (hk:K (xs.getD i 0)) {j:Nat} (hj:j=i) :
  ∃n:Int,(List.take 1 (List.drop j (aA xs))).getD 0 AV.undef=AV.int .i64 n∧K n:=by
 refine ldI (off:=0) (xs:=xs) (by rw[List.drop_zero,List.take_of_length_le (by simp[aB])]) hi ?_ (by omega)
 rwa [List.getD_eq_getElem?_getD,List.getElem?_eq_getElem hi] at hk
theorem bH3 (c:Ctl) (ref:Int) (l:List Int) (hn:1≤c.ti.length∧c.ti.length≤64) (hst:dM c.ti=some (ref,l)) (Q:Out→List Blk→Gh→Prop) (hq:Q (.ret (.str (pJ c.ti c.ro))) [] {}):aDl c ref l Q:=by
 unfold aDl
 have hsl:=sQ c.ti l
 have hS:=aZk c.ti l
 have hcl:=xQ c.ti
 have hll:=lH hst
 have htl:=jJ l
 have hhl:=gJ c.ti ref c.ro
 have hbl:=fun i=>mO (bA c.ti l) i
 rintro ⟨m,X1,X2,X3⟩ ⟨hm⟩
 dsimp only at hm ⊢
 refine ckI (by simp[aB,mK,hsl]) ⟨_,rfl,_,rfl,cB (fun h => ?_) (fun h => ?_)⟩
 ·refine ckI (by simp[aB,mK,hsl];omega) ⟨⟨trivial,rfl⟩,(m+1,X1,X2,X3),⟨?_⟩,by dsimp only;omega,rfl, ?_,rfl,rfl,rfl,rfl,rfl,rfl,trivial⟩
  ·rw[Int.tmod_eq_emod_of_nonneg (by omega)] at h;dsimp only;omega
  ·dsimp only;rw[aWy];simp[aA]
 ·obtain rfl:m=(7-c.ti.length%7)%7:=by
   rw[Int.tmod_eq_emod_of_nonneg (by omega)] at h;omega
  refine ⟨⟨0,⟨by omega⟩,rfl,rfl,rfl,rfl,rfl,rfl,rfl,rfl,by simp[aW],trivial⟩, ?_⟩
  rintro j ⟨hj⟩
  have hj7:(7*(j:Int)/7).toNat=j:=by omega
  rw[hj7]
  refine ⟨_,rfl,ckI (by simp[aB,mK,hsl]) ⟨_,rfl,aD (fun hlt => ?_) (fun hge => ?_)⟩⟩
  ·refine ⟨⟨0,⟨by omega⟩,rfl,rfl,rfl,rfl,rfl,rfl,rfl,rfl,rfl,rfl,rfl,trivial⟩, ?_⟩
   rintro k ⟨hk⟩
   have hw:=aY7 hS j k
   have hp4:(4:Int)^(k+1)≤65536:=by
    rcases (show k=0∨k=1∨k=2∨k=3∨k=4∨k=5∨k=6∨k=7 by omega) with rfl | rfl | rfl | rfl | rfl | rfl | rfl | rfl<;>decide
   refine ⟨_,rfl,aD (fun hlt => ?_) (fun hge => ?_)⟩
   ·have hd:=hS (7*j+k)
    refine ⟨_,rfl,aC (by omega) (by omega) ⟨_,rfl,_,rfl,aC (by omega) (by omega) (ckI (by simp[aB,mK,hsl];omega) ?_)⟩⟩
    refine ckI (by simp[aB,mK,hsl];omega) (ldG (i:=7*j+k) (by rw[mK];omega) ?_ (by omega))
    rw[aUm]
    exact aC (by omega) (by omega) ⟨_,rfl,aC (by omega) (by omega) ⟨⟨trivial,rfl⟩,k+1,⟨by omega⟩,by omega,rfl,rfl,rfl,rfl,rfl,rfl,rfl,by simp,by rw[aKc],rfl,rfl,trivial⟩⟩
   ·obtain rfl:k=7:=by omega
    have hb7:=hbl (7*j)
    refine ⟨_,rfl,_,rfl,[aKc (bA c.ti l) j 7],⟨rfl,rfl,by simp,by omega,by simp only[List.mem_singleton,forall_eq];omega⟩,_,rfl,ckI (by simp[aH];omega) ⟨_,rfl,_,rfl,aC (by omega) (by omega) ⟨⟨trivial,rfl⟩,j+1,⟨by omega⟩,by omega,rfl,rfl,rfl,rfl,rfl, ?_,rfl,rfl, ?_,trivial⟩⟩⟩
    ·congr 1
    ·rw[aOx,List.append_assoc]
  ·have hb7:=hbl (7*j)
   refine ⟨_,rfl,_,rfl,ckI (by simp;omega) ⟨_,rfl, ?_⟩⟩
   rw[pJ,hst] at hq
   rwa [show (c.ti.length+6)/7*7=7*j by omega] at hq
theorem aSu (c:Ctl) (ref:Int) (l:List Int) (hn:1≤c.ti.length∧c.ti.length≤64) (hst:dM c.ti=some (ref,l)) (hro:0≤c.ro∧c.ro<256) (Q:Out→List Blk→Gh→Prop) (hq:Q (.ret (.str (pJ c.ti c.ro))) [] {}):∃hv hb,aH0 hv hb c ref l Q:=by
 obtain ⟨hv,hb',e⟩:∃hv hb,aH0 hv hb c ref l Q=_:=⟨_,_,bPw c ref l Q⟩
 refine ⟨hv,hb',e.mpr ?_⟩
 delta aNs aBu aRy aB1 oL aGg aTa rE aWf aMl bAs bFo aPu aEc bCz bDe bF6 bN6 aQz aR2 bBz aT9 bMw aLb aWu bNr bNs bPc
 clear e
 have hrest:=bH3 c ref l hn hst Q hq
 have hhl:=gJ c.ti ref c.ro
 have hcl:=xQ c.ti
 have hll:=lH hst
 have tn:∀ (i:Nat) (acc:List Int),i<c.ti.length→dF (c.ti.take i)=acc.length→c.ti.getD i 0 = -1→bA (c.ti.take (i+1)) acc=bA (c.ti.take i) acc++[0]:=fun i acc hi hc e=>by
  rw[sK hi,e]
  have:=(vH _ _ hc).1 []
  rwa [List.append_nil] at this
 have ts:∀ (i:Nat) (acc:List Int) (d:Int),i<c.ti.length→dF (c.ti.take i)=acc.length→c.ti.getD i 0 ≠ -1→bA (c.ti.take (i+1)) (acc++[d])=bA (c.ti.take i) acc++[oU d]:=fun i acc d hi hc e=>by
  rw[sK hi]
  exact (vH _ _ hc).2 _ _ e
 refine ⟨.inl ⟨0,⟨rfl⟩,rfl,rfl,rfl,rfl,rfl,rfl,rfl,trivial⟩, ?_, ?_⟩
 ·rintro _ ⟨rfl⟩
  refine ⟨_,rfl,_,rfl,aD (fun hlt => ?_) (fun hge=>absurd (by omega) hge)⟩
  refine ⟨_,rfl,ckI (by simp;omega) (ckI (by simp[aB];omega) (kS (i:=0) (by omega) (by simp) ?_))⟩
  have hg:=aO8 hst (aSq c.ti) (i:=0) (by omega)
  have tn0:=tn 0 [] (by omega) rfl
  have ts0:=fun d=>ts 0 [] d (by omega) rfl
  generalize c.ti.getD 0 0=x at hg tn0 ts0 ⊢
  rcases hg with ⟨e,hs⟩ | ⟨a1,a2,⟨b1,b2,hs⟩ | ⟨b1,_⟩⟩
  ·refine aD (fun _=>⟨_,rfl,aC (by omega) (by omega) ⟨⟨trivial,rfl⟩,.inr ⟨(1,0, -1,[]),⟨by simp,hn.1,hs⟩,by dsimp only;omega,rfl, ?_,rfl,rfl,rfl,rfl,rfl,rfl,trivial⟩⟩⟩) (fun h=>absurd (by omega) h)
   rw[tn0 e];rfl
  ·have h256:x.tdiv 256=x/256:=Int.tdiv_eq_ediv_of_nonneg a1
   have hsg:oU (x%256)=1:=if_pos (by omega)
   have hd:x-x/256*256=x%256:=by omega
   refine aD (fun h=>absurd h (by omega)) (fun _ => ?_)
   rw[h256]
   refine aC (by omega) (by omega) (aC (by omega) (by omega) (aC (by omega) (by omega) ?_))
   rw[hd]
   refine aD (fun _=>aD (fun _ => ?_) (fun h=>absurd (by omega) h)) (fun h=>absurd (by omega) h)
   refine ⟨_,rfl,[x%256],⟨rfl,rfl,by simp,by omega,by simp only[List.mem_singleton,forall_eq];omega⟩,_,rfl,ckI (by simp[aH]) ⟨_,rfl,_,rfl,aC (by omega) (by omega) ⟨⟨trivial,rfl⟩,.inr ⟨(1,x/256,x,[x%256]),⟨by simp,hn.1,hs⟩,by dsimp only;omega,rfl, ?_,rfl,rfl,rfl, ?_,rfl,rfl,trivial⟩⟩⟩⟩
   ·have:=ts0 (x%256) (by omega)
    rw[List.nil_append] at this
    dsimp only
    rw[this,hsg];rfl
   ·simp[bD,hsg]
  ·omega
 ·rintro ⟨i,R,la,acc⟩ ⟨g1,g2,g3⟩
  dsimp only at g1 g2 g3 ⊢
  refine ⟨_,rfl,_,rfl,aD (fun hlt => ?_) (fun hge => ?_)⟩
  ·have hsl:(aA (bA (c.ti.take i) acc)).length=i:=by rw[aB,sQ,List.length_take];omega
   refine ⟨_,rfl,ckI (by simp;omega) (ckI (by simp[aB];omega) (kS (i:=i) (by omega) (by simp) ?_))⟩
   have hca:dF (c.ti.take i)=acc.length:=g3.choose_spec.choose_spec.2.1
   have hg:=aO8 hst g3 (by omega)
   have tn0:=tn i acc (by omega) hca
   have ts0:=fun d=>ts i acc d (by omega) hca
   have htl:=jJ acc
   have hcle:=aQl (xs:=c.ti) i
   generalize c.ti.getD i 0=x at hg tn0 ts0 ⊢
   have hck:(((((aA (bA (c.ti.take i) acc)).length.beq i&&true)&&(0+i*1).beq i)&&(i+1).ble 1099511627776)&&((i+1)*8).ble 1099511627776)=true:=by
    rw[hsl];simp;omega
   rcases hg with ⟨e,hs⟩ | ⟨a1,a2,⟨b1,b2,hs⟩ | ⟨b1,b2,b3,b4,hs⟩⟩
   ·refine aD (fun _=>ckI hck ⟨_,rfl,aC (by omega) (by omega) ⟨⟨trivial,rfl⟩,.inr ⟨(i+1,R,la,acc),⟨by dsimp only;omega,by dsimp only;omega,hs⟩,by dsimp only;omega,rfl, ?_,rfl,rfl,rfl,rfl,rfl,rfl,trivial⟩⟩⟩) (fun h=>absurd (by omega) h)
    dsimp only
    rw[tn0 e];simp[aA]
   ·have h256:x.tdiv 256=x/256:=Int.tdiv_eq_ediv_of_nonneg a1
    have hsg:oU (x%256)=1:=if_pos (by omega)
    have hd:x-x/256*256=x%256:=by omega
    refine aD (fun h=>absurd h (by omega)) (fun _=>aD (fun _ => ?_) (fun h=>absurd (by omega) h))
    rw[h256]
    refine aC (by omega) (by omega) (aC (by omega) (by omega) (aC (by omega) (by omega) ?_))
    rw[hd]
    refine aD (fun _=>aD (fun _ => ?_) (fun h=>absurd (by omega) h)) (fun h=>absurd (by omega) h)
    refine ckI hck ⟨_,rfl,[x%256],⟨rfl,rfl,by simp,by omega,by simp only[List.mem_singleton,forall_eq];omega⟩,_,rfl,ckI (by simp[aH];omega) ⟨_,rfl,_,rfl,aC (by omega) (by omega) ⟨⟨trivial,rfl⟩,.inr ⟨(i+1,x/256,x,acc++[x%256]),⟨by dsimp only;omega,by dsimp only;omega,hs⟩,by dsimp only;omega,rfl, ?_,rfl,rfl,rfl, ?_,rfl,rfl,trivial⟩⟩⟩⟩
    ·dsimp only
     rw[ts0 _ (by omega),hsg];simp[aA]
    ·dsimp only
     rw[xC,hsg];rfl
   ·refine aD (fun h=>absurd h (by omega)) (fun _=>aD (fun h=>absurd h (by omega)) (fun _=>aC (by omega) (by omega) ?_))
    have hm:(x-la+65536).tmod 65536=(x-la+65536)%65536:=Int.tmod_eq_emod_of_nonneg (by omega)
    refine aD (fun h1=>aD (fun h2 => ?_) (fun h2 => ?_)) (fun h1 => ?_)
    ·have hsg:oU (x-la)=1:=if_pos (by omega)
     refine ckI hck ⟨_,rfl,[x-la],⟨rfl,rfl,by simp,by omega,by simp only[List.mem_singleton,forall_eq];omega⟩,_,rfl,ckI (by simp[aH];omega) ⟨_,rfl,_,rfl,aC (by omega) (by omega) ⟨⟨trivial,rfl⟩,.inr ⟨(i+1,R,x,acc++[x-la]),⟨by dsimp only;omega,by dsimp only;omega,hs⟩,by dsimp only;omega,rfl, ?_,rfl,rfl,rfl, ?_,rfl,rfl,trivial⟩⟩⟩⟩
     ·dsimp only
      rw[ts0 _ (by omega),hsg];simp[aA]
     ·dsimp only
      rw[xC,hsg];rfl
    all_goals
     have hsg:oU (x-la)=2:=if_neg (by omega)
     refine ckI hck ⟨_,rfl,aC (by omega) (by omega) ⟨_,rfl,[(x-la+65536).tmod 65536],⟨rfl,rfl,by simp,by omega,by simp only[List.mem_singleton,forall_eq];omega⟩,_,rfl,ckI (by simp[aH];omega) ⟨_,rfl,_,rfl,aC (by omega) (by omega) ⟨⟨trivial,rfl⟩,.inr ⟨(i+1,R,x,acc++[x-la]),⟨by dsimp only;omega,by dsimp only;omega,hs⟩,by dsimp only;omega,rfl, ?_,rfl,rfl,rfl, ?_,rfl,rfl,trivial⟩⟩⟩⟩⟩
     ·dsimp only
      rw[ts0 _ (by omega),hsg];simp[aA]
     ·dsimp only
      rw[xC,hsg,show (2:Int).toNat=2 from rfl]
      simp only[aJ,hm,bDr]
  ·have hi:i=c.ti.length:=by omega
   subst hi
   have hR:0≤R∧R<16777216:=by
    obtain ⟨f,b,_,_,k3,k4⟩:=g3
    cases f with
    | true=>have:=k3 rfl;omega
    | false=>have:=k4 rfl;omega
   obtain ⟨rfl,rfl⟩:=aT4 hst g3
   rw[List.take_length]
   refine ⟨_,rfl,_,rfl,[(c.ti.length:Int)],⟨rfl,rfl,by simp,by omega,by simp only[List.mem_singleton,forall_eq];omega⟩, ?_⟩
   repeat (first | refine ckE ?_ | refine ckF ?_)
   refine ⟨_,rfl,[R],⟨rfl,rfl,by simp,by omega,by simp only[List.mem_singleton,forall_eq];omega⟩, ?_⟩
   repeat (first | refine ckE ?_ | refine ckF ?_)
   refine ⟨_,rfl,ckI (by simp[aH]) ⟨_,rfl,[c.ro],⟨rfl,rfl,by simp,by omega,by simp only[List.mem_singleton,forall_eq];omega⟩,_,rfl,ckI (by simp[aH]) ⟨_,rfl,⟨(0,_,_,_),⟨Nat.zero_le _⟩,rfl, ?_,rfl,rfl,rfl,rfl,rfl,rfl,trivial⟩,hrest⟩⟩⟩
   simp[gV]
def aQc:Con
 | [.agg cs],H,K=>∃ (c:Ctl),Lf (cs=ctC c∧(1≤c.ti.length∧c.ti.length≤64)∧(aZ c.ti).2.2=true∧0≤c.ro∧c.ro<256)∧K (.ret (.str (pJ c.ti c.ro))) H
 | _,_,_=>False
theorem aTw:aO Tryd.prog glC 55 aQc:=by
 refine bE (enters_of (by kernel_rfl)) aV fun args H Q hc => ?_
 unfold aQc at hc
 split at hc
 ·rename_i cs
  obtain ⟨c,⟨rfl,hn,hst,hro⟩,hq⟩:=hc
  obtain ⟨ref,l,h1,h2,h3⟩:=fI hst
  obtain ⟨hv,hb',h⟩:=aSu c ref l hn h1 hro (fun o H' _=>H'=[]∧(∃v,o=.ret v∧old 0 v=true∧noY v=true)∧Q o H) ⟨rfl,⟨_,rfl,rfl,rfl⟩,hq⟩
  exact ⟨rfl,rfl,_,1000,⟨dX,eB,eF,aP4⟩,rfl,h⟩
 ·exact hc.elim
end Go.Proofs.YtafchcmemeinlaaDoor

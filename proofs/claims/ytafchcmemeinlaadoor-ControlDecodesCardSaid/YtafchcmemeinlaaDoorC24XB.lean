/-
  Chapter 24: valid control packets.
-/
import Derived.Test.YtafchcmemeinlaaDoorC24XA
set_option linter.unusedSimpArgs false
set_option linter.unusedVariables false
set_option linter.unusedSectionVars false
namespace Go.Proofs.YtafchcmemeinlaaDoor
open Go.RowKit
set_option maxRecDepth 1000000

structure Ctl where
 k:Int
 f:Int
 a:Int
 s1:Int
 s2:Int
 s3:Int
 s4:Int
 s5:Int
 rs:List Rc
 lo:List Int
 ba:Int
 ro:Int
 ti:List Int
def ctC (c:Ctl):List AV:=[.int .i64 c.k,.int .i64 c.f,.int .i64 c.a,.int .i64 c.s1,.int .i64 c.s2,.int .i64 c.s3,.int .i64 c.s4,.int .i64 c.s5,.lst 0 (aF c.rs) c.rs.length 7,.lst 0 (aA c.lo) c.lo.length 1,.int .i64 c.ba,.int .i64 c.ro,.lst 0 (aA c.ti) c.ti.length 1]
abbrev gU (x:Int):Prop:=0≤x∧x<4294967296
def aQ (c:Ctl):Bool:=
 decide ((1≤c.k∧c.k≤6)∧gU c.f∧gU c.a∧gU c.s1∧gU c.s2∧gU c.s3∧gU c.s4∧gU c.s5∧(0≤c.ba∧c.ba<65536)∧(0≤c.ro∧c.ro<256)
  ∧ (c.k≤3→c.a=0)∧(c.k≠1→c.s1=0∧c.s2=0∧c.s3=0∧c.s4=0∧c.s5=0)∧(c.k≠6→c.ba=0∧c.ro=0∧c.ti.length=0)∧(3≤c.k→c.rs.length=0)∧(c.k≠4→c.lo.length=0)
  ∧ (c.k=6→(aZ c.ti).2.2=true)∧dL c.rs=true∧(c.k=4→bV c.lo=true))
def bN3:SM:=gH [(65,aSj),(70,aKh),(71,aL6),(43,aDf)]
theorem bFi:∀f g,bN3 f=some g→aO Tryd.prog glC f g:=bW _ (by simp only[List.mem_cons,List.not_mem_nil,or_false,forall_eq_or_imp,forall_eq];exact ⟨aQd,aK2,bA0,aU2⟩)
noncomputable def aS5 (hv:Nat→Option Pa) (hb:Nat→Option Bool) (k f a s1 s2 s3 s4 s5:Int) (rs:List Rc) (lo:List Int) (ba ro:Int) (ti:List Int) (Q:Out→List Blk→Gh→Prop):Prop:=
 bH (e24 bN3 (fun _=>none) hv hb) (wpx (e24 bN3 (fun _=>none) hv hb) 1000) 49 [.agg (ctC ⟨k,f,a,s1,s2,s3,s4,s5,rs,lo,ba,ro,ti⟩)] [] {} Q
noncomputable def aDb (hv:Nat→Option Pa) (hb:Nat→Option Bool) (m:Nat) (f a s1 s2 s3 s4 s5:Int) (rs:List Rc) (lo:List Int) (ba ro:Int) (ti:List Int) (Q:Out→List Blk→Gh→Prop):Prop:=aS5 hv hb (Int.negSucc m) f a s1 s2 s3 s4 s5 rs lo ba ro ti Q
theorem bHt (m:Nat) (f:Int) (a:Int) (s1:Int) (s2:Int) (s3:Int) (s4:Int) (s5:Int) (rs:List Rc) (lo:List Int) (ba:Int) (ro:Int) (ti:List Int) (Q:Out→List Blk→Gh→Prop):aDb (bG [(200712,.int .i64),(200713,.lit (.bool true))]) (bF []) m f a s1 s2 s3 s4 s5 rs lo ba ro ti Q=(
(∃n_0:Int,(((AV.int .i64 (Int.negSucc m))=(AV.int .i64 n_0)) ∧
 (((AV.bool (decide (n_0<(1:Int))))=(AV.bool true)) ∧
 (Q (Out.ret (AV.bool false)) [] (Gh.mk (0:Nat) (0:Nat) [])))))):=by kernel_rfl

noncomputable def aCo (hv:Nat→Option Pa) (hb:Nat→Option Bool) (m:Nat) (f a s1 s2 s3 s4 s5:Int) (rs:List Rc) (lo:List Int) (ba ro:Int) (ti:List Int) (Q:Out→List Blk→Gh→Prop):Prop:=aS5 hv hb (Int.ofNat (m+7)) f a s1 s2 s3 s4 s5 rs lo ba ro ti Q
theorem bH5 (m:Nat) (f:Int) (a:Int) (s1:Int) (s2:Int) (s3:Int) (s4:Int) (s5:Int) (rs:List Rc) (lo:List Int) (ba:Int) (ro:Int) (ti:List Int) (Q:Out→List Blk→Gh→Prop):aCo (bG [(200712,.int .i64),(200713,.lit (.bool false)),(200716,.int .i64),(200717,.lit (.bool true))]) (bF []) m f a s1 s2 s3 s4 s5 rs lo ba ro ti Q=(
(∃n_0:Int,(((AV.int .i64 (Int.ofNat (m+(7:Nat))))=(AV.int .i64 n_0)) ∧
 (((AV.bool (decide (n_0<(1:Int))))=(AV.bool false)) ∧
 (∃n_1:Int,(((AV.int .i64 (Int.ofNat (m+(7:Nat))))=(AV.int .i64 n_1)) ∧
 (((AV.bool (decide (n_1≥(7:Int))))=(AV.bool true)) ∧
 (Q (Out.ret (AV.bool false)) [] (Gh.mk (0:Nat) (0:Nat) []))))))))):=by kernel_rfl

noncomputable def aB0 (hv:Nat→Option Pa) (hb:Nat→Option Bool) (f a s1 s2 s3 s4 s5:Int) (rs:List Rc) (lo:List Int) (ba ro:Int) (ti:List Int) (Q:Out→List Blk→Gh→Prop):Prop:=aS5 hv hb 0 f a s1 s2 s3 s4 s5 rs lo ba ro ti Q
theorem bHb (f:Int) (a:Int) (s1:Int) (s2:Int) (s3:Int) (s4:Int) (s5:Int) (rs:List Rc) (lo:List Int) (ba:Int) (ro:Int) (ti:List Int) (Q:Out→List Blk→Gh→Prop):aB0 (bG []) (bF []) f a s1 s2 s3 s4 s5 rs lo ba ro ti Q=(
(Q (Out.ret (AV.bool false)) [] (Gh.mk (0:Nat) (0:Nat) []))):=by kernel_rfl

noncomputable def aC4 (hv:Nat→Option Pa) (hb:Nat→Option Bool) (f a s1 s2 s3 s4 s5:Int) (rs:List Rc) (lo:List Int) (ba ro:Int) (ti:List Int) (Q:Out→List Blk→Gh→Prop):Prop:=aS5 hv hb 1 f a s1 s2 s3 s4 s5 rs lo ba ro ti Q
abbrev aNb (f a s1 s2 s3 s4 s5:Int) (xs_0:List Int):Prop:=Lf ([AV.int .i64 f,.int .i64 a,.int .i64 s1,.int .i64 s2,.int .i64 s3,.int .i64 s4,.int .i64 s5]=aA xs_0∧7=xs_0.length∧(0:Int)≤(32:Int)∧xs_0.length≤4611686018427387904)
abbrev uO (xs_0:List Int):Bool := !List.any xs_0 (jI 32)
abbrev aNk (ba:Int) (xs_1:List Int):Prop:=Lf ([AV.int .i64 ba]=aA xs_1∧1=xs_1.length∧(0:Int)≤(16:Int)∧xs_1.length≤4611686018427387904)
abbrev aNj (xs_1:List Int):Bool := !List.any xs_1 (jI 16)
abbrev aNi (ro:Int) (xs_2:List Int):Prop:=Lf ([AV.int .i64 ro]=aA xs_2∧1=xs_2.length∧(0:Int)≤(8:Int)∧xs_2.length≤4611686018427387904)
abbrev tZ (xs_2:List Int):Bool := !List.any xs_2 (jI 8)
abbrev zM:Out:=.ret (.bool false)
abbrev jO (Q:Out→List Blk→Gh→Prop):Prop:=Q zM [] {}
abbrev tT (ba ro:Int):Int:=(((ba%18446744073709551616).toNat ||| (ro%18446744073709551616).toNat:Nat):Int)
abbrev aWn (ti xs_10:List Int):Prop:=Lf (aA ti=aA xs_10∧ti.length=xs_10.length∧xs_10.length≤1000000)
abbrev aHx (rs l_13:List Rc):Prop:=Lf (aF rs=aF l_13∧rs.length=l_13.length∧l_13.length≤1000000)
abbrev bGa (rs:List Rc) (Q:Out→List Blk→Gh→Prop):Prop:=∃l_10:List Rc,aHx rs l_10∧bif dL l_10 then Q (.ret (.bool true)) [] {} else Q zM [] {}
abbrev bE0 (n_4:Int) (Q:Out→List Blk→Gh→Prop) (lo ti:List Int) (rs:List Rc):Prop:=bif decide (n_4>0) then Q zM [] {} else exI .i64 (lo.length:Int) (fun n_5=>bif decide (n_5>0) then Q zM [] {} else ∃xs_6:List Int,aWn ti xs_6∧∀r_7:Int,∀l_8:List Int,∀b_9:Bool,Lf (aZ xs_6=Prod.mk r_7 (Prod.mk l_8 b_9))→bif b_9 then bGa rs Q else bGa rs Q)
theorem bIk (f:Int) (a:Int) (s1:Int) (s2:Int) (s3:Int) (s4:Int) (s5:Int) (rs:List Rc) (lo:List Int) (ba:Int) (ro:Int) (ti:List Int) (Q:Out→List Blk→Gh→Prop):aC4 (bG [(200795,.int .i64),(200800,.int .i64),(200823,.int .i64)]) (bF []) f a s1 s2 s3 s4 s5 rs lo ba ro ti Q=(∃xs_0:List Int,aNb f a s1 s2 s3 s4 s5 xs_0∧bif uO xs_0 then ∃xs_1:List Int,aNk ba xs_1∧bif aNj xs_1 then ∃xs_2:List Int,aNi ro xs_2∧bif tZ xs_2 then bif a !=0 then jO Q else exW .i64 (tT ba ro) (fun n_3=>bif n_3 !=0 then jO Q else exI .i64 (ti.length:Int) (fun n_4=>bE0 n_4 Q lo ti rs)) else jO Q else jO Q else jO Q):=by kernel_rfl

noncomputable def aCn (hv:Nat→Option Pa) (hb:Nat→Option Bool) (f a s1 s2 s3 s4 s5:Int) (rs:List Rc) (lo:List Int) (ba ro:Int) (ti:List Int) (Q:Out→List Blk→Gh→Prop):Prop:=aS5 hv hb 2 f a s1 s2 s3 s4 s5 rs lo ba ro ti Q
theorem bJl (f:Int) (a:Int) (s1:Int) (s2:Int) (s3:Int) (s4:Int) (s5:Int) (rs:List Rc) (lo:List Int) (ba:Int) (ro:Int) (ti:List Int) (Q:Out→List Blk→Gh→Prop):aCn (bG [(200773,.int .i64),(200776,.int .i64),(200779,.int .i64),(200782,.int .i64),(200795,.int .i64),(200800,.int .i64),(200823,.int .i64)]) (bF []) f a s1 s2 s3 s4 s5 rs lo ba ro ti Q=(∃xs_0:List Int,aNb f a s1 s2 s3 s4 s5 xs_0∧bif uO xs_0 then ∃xs_1:List Int,aNk ba xs_1∧bif aNj xs_1 then ∃xs_2:List Int,aNi ro xs_2∧bif tZ xs_2 then bif a !=0 then jO Q else exW .i64 (tT s1 s2) (fun n_3=>exW .i64 (tT n_3 s3) (fun n_4=>exW .i64 (tT n_4 s4) (fun n_5=>exW .i64 (tT n_5 s5) (fun n_6=>bif n_6 !=0 then jO Q else exW .i64 (tT ba ro) (fun n_7=>bif n_7 !=0 then jO Q else exI .i64 (ti.length:Int) (fun n_8=>bE0 n_8 Q lo ti rs)))))) else jO Q else jO Q else jO Q):=by kernel_rfl

noncomputable def aBi (hv:Nat→Option Pa) (hb:Nat→Option Bool) (f a s1 s2 s3 s4 s5:Int) (rs:List Rc) (lo:List Int) (ba ro:Int) (ti:List Int) (Q:Out→List Blk→Gh→Prop):Prop:=aS5 hv hb 3 f a s1 s2 s3 s4 s5 rs lo ba ro ti Q
abbrev bLr (s1 s2 s3 s4 s5:Int) (Q:Out→List Blk→Gh→Prop) (ba ro:Int) (ti:List Int) (rs:List Rc) (lo:List Int):Prop:=exW .i64 (tT s1 s2) (fun n_3=>exW .i64 (tT n_3 s3) (fun n_4=>exW .i64 (tT n_4 s4) (fun n_5=>exW .i64 (tT n_5 s5) (fun n_6=>bif n_6 !=0 then jO Q else exW .i64 (tT ba ro) (fun n_7=>bif n_7 !=0 then jO Q else exI .i64 (ti.length:Int) (fun n_8=>bif decide (n_8>0) then jO Q else exI .i64 (rs.length:Int) (fun n_9=>bE0 n_9 Q lo ti rs)))))))
theorem bG4 (f:Int) (a:Int) (s1:Int) (s2:Int) (s3:Int) (s4:Int) (s5:Int) (rs:List Rc) (lo:List Int) (ba:Int) (ro:Int) (ti:List Int) (Q:Out→List Blk→Gh→Prop):aBi (bG [(200773,.int .i64),(200776,.int .i64),(200779,.int .i64),(200782,.int .i64),(200795,.int .i64),(200800,.int .i64),(200812,.int .i64),(200823,.int .i64)]) (bF []) f a s1 s2 s3 s4 s5 rs lo ba ro ti Q=(∃xs_0:List Int,aNb f a s1 s2 s3 s4 s5 xs_0∧bif uO xs_0 then ∃xs_1:List Int,aNk ba xs_1∧bif aNj xs_1 then ∃xs_2:List Int,aNi ro xs_2∧bif tZ xs_2 then bif a !=0 then jO Q else bLr s1 s2 s3 s4 s5 Q ba ro ti rs lo else jO Q else jO Q else jO Q):=by kernel_rfl

noncomputable def aCm (hv:Nat→Option Pa) (hb:Nat→Option Bool) (f a s1 s2 s3 s4 s5:Int) (rs:List Rc) (lo:List Int) (ba ro:Int) (ti:List Int) (Q:Out→List Blk→Gh→Prop):Prop:=aS5 hv hb 4 f a s1 s2 s3 s4 s5 rs lo ba ro ti Q
def aDk (rs:List Rc) (lo:List Int) (Q:Out→List Blk→Gh→Prop):Prop:=(
(∃l_0:(List Rc),((Lf (((aF rs)=(aF l_0)) ∧
 (((List.length rs)=(List.length l_0)) ∧
 ((List.length l_0)≤(1000000:Nat))))) ∧
 (bif (dL l_0) then (∃xs_1:(List Int),((Lf (((aA lo)=(aA xs_1)) ∧
 (((List.length lo)=(List.length xs_1)) ∧
 ((List.length xs_1)≤(4611686018427387904:Nat))))) ∧
 (bif (bV xs_1) then (Q (Out.ret (AV.bool true)) [] (Gh.mk (0:Nat) (0:Nat) []))
else (Q (Out.ret (AV.bool false)) [] (Gh.mk (0:Nat) (0:Nat) [])))))
else (Q (Out.ret (AV.bool false)) [] (Gh.mk (0:Nat) (0:Nat) []))))))
theorem bK4 (f:Int) (a:Int) (s1:Int) (s2:Int) (s3:Int) (s4:Int) (s5:Int) (rs:List Rc) (lo:List Int) (ba:Int) (ro:Int) (ti:List Int) (Q:Out→List Blk→Gh→Prop):aCm (bG [(200773,.int .i64),(200776,.int .i64),(200779,.int .i64),(200782,.int .i64),(200795,.int .i64),(200800,.int .i64),(200812,.int .i64)]) (bF []) f a s1 s2 s3 s4 s5 rs lo ba ro ti Q=(∃xs_0:List Int,aNb f a s1 s2 s3 s4 s5 xs_0∧bif uO xs_0 then ∃xs_1:List Int,aNk ba xs_1∧bif aNj xs_1 then ∃xs_2:List Int,aNi ro xs_2∧bif tZ xs_2 then exW .i64 (tT s1 s2) (fun n_3=>exW .i64 (tT n_3 s3) (fun n_4=>exW .i64 (tT n_4 s4) (fun n_5=>exW .i64 (tT n_5 s5) (fun n_6=>bif n_6 !=0 then jO Q else exW .i64 (tT ba ro) (fun n_7=>bif n_7 !=0 then jO Q else exI .i64 (ti.length:Int) (fun n_8=>bif decide (n_8>0) then jO Q else exI .i64 (rs.length:Int) (fun n_9=>bif decide (n_9>0) then jO Q else ∃xs_10:List Int,aWn ti xs_10∧∀r_11:Int,∀l_12:List Int,∀b_13:Bool,Lf (aZ xs_10=Prod.mk r_11 (Prod.mk l_12 b_13))→bif b_13 then aDk rs lo Q else aDk rs lo Q))))))) else jO Q else jO Q else jO Q):=by kernel_rfl

noncomputable def aDu (hv:Nat→Option Pa) (hb:Nat→Option Bool) (f a s1 s2 s3 s4 s5:Int) (rs:List Rc) (lo:List Int) (ba ro:Int) (ti:List Int) (Q:Out→List Blk→Gh→Prop):Prop:=aS5 hv hb 5 f a s1 s2 s3 s4 s5 rs lo ba ro ti Q
theorem bI0 (f:Int) (a:Int) (s1:Int) (s2:Int) (s3:Int) (s4:Int) (s5:Int) (rs:List Rc) (lo:List Int) (ba:Int) (ro:Int) (ti:List Int) (Q:Out→List Blk→Gh→Prop):aDu (bG [(200773,.int .i64),(200776,.int .i64),(200779,.int .i64),(200782,.int .i64),(200795,.int .i64),(200800,.int .i64),(200812,.int .i64),(200823,.int .i64)]) (bF []) f a s1 s2 s3 s4 s5 rs lo ba ro ti Q=(∃xs_0:List Int,aNb f a s1 s2 s3 s4 s5 xs_0∧bif uO xs_0 then ∃xs_1:List Int,aNk ba xs_1∧bif aNj xs_1 then ∃xs_2:List Int,aNi ro xs_2∧bif tZ xs_2 then bLr s1 s2 s3 s4 s5 Q ba ro ti rs lo else jO Q else jO Q else jO Q):=by kernel_rfl

noncomputable def aDe (hv:Nat→Option Pa) (hb:Nat→Option Bool) (f a s1 s2 s3 s4 s5:Int) (rs:List Rc) (lo:List Int) (ba ro:Int) (ti:List Int) (Q:Out→List Blk→Gh→Prop):Prop:=aS5 hv hb 6 f a s1 s2 s3 s4 s5 rs lo ba ro ti Q
theorem bJh (f:Int) (a:Int) (s1:Int) (s2:Int) (s3:Int) (s4:Int) (s5:Int) (rs:List Rc) (lo:List Int) (ba:Int) (ro:Int) (ti:List Int) (Q:Out→List Blk→Gh→Prop):aDe (bG [(200773,.int .i64),(200776,.int .i64),(200779,.int .i64),(200782,.int .i64),(200812,.int .i64),(200823,.int .i64)]) (bF []) f a s1 s2 s3 s4 s5 rs lo ba ro ti Q=(∃xs_0:List Int,aNb f a s1 s2 s3 s4 s5 xs_0∧bif uO xs_0 then ∃xs_1:List Int,aNk ba xs_1∧bif aNj xs_1 then ∃xs_2:List Int,aNi ro xs_2∧bif tZ xs_2 then exW .i64 (tT s1 s2) (fun n_3=>exW .i64 (tT n_3 s3) (fun n_4=>exW .i64 (tT n_4 s4) (fun n_5=>exW .i64 (tT n_5 s5) (fun n_6=>bif n_6 !=0 then jO Q else exI .i64 (rs.length:Int) (fun n_7=>bif decide (n_7>0) then jO Q else exI .i64 (lo.length:Int) (fun n_8=>bif decide (n_8>0) then jO Q else ∃xs_9:List Int,aWn ti xs_9∧∀r_10:Int,∀l_11:List Int,∀b_12:Bool,Lf (aZ xs_9=Prod.mk r_10 (Prod.mk l_11 b_12))→bif b_12 then ∃l_13:List Rc,aHx rs l_13∧bif dL l_13 then Q (.ret (.bool true)) [] {} else jO Q else jO Q)))))) else jO Q else jO Q else jO Q):=by kernel_rfl


theorem orZ {x y:Int} {K:Int→Prop} (hx:gU x) (hy:gU y) (h:∀z:Int,gU z→(z=0↔x=0∧y=0)→K z) :
  ∃n,AV.int .i64 (IntKind.wrap .i64 (((x%18446744073709551616).toNat ||| (y%18446744073709551616).toNat:Nat):Int))=AV.int .i64 n∧K n:=by
 obtain ⟨x,rfl⟩:=Int.eq_ofNat_of_zero_le hx.1
 obtain ⟨y,rfl⟩:=Int.eq_ofNat_of_zero_le hy.1
 have e1:(((x:Nat):Int)%18446744073709551616).toNat=x:=by omega
 have e2:(((y:Nat):Int)%18446744073709551616).toNat=y:=by omega
 rw[e1,e2]
 have h3:x ||| y<2^32:=Nat.or_lt_two_pow (by omega) (by omega)
 refine aC (by omega) (by omega) (h _ ⟨by omega,by omega⟩ ?_)
 have h4:x ||| y=0↔x=0∧y=0:=Nat.or_eq_zero_iff
 omega
theorem kP {c:Ctl} {Q:Bool→Prop} (hq:Q (aQ c)) (h:aQ c=true→False):Q false:=by
 have:aQ c=false:=by
  cases e:aQ c
  ·rfl
  ·exact (h e).elim
 rwa [this] at hq
theorem kN {c:Ctl} {Q:Bool→Prop} (hq:Q (aQ c)) (h:aQ c=true):Q true:=by rwa [h] at hq
theorem aLx (m:Nat) (f a s1 s2 s3 s4 s5:Int) (rs:List Rc) (lo:List Int) (ba ro:Int) (ti:List Int) (hrs:rs.length≤1000000) (hlo:lo.length≤1000000) (hti:ti.length≤1000000) (Q:Out→List Blk→Gh→Prop) (hq:Q (.ret (.bool (aQ ⟨(Int.negSucc m),f,a,s1,s2,s3,s4,s5,rs,lo,ba,ro,ti⟩))) [] {}):∃hv hb,aDb hv hb m f a s1 s2 s3 s4 s5 rs lo ba ro ti Q:=by
 obtain ⟨hv,hb',e⟩:∃hv hb,aDb hv hb m f a s1 s2 s3 s4 s5 rs lo ba ro ti Q=_:=⟨_,_,bHt m f a s1 s2 s3 s4 s5 rs lo ba ro ti Q⟩
 refine ⟨hv,hb',e.mpr ?_⟩
 clear e
 have kf:=kP (Q:=fun b=>Q (.ret (.bool b)) [] {}) hq
 have kt:=kN (Q:=fun b=>Q (.ret (.bool b)) [] {}) hq
 have:=kf fun h=>by
  have:=(of_decide_eq_true h).1
  dsimp only at this
  try simp only[Int.ofNat_eq_natCast] at this
  omega
 exact ⟨_,rfl,by rw[decide_eq_true (by omega)],this⟩
theorem aMu (m:Nat) (f a s1 s2 s3 s4 s5:Int) (rs:List Rc) (lo:List Int) (ba ro:Int) (ti:List Int) (hrs:rs.length≤1000000) (hlo:lo.length≤1000000) (hti:ti.length≤1000000) (Q:Out→List Blk→Gh→Prop) (hq:Q (.ret (.bool (aQ ⟨(Int.ofNat (m+7)),f,a,s1,s2,s3,s4,s5,rs,lo,ba,ro,ti⟩))) [] {}):∃hv hb,aCo hv hb m f a s1 s2 s3 s4 s5 rs lo ba ro ti Q:=by
 obtain ⟨hv,hb',e⟩:∃hv hb,aCo hv hb m f a s1 s2 s3 s4 s5 rs lo ba ro ti Q=_:=⟨_,_,bH5 m f a s1 s2 s3 s4 s5 rs lo ba ro ti Q⟩
 refine ⟨hv,hb',e.mpr ?_⟩
 clear e
 have kf:=kP (Q:=fun b=>Q (.ret (.bool b)) [] {}) hq
 have kt:=kN (Q:=fun b=>Q (.ret (.bool b)) [] {}) hq
 have:=kf fun h=>by
  have:=(of_decide_eq_true h).1
  dsimp only at this
  try simp only[Int.ofNat_eq_natCast] at this
  omega
 exact ⟨_,rfl,by rw[decide_eq_false (by simp only[Int.ofNat_eq_natCast];omega)],_,rfl,by rw[decide_eq_true (by simp only[Int.ofNat_eq_natCast];omega)],this⟩
theorem aMf (f a s1 s2 s3 s4 s5:Int) (rs:List Rc) (lo:List Int) (ba ro:Int) (ti:List Int) (hrs:rs.length≤1000000) (hlo:lo.length≤1000000) (hti:ti.length≤1000000) (Q:Out→List Blk→Gh→Prop) (hq:Q (.ret (.bool (aQ ⟨0,f,a,s1,s2,s3,s4,s5,rs,lo,ba,ro,ti⟩))) [] {}):∃hv hb,aB0 hv hb f a s1 s2 s3 s4 s5 rs lo ba ro ti Q:=by
 obtain ⟨hv,hb',e⟩:∃hv hb,aB0 hv hb f a s1 s2 s3 s4 s5 rs lo ba ro ti Q=_:=⟨_,_,bHb f a s1 s2 s3 s4 s5 rs lo ba ro ti Q⟩
 refine ⟨hv,hb',e.mpr ?_⟩
 clear e
 have kf:=kP (Q:=fun b=>Q (.ret (.bool b)) [] {}) hq
 have kt:=kN (Q:=fun b=>Q (.ret (.bool b)) [] {}) hq
 have:=kf fun h=>by
  have:=(of_decide_eq_true h).1
  dsimp only at this
  try simp only[Int.ofNat_eq_natCast] at this
  omega
 exact this
theorem aL4 (f a s1 s2 s3 s4 s5:Int) (rs:List Rc) (lo:List Int) (ba ro:Int) (ti:List Int) (hrs:rs.length≤1000000) (hlo:lo.length≤1000000) (hti:ti.length≤1000000) (Q:Out→List Blk→Gh→Prop) (hq:Q (.ret (.bool (aQ ⟨1,f,a,s1,s2,s3,s4,s5,rs,lo,ba,ro,ti⟩))) [] {}):∃hv hb,aC4 hv hb f a s1 s2 s3 s4 s5 rs lo ba ro ti Q:=by
 obtain ⟨hv,hb',e⟩:∃hv hb,aC4 hv hb f a s1 s2 s3 s4 s5 rs lo ba ro ti Q=_:=⟨_,_,bIk f a s1 s2 s3 s4 s5 rs lo ba ro ti Q⟩
 refine ⟨hv,hb',e.mpr ?_⟩
 delta aNb uO aNk aNj aNi tZ zM jO tT aWn aHx bGa bE0
 clear e
 have kf:=kP (Q:=fun b=>Q (.ret (.bool b)) [] {}) hq
 have kt:=kN (Q:=fun b=>Q (.ret (.bool b)) [] {}) hq
 rw[aQ,decide_eq_true_eq] at kf kt
 dsimp only at kf kt
 refine ⟨[f,a,s1,s2,s3,s4,s5],⟨rfl,rfl,by decide,by simp⟩,fD (fun f1=>⟨[ba],⟨rfl,rfl,by decide,by simp⟩,fD (fun f2=>⟨[ro],⟨rfl,rfl,by decide,by simp⟩,fD (fun f3 => ?_) (fun f3=>kf fun h => ?_)⟩) (fun f2=>kf fun h => ?_)⟩) (fun f1=>kf fun h => ?_)⟩
 all_goals simp only[List.any_cons,List.any_nil,Bool.or_false,fC,jP,dY,Bool.or_eq_false_iff,Bool.or_eq_true,decide_eq_true_eq,decide_eq_false_iff_not] at f1
 all_goals try simp only[List.any_cons,List.any_nil,Bool.or_false,fC,jP,dY,Bool.or_eq_false_iff,Bool.or_eq_true,decide_eq_true_eq,decide_eq_false_iff_not] at f2
 all_goals try simp only[List.any_cons,List.any_nil,Bool.or_false,fC,jP,dY,Bool.or_eq_false_iff,Bool.or_eq_true,decide_eq_true_eq,decide_eq_false_iff_not] at f3
 any_goals (exfalso;omega)
 repeat' (first | (with_reducible refine orZ (by omega) (by omega) (fun z hz h0 => ?_)) | (with_reducible refine cB (fun hn => ?_) (fun hn => ?_)) | (with_reducible refine ⟨_,rfl, ?_⟩) | (with_reducible refine aD (fun hd => ?_) (fun hd => ?_)) | (with_reducible refine ⟨ti,⟨rfl,rfl,hti⟩, ?_⟩) | (with_reducible refine ⟨rs,⟨rfl,rfl,hrs⟩, ?_⟩) | (with_reducible refine ⟨lo,⟨rfl,rfl,by omega⟩, ?_⟩) | (rintro r l b ⟨hs⟩) | (with_reducible refine fG ?_) | (with_reducible refine dV (fun hd => ?_) (fun hd => ?_)))
 all_goals first
  | (refine kf fun h => ?_;first | (exfalso;omega) | (simp_all;done) | (exfalso;simp_all;omega))
  | (refine kt ?_;first | (simp_all;done) | (simp_all;omega) | (refine ⟨by omega,by omega,by omega,by omega,by omega,by omega,by omega,by omega,by omega,by omega,by omega,by omega,by omega,by omega,by omega, ?_, ?_, ?_⟩<;>first | (simp_all;done) | (intros;omega)))
theorem aMo (f a s1 s2 s3 s4 s5:Int) (rs:List Rc) (lo:List Int) (ba ro:Int) (ti:List Int) (hrs:rs.length≤1000000) (hlo:lo.length≤1000000) (hti:ti.length≤1000000) (Q:Out→List Blk→Gh→Prop) (hq:Q (.ret (.bool (aQ ⟨2,f,a,s1,s2,s3,s4,s5,rs,lo,ba,ro,ti⟩))) [] {}):∃hv hb,aCn hv hb f a s1 s2 s3 s4 s5 rs lo ba ro ti Q:=by
 obtain ⟨hv,hb',e⟩:∃hv hb,aCn hv hb f a s1 s2 s3 s4 s5 rs lo ba ro ti Q=_:=⟨_,_,bJl f a s1 s2 s3 s4 s5 rs lo ba ro ti Q⟩
 refine ⟨hv,hb',e.mpr ?_⟩
 delta aNb uO aNk aNj aNi tZ zM jO tT aWn aHx bGa bE0
 clear e
 have kf:=kP (Q:=fun b=>Q (.ret (.bool b)) [] {}) hq
 have kt:=kN (Q:=fun b=>Q (.ret (.bool b)) [] {}) hq
 rw[aQ,decide_eq_true_eq] at kf kt
 dsimp only at kf kt
 refine ⟨[f,a,s1,s2,s3,s4,s5],⟨rfl,rfl,by decide,by simp⟩,fD (fun f1=>⟨[ba],⟨rfl,rfl,by decide,by simp⟩,fD (fun f2=>⟨[ro],⟨rfl,rfl,by decide,by simp⟩,fD (fun f3 => ?_) (fun f3=>kf fun h => ?_)⟩) (fun f2=>kf fun h => ?_)⟩) (fun f1=>kf fun h => ?_)⟩
 all_goals simp only[List.any_cons,List.any_nil,Bool.or_false,fC,jP,dY,Bool.or_eq_false_iff,Bool.or_eq_true,decide_eq_true_eq,decide_eq_false_iff_not] at f1
 all_goals try simp only[List.any_cons,List.any_nil,Bool.or_false,fC,jP,dY,Bool.or_eq_false_iff,Bool.or_eq_true,decide_eq_true_eq,decide_eq_false_iff_not] at f2
 all_goals try simp only[List.any_cons,List.any_nil,Bool.or_false,fC,jP,dY,Bool.or_eq_false_iff,Bool.or_eq_true,decide_eq_true_eq,decide_eq_false_iff_not] at f3
 any_goals (exfalso;omega)
 repeat' (first | (with_reducible refine orZ (by omega) (by omega) (fun z hz h0 => ?_)) | (with_reducible refine cB (fun hn => ?_) (fun hn => ?_)) | (with_reducible refine ⟨_,rfl, ?_⟩) | (with_reducible refine aD (fun hd => ?_) (fun hd => ?_)) | (with_reducible refine ⟨ti,⟨rfl,rfl,hti⟩, ?_⟩) | (with_reducible refine ⟨rs,⟨rfl,rfl,hrs⟩, ?_⟩) | (with_reducible refine ⟨lo,⟨rfl,rfl,by omega⟩, ?_⟩) | (rintro r l b ⟨hs⟩) | (with_reducible refine fG ?_) | (with_reducible refine dV (fun hd => ?_) (fun hd => ?_)))
 all_goals first
  | (refine kf fun h => ?_;first | (exfalso;omega) | (simp_all;done) | (exfalso;simp_all;omega))
  | (refine kt ?_;first | (simp_all;done) | (simp_all;omega) | (refine ⟨by omega,by omega,by omega,by omega,by omega,by omega,by omega,by omega,by omega,by omega,by omega,by omega,by omega,by omega,by omega, ?_, ?_, ?_⟩<;>first | (simp_all;done) | (intros;omega)))
theorem aMa (f a s1 s2 s3 s4 s5:Int) (rs:List Rc) (lo:List Int) (ba ro:Int) (ti:List Int) (hrs:rs.length≤1000000) (hlo:lo.length≤1000000) (hti:ti.length≤1000000) (Q:Out→List Blk→Gh→Prop) (hq:Q (.ret (.bool (aQ ⟨3,f,a,s1,s2,s3,s4,s5,rs,lo,ba,ro,ti⟩))) [] {}):∃hv hb,aBi hv hb f a s1 s2 s3 s4 s5 rs lo ba ro ti Q:=by
 obtain ⟨hv,hb',e⟩:∃hv hb,aBi hv hb f a s1 s2 s3 s4 s5 rs lo ba ro ti Q=_:=⟨_,_,bG4 f a s1 s2 s3 s4 s5 rs lo ba ro ti Q⟩
 refine ⟨hv,hb',e.mpr ?_⟩
 delta aNb uO aNk aNj aNi tZ zM jO tT aWn aHx bGa bE0 bLr
 clear e
 have kf:=kP (Q:=fun b=>Q (.ret (.bool b)) [] {}) hq
 have kt:=kN (Q:=fun b=>Q (.ret (.bool b)) [] {}) hq
 rw[aQ,decide_eq_true_eq] at kf kt
 dsimp only at kf kt
 refine ⟨[f,a,s1,s2,s3,s4,s5],⟨rfl,rfl,by decide,by simp⟩,fD (fun f1=>⟨[ba],⟨rfl,rfl,by decide,by simp⟩,fD (fun f2=>⟨[ro],⟨rfl,rfl,by decide,by simp⟩,fD (fun f3 => ?_) (fun f3=>kf fun h => ?_)⟩) (fun f2=>kf fun h => ?_)⟩) (fun f1=>kf fun h => ?_)⟩
 all_goals simp only[List.any_cons,List.any_nil,Bool.or_false,fC,jP,dY,Bool.or_eq_false_iff,Bool.or_eq_true,decide_eq_true_eq,decide_eq_false_iff_not] at f1
 all_goals try simp only[List.any_cons,List.any_nil,Bool.or_false,fC,jP,dY,Bool.or_eq_false_iff,Bool.or_eq_true,decide_eq_true_eq,decide_eq_false_iff_not] at f2
 all_goals try simp only[List.any_cons,List.any_nil,Bool.or_false,fC,jP,dY,Bool.or_eq_false_iff,Bool.or_eq_true,decide_eq_true_eq,decide_eq_false_iff_not] at f3
 any_goals (exfalso;omega)
 repeat' (first | (with_reducible refine orZ (by omega) (by omega) (fun z hz h0 => ?_)) | (with_reducible refine cB (fun hn => ?_) (fun hn => ?_)) | (with_reducible refine ⟨_,rfl, ?_⟩) | (with_reducible refine aD (fun hd => ?_) (fun hd => ?_)) | (with_reducible refine ⟨ti,⟨rfl,rfl,hti⟩, ?_⟩) | (with_reducible refine ⟨rs,⟨rfl,rfl,hrs⟩, ?_⟩) | (with_reducible refine ⟨lo,⟨rfl,rfl,by omega⟩, ?_⟩) | (rintro r l b ⟨hs⟩) | (with_reducible refine fG ?_) | (with_reducible refine dV (fun hd => ?_) (fun hd => ?_)))
 all_goals first
  | (refine kf fun h => ?_;first | (exfalso;omega) | (simp_all;done) | (exfalso;simp_all;omega))
  | (refine kt ?_;first | (simp_all;done) | (simp_all;omega) | (refine ⟨by omega,by omega,by omega,by omega,by omega,by omega,by omega,by omega,by omega,by omega,by omega,by omega,by omega,by omega,by omega, ?_, ?_, ?_⟩<;>first | (simp_all;done) | (intros;omega)))
theorem aK4 (f a s1 s2 s3 s4 s5:Int) (rs:List Rc) (lo:List Int) (ba ro:Int) (ti:List Int) (hrs:rs.length≤1000000) (hlo:lo.length≤1000000) (hti:ti.length≤1000000) (Q:Out→List Blk→Gh→Prop) (hq:Q (.ret (.bool (aQ ⟨4,f,a,s1,s2,s3,s4,s5,rs,lo,ba,ro,ti⟩))) [] {}):∃hv hb,aCm hv hb f a s1 s2 s3 s4 s5 rs lo ba ro ti Q:=by
 obtain ⟨hv,hb',e⟩:∃hv hb,aCm hv hb f a s1 s2 s3 s4 s5 rs lo ba ro ti Q=_:=⟨_,_,bK4 f a s1 s2 s3 s4 s5 rs lo ba ro ti Q⟩
 refine ⟨hv,hb',e.mpr ?_⟩
 delta aNb uO aNk aNj aNi tZ tT zM jO aWn
 clear e
 have kf:=kP (Q:=fun b=>Q (.ret (.bool b)) [] {}) hq
 have kt:=kN (Q:=fun b=>Q (.ret (.bool b)) [] {}) hq
 rw[aQ,decide_eq_true_eq] at kf kt
 dsimp only at kf kt
 refine ⟨[f,a,s1,s2,s3,s4,s5],⟨rfl,rfl,by decide,by simp⟩,fD (fun f1=>⟨[ba],⟨rfl,rfl,by decide,by simp⟩,fD (fun f2=>⟨[ro],⟨rfl,rfl,by decide,by simp⟩,fD (fun f3 => ?_) (fun f3=>kf fun h => ?_)⟩) (fun f2=>kf fun h => ?_)⟩) (fun f1=>kf fun h => ?_)⟩
 all_goals simp only[List.any_cons,List.any_nil,Bool.or_false,fC,jP,dY,Bool.or_eq_false_iff,Bool.or_eq_true,decide_eq_true_eq,decide_eq_false_iff_not] at f1
 all_goals try simp only[List.any_cons,List.any_nil,Bool.or_false,fC,jP,dY,Bool.or_eq_false_iff,Bool.or_eq_true,decide_eq_true_eq,decide_eq_false_iff_not] at f2
 all_goals try simp only[List.any_cons,List.any_nil,Bool.or_false,fC,jP,dY,Bool.or_eq_false_iff,Bool.or_eq_true,decide_eq_true_eq,decide_eq_false_iff_not] at f3
 any_goals (exfalso;omega)
 repeat' (first | (with_reducible refine orZ (by omega) (by omega) (fun z hz h0 => ?_)) | (with_reducible refine cB (fun hn => ?_) (fun hn => ?_)) | (with_reducible refine ⟨_,rfl, ?_⟩) | (with_reducible refine aD (fun hd => ?_) (fun hd => ?_)) | (with_reducible refine ⟨ti,⟨rfl,rfl,hti⟩, ?_⟩) | (with_reducible refine ⟨rs,⟨rfl,rfl,hrs⟩, ?_⟩) | (with_reducible refine ⟨lo,⟨rfl,rfl,by omega⟩, ?_⟩) | (rintro r l b ⟨hs⟩) | (with_reducible refine fG ?_) | (with_reducible refine dV (fun hd => ?_) (fun hd => ?_)))
 all_goals try simp only[aDk]
 all_goals (repeat' (first | (with_reducible refine orZ (by omega) (by omega) (fun z hz h0 => ?_)) | (with_reducible refine cB (fun hn => ?_) (fun hn => ?_)) | (with_reducible refine ⟨_,rfl, ?_⟩) | (with_reducible refine aD (fun hd => ?_) (fun hd => ?_)) | (with_reducible refine ⟨ti,⟨rfl,rfl,hti⟩, ?_⟩) | (with_reducible refine ⟨rs,⟨rfl,rfl,hrs⟩, ?_⟩) | (with_reducible refine ⟨lo,⟨rfl,rfl,by omega⟩, ?_⟩) | (rintro r l b ⟨hs⟩) | (with_reducible refine fG ?_) | (with_reducible refine dV (fun hd => ?_) (fun hd => ?_))))
 all_goals first
  | (refine kf fun h => ?_;first | (exfalso;omega) | (simp_all;done) | (exfalso;simp_all;omega))
  | (refine kt ?_;first | (simp_all;done) | (simp_all;omega) | (refine ⟨by omega,by omega,by omega,by omega,by omega,by omega,by omega,by omega,by omega,by omega,by omega,by omega,by omega,by omega,by omega, ?_, ?_, ?_⟩<;>first | (simp_all;done) | (intros;omega)))
theorem aLr (f a s1 s2 s3 s4 s5:Int) (rs:List Rc) (lo:List Int) (ba ro:Int) (ti:List Int) (hrs:rs.length≤1000000) (hlo:lo.length≤1000000) (hti:ti.length≤1000000) (Q:Out→List Blk→Gh→Prop) (hq:Q (.ret (.bool (aQ ⟨5,f,a,s1,s2,s3,s4,s5,rs,lo,ba,ro,ti⟩))) [] {}):∃hv hb,aDu hv hb f a s1 s2 s3 s4 s5 rs lo ba ro ti Q:=by
 obtain ⟨hv,hb',e⟩:∃hv hb,aDu hv hb f a s1 s2 s3 s4 s5 rs lo ba ro ti Q=_:=⟨_,_,bI0 f a s1 s2 s3 s4 s5 rs lo ba ro ti Q⟩
 refine ⟨hv,hb',e.mpr ?_⟩
 delta aNb uO aNk aNj aNi tZ tT zM jO aWn aHx bGa bE0 bLr
 clear e
 have kf:=kP (Q:=fun b=>Q (.ret (.bool b)) [] {}) hq
 have kt:=kN (Q:=fun b=>Q (.ret (.bool b)) [] {}) hq
 rw[aQ,decide_eq_true_eq] at kf kt
 dsimp only at kf kt
 refine ⟨[f,a,s1,s2,s3,s4,s5],⟨rfl,rfl,by decide,by simp⟩,fD (fun f1=>⟨[ba],⟨rfl,rfl,by decide,by simp⟩,fD (fun f2=>⟨[ro],⟨rfl,rfl,by decide,by simp⟩,fD (fun f3 => ?_) (fun f3=>kf fun h => ?_)⟩) (fun f2=>kf fun h => ?_)⟩) (fun f1=>kf fun h => ?_)⟩
 all_goals simp only[List.any_cons,List.any_nil,Bool.or_false,fC,jP,dY,Bool.or_eq_false_iff,Bool.or_eq_true,decide_eq_true_eq,decide_eq_false_iff_not] at f1
 all_goals try simp only[List.any_cons,List.any_nil,Bool.or_false,fC,jP,dY,Bool.or_eq_false_iff,Bool.or_eq_true,decide_eq_true_eq,decide_eq_false_iff_not] at f2
 all_goals try simp only[List.any_cons,List.any_nil,Bool.or_false,fC,jP,dY,Bool.or_eq_false_iff,Bool.or_eq_true,decide_eq_true_eq,decide_eq_false_iff_not] at f3
 any_goals (exfalso;omega)
 repeat' (first | (with_reducible refine orZ (by omega) (by omega) (fun z hz h0 => ?_)) | (with_reducible refine cB (fun hn => ?_) (fun hn => ?_)) | (with_reducible refine ⟨_,rfl, ?_⟩) | (with_reducible refine aD (fun hd => ?_) (fun hd => ?_)) | (with_reducible refine ⟨ti,⟨rfl,rfl,hti⟩, ?_⟩) | (with_reducible refine ⟨rs,⟨rfl,rfl,hrs⟩, ?_⟩) | (with_reducible refine ⟨lo,⟨rfl,rfl,by omega⟩, ?_⟩) | (rintro r l b ⟨hs⟩) | (with_reducible refine fG ?_) | (with_reducible refine dV (fun hd => ?_) (fun hd => ?_)))
 all_goals first
  | (refine kf fun h => ?_;first | (exfalso;omega) | (simp_all;done) | (exfalso;simp_all;omega))
  | (refine kt ?_;first | (simp_all;done) | (simp_all;omega) | (refine ⟨by omega,by omega,by omega,by omega,by omega,by omega,by omega,by omega,by omega,by omega,by omega,by omega,by omega,by omega,by omega, ?_, ?_, ?_⟩<;>first | (simp_all;done) | (intros;omega)))
theorem aLh (f a s1 s2 s3 s4 s5:Int) (rs:List Rc) (lo:List Int) (ba ro:Int) (ti:List Int) (hrs:rs.length≤1000000) (hlo:lo.length≤1000000) (hti:ti.length≤1000000) (Q:Out→List Blk→Gh→Prop) (hq:Q (.ret (.bool (aQ ⟨6,f,a,s1,s2,s3,s4,s5,rs,lo,ba,ro,ti⟩))) [] {}):∃hv hb,aDe hv hb f a s1 s2 s3 s4 s5 rs lo ba ro ti Q:=by
 obtain ⟨hv,hb',e⟩:∃hv hb,aDe hv hb f a s1 s2 s3 s4 s5 rs lo ba ro ti Q=_:=⟨_,_,bJh f a s1 s2 s3 s4 s5 rs lo ba ro ti Q⟩
 refine ⟨hv,hb',e.mpr ?_⟩
 delta aNb uO aNk aNj aNi tZ tT zM jO aWn aHx
 clear e
 have kf:=kP (Q:=fun b=>Q (.ret (.bool b)) [] {}) hq
 have kt:=kN (Q:=fun b=>Q (.ret (.bool b)) [] {}) hq
 rw[aQ,decide_eq_true_eq] at kf kt
 dsimp only at kf kt
 refine ⟨[f,a,s1,s2,s3,s4,s5],⟨rfl,rfl,by decide,by simp⟩,fD (fun f1=>⟨[ba],⟨rfl,rfl,by decide,by simp⟩,fD (fun f2=>⟨[ro],⟨rfl,rfl,by decide,by simp⟩,fD (fun f3 => ?_) (fun f3=>kf fun h => ?_)⟩) (fun f2=>kf fun h => ?_)⟩) (fun f1=>kf fun h => ?_)⟩
 all_goals simp only[List.any_cons,List.any_nil,Bool.or_false,fC,jP,dY,Bool.or_eq_false_iff,Bool.or_eq_true,decide_eq_true_eq,decide_eq_false_iff_not] at f1
 all_goals try simp only[List.any_cons,List.any_nil,Bool.or_false,fC,jP,dY,Bool.or_eq_false_iff,Bool.or_eq_true,decide_eq_true_eq,decide_eq_false_iff_not] at f2
 all_goals try simp only[List.any_cons,List.any_nil,Bool.or_false,fC,jP,dY,Bool.or_eq_false_iff,Bool.or_eq_true,decide_eq_true_eq,decide_eq_false_iff_not] at f3
 any_goals (exfalso;omega)
 repeat' (first | (with_reducible refine orZ (by omega) (by omega) (fun z hz h0 => ?_)) | (with_reducible refine cB (fun hn => ?_) (fun hn => ?_)) | (with_reducible refine ⟨_,rfl, ?_⟩) | (with_reducible refine aD (fun hd => ?_) (fun hd => ?_)) | (with_reducible refine ⟨ti,⟨rfl,rfl,hti⟩, ?_⟩) | (with_reducible refine ⟨rs,⟨rfl,rfl,hrs⟩, ?_⟩) | (with_reducible refine ⟨lo,⟨rfl,rfl,by omega⟩, ?_⟩) | (rintro r l b ⟨hs⟩) | (with_reducible refine fG ?_) | (with_reducible refine dV (fun hd => ?_) (fun hd => ?_)))
 all_goals first
  | (refine kf fun h => ?_;first | (exfalso;omega) | (simp_all;done) | (exfalso;simp_all;omega))
  | (refine kt ?_;first | (simp_all;done) | (simp_all;omega) | (refine ⟨by omega,by omega,by omega,by omega,by omega,by omega,by omega,by omega,by omega,by omega,by omega,by omega,by omega,by omega,by omega, ?_, ?_, ?_⟩<;>first | (simp_all;done) | (intros;omega)))
end Go.Proofs.YtafchcmemeinlaaDoor

/-
  Chapter 17: Marks of the reference; RecordWindows.
-/
import Derived.Test.YtiholnebhmjbjaaGreatZ17E
set_option linter.unusedSimpArgs false
set_option linter.unusedVariables false
set_option linter.unusedSectionVars false
namespace Go.Proofs.YtiholnebhmjbjaaGreat
open Go.RowKit
set_option maxRecDepth 1000000

abbrev X19:=Nat×Int×Nat×Int
def inv_19 (tg:Nat) (s:List UInt8):LInv where
 α:=X19
 pre x:=Lf (x.1≤40∧x.1≤s.length∧(-1≤x.2.1∧x.2.1<281474976710656)∧x.2.2.1<18446744073709551616∧0≤x.2.2.2∧x.2.2.2≤300+100*x.1)
 st x:=⟨mkT [(1,.lst tg (ofBytes s) s.length 1),(4,.ptr 0 2 0),(5,.ptr 1 2 0),(6,.int .i64 x.2.2.2),(7,.int .i64 (x.1:Nat))],[⟨.exact,true,[.int .i64 0,.int .u64 0]⟩,⟨.exact,true,[.int .i64 x.2.1,.int .u64 (x.2.2.1:Nat)]⟩]⟩
 mu x:=41-x.1
def smG19:SM:=lookS [(48,cMark)]
theorem smG19_ok:∀f g,smG19 f=some g→ValidF Tryz.prog gl0 f g:=lookS_ok _ (by simp only[List.mem_cons,List.not_mem_nil,or_false,forall_eq];exact markR_ok)
noncomputable def env_19 (hv:Nat→Option Pa) (hb:Nat→Option Bool) (tg:Nat) (s:List UInt8):Env:=
 e04 smG19 (fun i=>bif Nat.beq i 40000 then some (fun _=>[[inv_19 tg s]]) else none) hv hb
noncomputable def goal_19 (hv:Nat→Option Pa) (hb:Nat→Option Bool) (tg:Nat) (st:Int) (s:List UInt8) (Q:Out→List Blk→Gh→Prop):Prop:=
 callx (env_19 hv hb tg s) (wpx (env_19 hv hb tg s) 1000) 40 [.int .u16 st,.lst tg (ofBytes s) s.length 1] [] {} Q
theorem vc_19 (tg:Nat) (st:Int) (s:List UInt8) (Q:Out→List Blk→Gh→Prop):goal_19 (lookV [(163852,.int .u16),(163853,.int .i64),(163854,.int .i64),(163856,.int .i64),(163859,.int .i64),(163865,.agg [(.int .i64),
 (.int .u64)]),(163868,.agg [(.int .i64),(.int .u64)]),(163875,.int .i64),(163877,.int .u8),(163878,.int .u8),(163879,.int .i64),(163880,.int .i64),(163881,.int .i64),(163882,.int .i64),(163862,.int .i64),(163863,.int
 .i64),(163883,.agg [(.int .i64),(.int .u64)])]) (lookB []) tg st s Q=(exI .u16 (st.tmod 200) fun n_0=>exW .i64 n_0 fun n_1=>(∃x_2:Nat×Int×Nat×Int,Lf (x_2.1≤40∧x_2.1≤s.length∧(-1≤x_2.2.1∧x_2.2.1 <
 281474976710656)∧x_2.2.2.1<18446744073709551616∧0≤x_2.2.2.2∧x_2.2.2.2≤300+100*(x_2.1:Int))∧eqqQ [AV.int .i64 0,.int .u64 0]∧[AV.int .i64 (-1),.int .u64 0]=[AV.int .i64 x_2.2.1,.int .u64 (x_2.2.2.1:Int)]∧eqqQ
 (AV.lst tg (ofBytes s) s.length 1)∧AV.int .i64 0=AV.int .i64 (x_2.1:Int)∧eqqQ (AV.ptr 1 2 0)∧eqqQ (AV.ptr 0 2 0)∧AV.int .i64 n_1=AV.int .i64 x_2.2.2.2∧True)∧∀x_2:Nat×Int×Nat×Int,Lf (x_2.1≤40∧x_2.1≤s.length
 ∧ (-1≤x_2.2.1∧x_2.2.1<281474976710656)∧x_2.2.2.1<18446744073709551616∧0≤x_2.2.2.2∧x_2.2.2.2≤300+100*(x_2.1:Int))→exI .i64 (x_2.1:Int) fun n_3=>exI .i64 (s.length:Int) fun n_4=>bif decide (n_3<n_4) then
 exI .i64 (x_2.1:Int) fun n_5=>bif decide (n_5<40) then ∃n_6 n_7,AV.agg [.int .i64 x_2.2.1,.int .u64 (x_2.2.2.1:Int)]=AV.agg [.int .i64 n_6,.int .u64 n_7]∧∃k_8:Nat,Lf (n_7=(k_8:Int)∧k_8<18446744073709551616 ∧
 (-9223372036854775808≤n_6∧n_6≤9223372036854775807) ∧ -9223372036854775808≤x_2.2.2.2∧x_2.2.2.2≤9223372036854775807)∧∀a_9:Int,∀b_10:Nat,∀e_11:Int,Lf (markRM n_6 k_8 x_2.2.2.2=Prod.mk (Prod.mk a_9 b_10) e_11)→∃
 n_12 n_13,AV.agg [.int .i64 a_9,.int .u64 (b_10:Int)]=AV.agg [.int .i64 n_12,.int .u64 n_13]∧bif e_11==0 then exI .i64 (x_2.1:Int) fun n_14=>ckQ (decide (0≤n_14)&&Nat.blt n_14.toNat s.length&&true) (ckQ (Nat.blt
 (n_14.toNat*1) (ofBytes s).length) (exV .u8 ((ofBytes s).getD (n_14.toNat*1) AV.undef) fun n_15=>exI .u8 (n_15.tmod 90) fun n_16=>exW .i64 n_16 fun n_17=>exW .i64 (x_2.2.2.2+n_17) fun n_18=>exW .i64 (n_18-20) fun n_19=>
 exI .i64 (imax 0 n_19) fun n_20=>exI .i64 (x_2.1:Int) fun n_21=>exW .i64 (n_21+1) fun n_22=>(True∧(0:Nat)=(0:Nat))∧∃y_23:Nat×Int×Nat×Int,Lf (y_23.1≤40∧y_23.1≤s.length∧(-1≤y_23.2.1∧y_23.2.1 <
 281474976710656)∧y_23.2.2.1<18446744073709551616∧0≤y_23.2.2.2∧y_23.2.2.2≤300+100*(y_23.1:Int))∧41-y_23.1<41-x_2.1∧eqqQ [AV.int .i64 0,.int .u64 0]∧[AV.int .i64 n_12,.int .u64 n_13]=[AV.int .i64 y_23.2.1,
 .int .u64 (y_23.2.2.1:Int)]∧eqqQ (AV.lst tg (ofBytes s) s.length 1)∧AV.int .i64 n_22=AV.int .i64 (y_23.1:Int)∧eqqQ (AV.ptr 1 2 0)∧eqqQ (AV.ptr 0 2 0)∧AV.int .i64 n_20=AV.int .i64 y_23.2.2.2∧True)) else exI .i64 (x_2.1 :
 Int) fun n_14=>ckQ (decide (0≤n_14)&&Nat.blt n_14.toNat s.length&&true) (ckQ (Nat.blt (n_14.toNat*1) (ofBytes s).length) (exV .u8 ((ofBytes s).getD (n_14.toNat*1) AV.undef) fun n_15=>exI .u8 (n_15.tmod 90) fun n_16=>exW
 .i64 n_16 fun n_17=>exW .i64 (x_2.2.2.2+n_17) fun n_18=>exW .i64 (n_18-20) fun n_19=>exI .i64 (imax 0 n_19) fun n_20=>exI .i64 (x_2.1:Int) fun n_21=>exW .i64 (n_21+1) fun n_22=>(True∧(0:Nat)=(0:Nat))∧∃y_23 :
 Nat×Int×Nat×Int,Lf (y_23.1≤40∧y_23.1≤s.length∧(-1≤y_23.2.1∧y_23.2.1<281474976710656)∧y_23.2.2.1<18446744073709551616∧0≤y_23.2.2.2∧y_23.2.2.2≤300+100*(y_23.1:Int))∧41-y_23.1<41-x_2.1∧eqqQ
 [AV.int .i64 0,.int .u64 0]∧[AV.int .i64 x_2.2.1,.int .u64 (x_2.2.2.1:Int)]=[AV.int .i64 y_23.2.1,.int .u64 (y_23.2.2.1:Int)]∧eqqQ (AV.lst tg (ofBytes s) s.length 1)∧AV.int .i64 n_22=AV.int .i64 (y_23.1:Int)∧eqqQ
 (AV.ptr 1 2 0)∧eqqQ (AV.ptr 0 2 0)∧AV.int .i64 n_20=AV.int .i64 y_23.2.2.2∧True)) else ∃n_6 n_7,AV.agg [.int .i64 x_2.2.1,.int .u64 (x_2.2.2.1:Int)]=AV.agg [.int .i64 n_6,.int .u64 n_7]∧Q (.ret (.agg [.int .i64 n_6,.int
 .u64 n_7])) [] {} else ∃n_5 n_6,AV.agg [.int .i64 x_2.2.1,.int .u64 (x_2.2.2.1:Int)]=AV.agg [.int .i64 n_5,.int .u64 n_6]∧Q (.ret (.agg [.int .i64 n_5,.int .u64 n_6])) [] {}):=by kernel_rfl

theorem getO {s:List UInt8} {j m:Nat} (hj:j<s.length) (hm:m=j) {K:Int→Prop} (hk:K ((s.getD j 0).toNat:Int)):∃n:Int,List.getD (ofBytes s) m AV.undef=AV.int .u8 n∧K n:=by
 subst hm
 refine ⟨_, ?_,hk⟩
 simp[ofBytes,List.getD,hj]
theorem markRM_in {t:Int} {k:Nat} {q:Int} {a:Int} {b:Nat} {e:Int} (hk:k<18446744073709551616) (h:markRM t k q=((a,b),e)):(-1≤a∧a<281474976710656)∧b<18446744073709551616:=by
 unfold markRM at h
 split at h
 ·simp only[Prod.mk.injEq] at h
  obtain ⟨⟨rfl,rfl⟩,_⟩:=h
  omega
 ·rename_i hf
  have hf':freshWM t k q=0:=Decidable.of_not_not hf
  have hm:=mark_lt hk hf'
  obtain ⟨h1,h2,h3⟩:=fresh_parts hf'
  have htr : -1≤t∧t<281474976710656:=by rcases ok_parts h1 with h | h<;>omega
  have hT : -1≤(markWM t k q).1∧(markWM t k q).1<281474976710656:=by unfold markWM;split<;>simp only<;>omega
  simp only[Prod.mk.injEq] at h
  rw[h.1] at hm hT
  exact ⟨hT,hm⟩
theorem marks_run (tg:Nat) (st:Int) (s:List UInt8) (hst:0≤st∧st≤65535) (hs:s.length≤9223372036854775807) (Q:Out→List Blk→Gh→Prop)
  (hq:∀ (a:Int) (b:Nat), -1≤a∧a<281474976710656→b<18446744073709551616→Q (.ret (.agg [.int .i64 a,.int .u64 (b:Nat)])) [] {}):∃hv hb,goal_19 hv hb tg st s Q:=by
 obtain ⟨hv,hb',e⟩:∃hv hb,goal_19 hv hb tg st s Q=_:=⟨_,_,vc_19 tg st s Q⟩
 refine ⟨hv,hb',e.mpr ?_⟩
 clear e
 have hm:Int.tmod st 200=st%200:=Int.tmod_eq_emod_of_nonneg hst.1
 refine ⟨_,rfl, ?_⟩
 rw[hm]
 refine wrapI (by omega) (by omega) ⟨⟨(0, -1,0,st%200),⟨by omega,by omega,by dsimp only;omega,by dsimp only;omega,by dsimp only;omega,by dsimp only;omega⟩,rfl,rfl,rfl,rfl,rfl,rfl,rfl,trivial⟩, ?_⟩
 rintro ⟨i,a,b,p⟩ ⟨h1,h2,h3,h4,h5,h6⟩
 dsimp only at h1 h2 h3 h4 h5 h6 ⊢
 have fin:=hq a b h3 h4
 refine ⟨_,rfl,_,rfl,splitD (fun h7=>⟨_,rfl,splitD (fun h8 => ?_) (fun _=>aggW2 fin)⟩) (fun _=>aggW2 fin)⟩
 refine aggW2 ⟨b,⟨rfl,h4,by omega,by omega⟩, ?_⟩
 rintro a' b' e' ⟨hmk⟩
 obtain ⟨g1,g2⟩:=markRM_in h4 hmk
 have hlt:i<s.length:=by omega
 have hc:=(s.getD i 0).toNat_lt
 have ht:Int.tmod ((s.getD i 0).toNat:Int) 90=(((s.getD i 0).toNat%90:Nat):Int):=rfl
 refine aggW2 (splitE (fun _ => ?_) (fun _ => ?_))
 ·refine ⟨_,rfl,ckI (by simp;omega) (ckI (by rw[ofB_len];simp;omega) (getO (j:=i) hlt (by simp) ⟨_,rfl, ?_⟩))⟩
  rw[ht]
  generalize (s.getD i 0).toNat=c at *
  refine wrapI (by omega) (by omega) (wrapI (by omega) (by omega) (wrapI (by omega) (by omega) ⟨_,rfl,_,rfl,wrapI (by omega) (by omega) ⟨⟨trivial,rfl⟩,(i+1,a',b',imax 0 (p+((c%90:Nat):Int)-20)),⟨by dsimp only;omega,by dsimp only;omega,g1,g2, ?_, ?_⟩,by dsimp only;omega,rfl,rfl,rfl,rfl,rfl,rfl,rfl,trivial⟩⟩))
  ·dsimp only;unfold imax;split<;>omega
  ·dsimp only;unfold imax;split<;>omega
 ·refine ⟨_,rfl,ckI (by simp;omega) (ckI (by rw[ofB_len];simp;omega) (getO (j:=i) hlt (by simp) ⟨_,rfl, ?_⟩))⟩
  rw[ht]
  generalize (s.getD i 0).toNat=c at *
  refine wrapI (by omega) (by omega) (wrapI (by omega) (by omega) (wrapI (by omega) (by omega) ⟨_,rfl,_,rfl,wrapI (by omega) (by omega) ⟨⟨trivial,rfl⟩,(i+1,a,b,imax 0 (p+((c%90:Nat):Int)-20)),⟨by dsimp only;omega,by dsimp only;omega,h3,h4, ?_, ?_⟩,by dsimp only;omega,rfl,rfl,rfl,rfl,rfl,rfl,rfl,trivial⟩⟩))
  ·dsimp only;unfold imax;split<;>omega
  ·dsimp only;unfold imax;split<;>omega
def cMarks:Con
 | [.int .u16 st,.lst _ l n 1],H,K=>∃s:List UInt8,Lf (l=ofBytes s∧n=s.length∧(0≤st∧st≤65535)∧s.length≤9223372036854775807)∧∀ (a:Int) (b:Nat),Lf ((-1≤a∧a<281474976710656)∧b<18446744073709551616)→K (.ret (.agg [.int .i64 a,.int .u64 (b:Nat)])) H
 | _,_,_=>False
theorem marks_ok:ValidF Tryz.prog gl0 40 cMarks:=by
 refine valid_flat (enters_of (by kernel_rfl)) gl0_noY fun args H Q hc => ?_
 unfold cMarks at hc
 split at hc
 ·rename_i st tg l n
  obtain ⟨s,⟨rfl,rfl,h1,h2⟩,hq⟩:=hc
  obtain ⟨hv,hb',h⟩:=marks_run tg st s h1 h2 (Q:=fun o H' _=>H'=[]∧(∃v,o=.ret v∧old 0 v=true∧noY v=true)∧Q o H) (fun a b g1 g2=>⟨rfl,⟨_,rfl,rfl,rfl⟩,hq a b ⟨g1,g2⟩⟩)
  exact ⟨by simp[oldL,old,oldL_ofB],by simp[noYL,noY],_,1000,envFor04 smG19_ok _ _ _,rfl,h⟩
 ·exact hc.elim
end Go.Proofs.YtiholnebhmjbjaaGreat

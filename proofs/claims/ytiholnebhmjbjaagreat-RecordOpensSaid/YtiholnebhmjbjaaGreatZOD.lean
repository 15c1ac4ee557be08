/-
  Chapter 17: RecordOpens' run.
-/
import Derived.Test.YtiholnebhmjbjaaGreatZOC
set_option linter.unusedSimpArgs false
set_option linter.unusedVariables false
set_option linter.unusedSectionVars false
namespace Go.Proofs.YtiholnebhmjbjaaGreat
open Go.RowKit
set_option maxRecDepth 1000000

theorem eqA_ofB (s:List UInt8):eqAVL (ofBytes s) (ofBytes s)=true:=by
 induction s with
 | nil=>rfl
 | cons c s ih=>simp only[ofBytes,List.map_cons,eqAVL,eqAV,decide_true,Bool.true_and];exact ih
theorem aggB {w n:Int} {s:List UInt8} {t u:Int} {K:Int→Int→List UInt8→Int→Int→Prop} (h:K w n s t u):∃ (n0 n1:Int) (s2:List UInt8) (n3 n4:Int),AV.agg [.int .u8 w,.int .i64 n,.str s,.int .i64 t,.int .u64 u]=AV.agg [.int .u8 n0,.int .i64 n1,.str s2,.int .i64 n3,.int .u64 n4]∧K n0 n1 s2 n3 n4:=⟨_,_,_,_,_,rfl,h⟩
theorem roundO {e:Int} {key salt:List UInt8} {t u:Int} {k:Nat} {s:List UInt8} {QF R:Prop} (hu:u=(k:Int)) (hk:k<18446744073709551616) (hs:s.length≤100000) (hR:R) :
  ∃k':Nat,Lf (u=(k':Int)∧k'<18446744073709551616∧s.length≤100000)∧∀ (a:Int) (ky sa:List UInt8) (b:Int) (c:Nat) (out:List Rc) (f:Int),Lf (openXM e key salt t k' s=((a,ky,sa,b,c),out,f)∧out.length≤1000000) →
   ∃ (n1:Int) (s1 s2:List UInt8) (n2 n3:Int),AV.agg [.int .i64 a,.str ky,.str sa,.int .i64 b,.int .u64 (c:Int)]=AV.agg [.int .i64 n1,.str s1,.str s2,.int .i64 n2,.int .u64 n3] ∧
   ∃k':Nat,Lf (u=(k':Int)∧k'<18446744073709551616∧s.length≤100000)∧∀ (a':Int) (ky' sa':List UInt8) (b':Int) (c':Nat) (out':List Rc) (f':Int),Lf (openXM e key salt t k' s=((a',ky',sa',b',c'),out',f')∧out'.length≤1000000) →
    ∃ (n1':Int) (s1' s2':List UInt8) (n2' n3':Int),AV.agg [.int .i64 a',.str ky',.str sa',.int .i64 b',.int .u64 (c':Int)]=AV.agg [.int .i64 n1',.str s1',.str s2',.int .i64 n2',.int .u64 n3'] ∧
     bif !(n1==n1'&&(eqB s1 s1'&&(eqB s2 s2'&&(n2==n2'&&(n3==n3'&&true)&&true)))) then QF else bif f !=f' then QF else
      ∃l k:List Rc,Lf ((cellsRM out=cellsRM l∧out.length=l.length)∧(cellsRM out'=cellsRM k∧out'.length=k.length)∧l.length≤1000000)∧∀b:Bool,Lf (b=sameRM l k)→bif b then R else QF:=by
 refine ⟨k,⟨hu,hk,hs⟩, ?_⟩
 rintro a ky sa b c out f ⟨h1,h2⟩
 refine agg5 ⟨k,⟨hu,hk,hs⟩, ?_⟩
 rintro a' ky' sa' b' c' out' f' ⟨h3,h4⟩
 rw[h1] at h3
 simp only[Prod.mk.injEq] at h3
 obtain ⟨⟨rfl,rfl,rfl,rfl,rfl⟩,rfl,rfl⟩:=h3
 refine agg5 ?_
 simp only[eqB_refl,beq_self_eq_true,Bool.and_self,Bool.not_true,bne_self_eq_false,cond_false]
 refine ⟨out,out,⟨⟨rfl,rfl⟩,⟨rfl,rfl⟩,h2⟩, ?_⟩
 rintro x ⟨rfl⟩
 rw[show sameRM out out=true by simp[sameRM],cond_true]
 exact hR
theorem roundsO {e:Int} {key salt:List UInt8} {t u:Int} {k:Nat} {QF R:Prop} {x0:Int} (hu:u=(k:Int)) (hk:k<18446744073709551616) (hR:R):Lf (∃j:Nat,u=(j:Int)∧j<18446744073709551616∧x0=chkM (rcvOkM e key salt t j)) →
  ∃j:Nat,Lf (u=(j:Int)∧j<18446744073709551616)∧∀x1:Int,Lf (x1=chkM (rcvOkM e key salt t j))→bif x1 !=x0 then QF else R:=by
 rintro ⟨j,hj,hj2,rfl⟩
 obtain rfl:j=k:=by omega
 refine ⟨j,⟨hu,hk⟩, ?_⟩
 rintro x ⟨rfl⟩
 rw[bne_self_eq_false,cond_false]
 exact hR
theorem opens_run (ep st kk sk:Int) (sn:List UInt8) (wh n:Int) (bs:List UInt8) (wt:Int) (wk:Nat) (l:List (List UInt8)) (x y:Int) (tx text:List UInt8) (hsn:sn.length≤9223372036854775807) (hep:0≤ep∧ep≤65535) (hst:0≤st∧st≤65535) (hwh:0≤wh∧wh≤255) (hwk:wk<18446744073709551616)
  (hx:0≤x∧x≤65535) (hy:0≤y∧y≤65535) (Q:Out→List Blk→Gh→Prop) (hq:Q (.ret (.bool true)) [] {}):∃hv hb,goal_o4 hv hb ep st kk sk sn wh n bs wt wk l x y tx text Q:=by
 obtain ⟨hv',hb',e'⟩:∃hv hb,goal_o4 hv hb ep st kk sk sn wh n bs wt wk l x y tx text Q=_:=⟨_,_,vc_o4 ep st kk sk sn wh n bs wt wk l x y tx text Q⟩
 refine ⟨hv',hb',e'.mpr ?_⟩
 delta zOC11 zOC5 zOC23 zOC4 zOC7 zOC10 zOC1 zOC14 zOC9 zOC12 zOC16 zOC19 zOC22 zOC20 zOC15 zOC3 zOC17 zOC24 zOC2 zOC8 zOC0 zOC21 zOC18 zOC13 zOC6
 clear e'
 have eD:(eqAVL [.int .u16 ep,.int .u16 st,.int .u8 kk,.int .u8 sk,.lst 0 (ofBytes sn) sn.length 1] [.int .u16 ep,.int .u16 st,.int .u8 kk,.int .u8 sk,.lst 0 (ofBytes sn) sn.length 1]&&true)=true:=by simp[eqAVL,eqAV,eqA_ofB]
 have eB:(eqAVL [.int .u8 wh,.int .i64 n,.str bs,.int .i64 wt,.int .u64 (wk:Int)] [.int .u8 wh,.int .i64 n,.str bs,.int .i64 wt,.int .u64 (wk:Int)]&&true)=true:=by simp[eqAVL,eqAV,eqB_refl]
 refine ⟨sn,⟨rfl,hep,hst⟩, ?_⟩
 rintro e1 key2 salt3 ⟨f1,f2,f3⟩
 refine ⟨l,⟨rfl,rfl⟩, ?_⟩
 rintro own ⟨o1,o2⟩
 refine ⟨own,⟨rfl,rfl,rfl,o1,o2⟩, ?_⟩
 rintro all ⟨ha⟩
 refine aggB ⟨sn,⟨⟨rfl,rfl⟩,hep,hst,hsn⟩, ?_⟩
 rintro e14 key15 salt16 t17 k18 ⟨hk18⟩
 refine ckI eD (ckI eB (ckI eD (agg5 ⟨sn,⟨rfl,hep,hst⟩, ?_⟩)))
 rintro e25 key26 salt27 ⟨g1,g2,g3⟩
 refine ckI eD (ckI eB ⟨rfl,ckI eD (ckI eB ⟨sn,⟨⟨rfl,rfl⟩,hep,hst,hsn⟩, ?_⟩)⟩)
 rintro e29 key30 salt31 t32 k33 ⟨hk33⟩
 refine ckI eB (agg5 ⟨wk,k33,⟨rfl,rfl,hwk,hk33,hwh⟩, ?_⟩)
 rintro e41 key42 salt43 t44 k45 ⟨hk45⟩
 refine agg5 ⟨⟨k18,⟨rfl,hk18⟩, ?_⟩,fun x51=>roundsO rfl hk18 ?_⟩
 ·rintro b ⟨hb⟩
  cases b with
  | true=>exact ⟨⟨trivial,rfl⟩,_,⟨k18,rfl,hk18,rfl⟩,rfl,rfl,rfl,rfl,by rw[←hb];rfl,rfl,rfl,rfl,rfl,rfl,rfl,rfl,rfl,trivial⟩
  | false=>exact ⟨⟨trivial,rfl⟩,_,⟨k18,rfl,hk18,rfl⟩,rfl,rfl,rfl,rfl,by rw[←hb];rfl,rfl,rfl,rfl,rfl,rfl,rfl,rfl,rfl,trivial⟩
 obtain ⟨m,hm,hml,hm2⟩:∃m:Nat,imin (text.length:Int) 100=(m:Int)∧m≤text.length∧m≤100:=⟨min text.length 100,by unfold imin;split<;>omega,by omega,by omega⟩
 have cA:(decide (all.length+all.length≤9223372036854775807)&&true)=true:=by simp;omega
 have cT:(decide ((0:Int)≤(m:Int))&&true&&Nat.ble (m:Int).toNat text.length)=true:=by simp;omega
 have lA:(all++all).length≤100000:=by rw[List.length_append];omega
 have lT:((text.drop 0).take ((m:Int).toNat-0)).length≤100000:=by simp;omega
 have lE:∀r:List UInt8,r.length≤all.length+40→r.length≤100000:=fun r h=>by omega
 refine ckI cA ⟨_,rfl,_,rfl,(m:Int),congrArg _ hm,ckI cT ⟨_,rfl,⟨hx,hy,by omega⟩, ?_⟩⟩
 rintro r1 ⟨hr1⟩
 refine roundO rfl hk18 (by omega) (roundO rfl hk18 lA (roundO rfl hk18 (lE _ hr1) (roundO rfl hk18 lT ?_)))
 have hz0:(0:Nat)<18446744073709551616:=by decide
 refine ⟨⟨0,⟨rfl,hz0⟩, ?_⟩,fun x51=>roundsO (k:=0) rfl hz0 ?_⟩
 ·rintro b ⟨hb⟩
  cases b with
  | true=>exact ⟨⟨trivial,rfl⟩,_,⟨0,rfl,hz0,rfl⟩,rfl,rfl,rfl,rfl,by rw[←hb];rfl,rfl,rfl,rfl,rfl,rfl,rfl,rfl,rfl,trivial⟩
  | false=>exact ⟨⟨trivial,rfl⟩,_,⟨0,rfl,hz0,rfl⟩,rfl,rfl,rfl,rfl,by rw[←hb];rfl,rfl,rfl,rfl,rfl,rfl,rfl,rfl,rfl,trivial⟩
 refine ckI cA ⟨_,rfl,_,rfl,(m:Int),congrArg _ hm,ckI cT ⟨_,rfl,⟨hx,hy,by omega⟩, ?_⟩⟩
 rintro r2 ⟨hr2⟩
 refine roundO (k:=0) rfl hz0 (by omega) (roundO (k:=0) rfl hz0 lA (roundO (k:=0) rfl hz0 (lE _ hr2) (roundO (k:=0) rfl hz0 lT ?_)))
 refine ⟨⟨k45,⟨rfl,hk45⟩, ?_⟩,fun x51=>roundsO (k:=k45) rfl hk45 ?_⟩
 ·rintro b ⟨hb⟩
  cases b with
  | true=>exact ⟨⟨trivial,rfl⟩,_,⟨k45,rfl,hk45,rfl⟩,rfl,rfl,rfl,rfl,by rw[←hb];rfl,rfl,rfl,rfl,rfl,rfl,rfl,rfl,rfl,trivial⟩
  | false=>exact ⟨⟨trivial,rfl⟩,_,⟨k45,rfl,hk45,rfl⟩,rfl,rfl,rfl,rfl,by rw[←hb];rfl,rfl,rfl,rfl,rfl,rfl,rfl,rfl,rfl,trivial⟩
 refine ckI cA ⟨_,rfl,_,rfl,(m:Int),congrArg _ hm,ckI cT ⟨_,rfl,⟨hx,hy,by omega⟩, ?_⟩⟩
 rintro r3 ⟨hr3⟩
 refine roundO (k:=k45) rfl hk45 (by omega) (roundO (k:=k45) rfl hk45 lA (roundO (k:=k45) rfl hk45 (lE _ hr3) (roundO (k:=k45) rfl hk45 lT ?_)))
 exact hq
end Go.Proofs.YtiholnebhmjbjaaGreat

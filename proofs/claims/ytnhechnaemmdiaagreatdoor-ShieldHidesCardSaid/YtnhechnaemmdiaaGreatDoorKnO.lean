/-
  Chapter 25: guesses.
-/
import Derived.Test.YtnhechnaemmdiaaGreatDoorKnA
import Derived.Test.YtnhechnaemmdiaaGreatDoorKnN
set_option linter.unusedSimpArgs false
set_option linter.unusedVariables false
set_option linter.unusedSectionVars false
namespace Go.Proofs.YtnhechnaemmdiaaGreatDoor
open Go.RowKit
set_option maxRecDepth 1000000

def iM (x y:Int):Int:=if (x-y)%65536<32768 then (x-y)%65536 else (x-y)%65536-65536
noncomputable def yY (hv:Nat→Option Pa) (hb:Nat→Option Bool) (x y:Int) (Q:Out→List Blk→Gh→Prop):Prop:=
 bC (e04 sm0 (fun _=>none) hv hb) (wpx (e04 sm0 (fun _=>none) hv hb) 1000) 112 [.int .i64 x,.int .i64 y,.int .i64 16] [] {} Q
abbrev bGn:Out:=.ret (.tup [.int .i64 0,.int .i64 2])
theorem bE2 (x:Int) (y:Int) (Q:Out→List Blk→Gh→Prop):yY (bH [(458774,.int .i64),(458784,.int .i64),(458789,.int .i64),(458793,.int .i64),(458797,.int .i64),(458802,.int .i64)]) (bI []) x y Q=(bif decide (x<0) then Q bGn [] {} else exI .i64 (Int.fdiv x 65536) (fun n_0=>bif n_0 !=0 then Q bGn [] {} else bif decide (y<0) then Q bGn [] {} else exI .i64 (Int.fdiv y 65536) (fun n_1=>bif n_1 !=0 then Q bGn [] {} else exW .i64 (x-y) (fun n_2=>exW .i64 (((n_2%18446744073709551616).toNat &&& 65535:Nat):Int) (fun n_3=>exI .i64 (Int.fdiv n_3 32768) (fun n_4=>bif n_4==1 then exW .i64 (n_3-65536) (fun n_5=>Q (.ret (.tup [.int .i64 n_5,.int .i64 0])) [] {}) else Q (.ret (.tup [.int .i64 n_3,.int .i64 0])) [] {})))))):=by kernel_rfl

noncomputable def xC (hv:Nat→Option Pa) (hb:Nat→Option Bool) (x y:Int) (Q:Out→List Blk→Gh→Prop):Prop:=
 bC (e04 sm0 (fun _=>none) hv hb) (wpx (e04 sm0 (fun _=>none) hv hb) 1000) 113 [.int .i64 x,.int .i64 y,.int .i64 16] [] {} Q
theorem bF8 (x:Int) (y:Int) (Q:Out→List Blk→Gh→Prop):xC (bH [(462858,.int .i64),(462868,.int .i64),(462877,.int .i64)]) (bI []) x y Q=(
(∃n_0:Int,(((AV.int .i64 (IntKind.wrap .i64 (x-y)))=(AV.int .i64 n_0)) ∧
 (bif (decide (n_0<(- (32768:Int)))) then (∃n_1:Int,(((AV.int .i64 (IntKind.wrap .i64 (n_0+(65536:Int))))=(AV.int .i64 n_1)) ∧
 (bif (decide (n_1≥(32768:Int))) then (∃n_2:Int,(((AV.int .i64 (IntKind.wrap .i64 (n_1-(65536:Int))))=(AV.int .i64 n_2)) ∧
 (Q (Out.ret (AV.int .i64 n_2)) [] (Gh.mk (0:Nat) (0:Nat) []))))
else (Q (Out.ret (AV.int .i64 n_1)) [] (Gh.mk (0:Nat) (0:Nat) [])))))
else (bif (decide (n_0≥(32768:Int))) then (∃n_1:Int,(((AV.int .i64 (IntKind.wrap .i64 (n_0-(65536:Int))))=(AV.int .i64 n_1)) ∧
 (Q (Out.ret (AV.int .i64 n_1)) [] (Gh.mk (0:Nat) (0:Nat) []))))
else (Q (Out.ret (AV.int .i64 n_0)) [] (Gh.mk (0:Nat) (0:Nat) []))))))):=by kernel_rfl

theorem aUg (d:Int):(((Int.toNat (d%18446744073709551616) &&& 65535:Nat)):Int)=d%65536:=by
 rw[show (65535:Nat)=2^16-1 from rfl,Nat.and_two_pow_sub_one_eq_mod]
 omega
theorem bCu (n:Int) (k:Int) (hk:0≤k):Int.fdiv n k=n/k:=Int.fdiv_eq_ediv_of_nonneg n hk
theorem aPj (x y:Int) (hx:0≤x∧x≤65535) (hy:0≤y∧y≤65535) (Q:Out→List Blk→Gh→Prop) (hq:Q (.ret (.tup [.int .i64 (iM x y),.int .i64 0])) [] {}):∃hv hb,yY hv hb x y Q:=by
 obtain ⟨hv,hb',e⟩:∃hv hb,yY hv hb x y Q=_:=⟨_,_,bE2 x y Q⟩
 refine ⟨hv,hb',e.mpr ?_⟩
 delta bGn
 clear e
 rw[bCu x _ (by omega),bCu y _ (by omega)]
 refine aF (fun h=>by omega) (fun _=>⟨_,rfl,aS (fun h=>by omega) (fun _=>aF (fun h=>by omega) (fun _=>⟨_,rfl,aS (fun h=>by omega) (fun _=>aI (by omega) (by omega) ?_)⟩))⟩)
 rw[aUg]
 refine aI (by omega) (by omega) ⟨_,rfl, ?_⟩
 rw[bCu _ _ (by omega)]
 unfold iM at hq
 refine aW (fun h=>aI (by omega) (by omega) ?_) (fun h => ?_)
 ·rwa [if_neg (by omega)] at hq
 ·rwa [if_pos (by omega)] at hq
theorem aJz (x y:Int) (hx:0≤x∧x≤65535) (hy:0≤y∧y≤65535) (Q:Out→List Blk→Gh→Prop) (hq:Q (.ret (.int .i64 (iM x y))) [] {}):∃hv hb,xC hv hb x y Q:=by
 obtain ⟨hv,hb',e⟩:∃hv hb,xC hv hb x y Q=_:=⟨_,_,bF8 x y Q⟩
 refine ⟨hv,hb',e.mpr ?_⟩
 clear e
 have key:∀z:Int,z=iM x y→Q (.ret (.int .i64 z)) [] {}:=fun z hz=>by rw[hz];exact hq
 refine aI (by omega) (by omega) (aF (fun h1=>aI (by omega) (by omega) (aF (fun h2=>by omega) (fun h2=>key _ ?_))) (fun h1=>aF (fun h2=>aI (by omega) (by omega) (key _ ?_)) (fun h2=>key _ ?_)))
 all_goals (unfold iM;split<;>omega)
def aJ9:Con
 | [.int .i64 x,.int .i64 y,.int .i64 b],H,K=>Lf (b=16∧(0≤x∧x≤65535)∧0≤y∧y≤65535)∧∀z:Int,Lf (z=iM x y)→K (.ret (.tup [.int .i64 z,.int .i64 0])) H
 | _,_,_=>False
def aEe:Con
 | [.int .i64 x,.int .i64 y,.int .i64 b],H,K=>Lf (b=16∧(0≤x∧x≤65535)∧0≤y∧y≤65535)∧∀z:Int,Lf (z=iM x y)→K (.ret (.int .i64 z)) H
 | _,_,_=>False
theorem aQj:aG Tryz.prog gl0 112 aJ9:=by
 refine aT (enters_of (by kernel_rfl)) aQ fun args H Q hc => ?_
 unfold aJ9 at hc
 split at hc
 ·rename_i x y b
  obtain ⟨⟨rfl,h1,h2⟩,hq⟩:=hc
  obtain ⟨hv,hb',h⟩:=aPj x y h1 h2 (Q:=fun o H' _=>H'=[]∧(∃v,o=.ret v∧old 0 v=true∧noY v=true)∧Q o H) ⟨rfl,⟨_,rfl,rfl,rfl⟩,hq _ ⟨rfl⟩⟩
  exact ⟨rfl,rfl,_,1000,aY cB _ _ _,rfl,h⟩
 ·exact hc.elim
theorem aMr:aG Tryz.prog gl0 113 aEe:=by
 refine aT (enters_of (by kernel_rfl)) aQ fun args H Q hc => ?_
 unfold aEe at hc
 split at hc
 ·rename_i x y b
  obtain ⟨⟨rfl,h1,h2⟩,hq⟩:=hc
  obtain ⟨hv,hb',h⟩:=aJz x y h1 h2 (Q:=fun o H' _=>H'=[]∧(∃v,o=.ret v∧old 0 v=true∧noY v=true)∧Q o H) ⟨rfl,⟨_,rfl,rfl,rfl⟩,hq _ ⟨rfl⟩⟩
  exact ⟨rfl,rfl,_,1000,aY cB _ _ _,rfl,h⟩
 ·exact hc.elim
def jZ (t q:Int):Int:=if t<0 then q else if t+iM q (t%65536)<0 then t+iM q (t%65536)+65536 else t+iM q (t%65536)
def bMh:SM:=eY [(112,aJ9),(113,aEe)]
theorem bBe:∀f g,bMh f=some g→aG Tryz.prog gl0 f g:=bK _ (by simp only[List.mem_cons,List.not_mem_nil,or_false,forall_eq_or_imp,forall_eq];exact ⟨aQj,aMr⟩)
noncomputable def aEv (hv:Nat→Option Pa) (hb:Nat→Option Bool) (t q:Int) (Q:Out→List Blk→Gh→Prop):Prop:=
 bC (e04 bMh (fun _=>none) hv hb) (wpx (e04 bMh (fun _=>none) hv hb) 1000) 59 [.int .i64 t,.int .i64 q] [] {} Q
theorem bK6 (t:Int) (q:Int) (Q:Out→List Blk→Gh→Prop):aEv (bH [(241677,.int .i64),(241683,.int .i64),(241687,.int .i64),(241688,.int .i64),(241691,.int .i64)]) (bI []) t q Q=(
(bif (decide (t<(0:Int))) then (Q (Out.ret (AV.int .i64 q)) [] (Gh.mk (0:Nat) (0:Nat) []))
else (∃n_0:Int,(((AV.int .i64 (IntKind.wrap .i64 (Nat.cast ((Int.toNat (t%(18446744073709551616:Int))) &&& (65535:Nat)):Int)))=(AV.int .i64 n_0)) ∧
 ((Lf (((16:Int)=(16:Int)) ∧
 ((((0:Int)≤q) ∧
 (q≤(65535:Int))) ∧
 (((0:Int)≤n_0) ∧
 (n_0≤(65535:Int)))))) ∧
 (∀z_1:Int,((Lf (z_1=(iM q n_0))) →
(∃n_2:Int,(((AV.int .i64 (IntKind.wrap .i64 (t+z_1)))=(AV.int .i64 n_2)) ∧
 (bif (decide (n_2<(0:Int))) then (∃n_3:Int,(((AV.int .i64 (IntKind.wrap .i64 (t+z_1)))=(AV.int .i64 n_3)) ∧
 (∃n_4:Int,(((AV.int .i64 (IntKind.wrap .i64 (n_3+(65536:Int))))=(AV.int .i64 n_4)) ∧
 (Q (Out.ret (AV.int .i64 n_4)) [] (Gh.mk (0:Nat) (0:Nat) []))))))
else (∃n_3:Int,(((AV.int .i64 (IntKind.wrap .i64 (t+z_1)))=(AV.int .i64 n_3)) ∧
 (Q (Out.ret (AV.int .i64 n_3)) [] (Gh.mk (0:Nat) (0:Nat) [])))))))))))))):=by kernel_rfl

theorem aQq (x y:Int) : -32768≤iM x y∧iM x y<32768:=by unfold iM;split<;>omega
theorem aL0 (t q:Int) (ht : -9223372036854000000≤t∧t≤9223372036854000000) (hx:0≤q∧q≤65535) (Q:Out→List Blk→Gh→Prop) (hq:Q (.ret (.int .i64 (jZ t q))) [] {}):∃hv hb,aEv hv hb t q Q:=by
 obtain ⟨hv,hb',e⟩:∃hv hb,aEv hv hb t q Q=_:=⟨_,_,bK6 t q Q⟩
 refine ⟨hv,hb',e.mpr ?_⟩
 clear e
 have key:∀z:Int,z=jZ t q→Q (.ret (.int .i64 z)) [] {}:=fun z hz=>by rw[hz];exact hq
 refine aF (fun h1=>key _ (by rw[jZ,if_pos h1])) (fun h1 => ?_)
 rw[aUg]
 refine aI (by omega) (by omega) ⟨⟨rfl,hx,by omega,by omega⟩, ?_⟩
 rintro z ⟨rfl⟩
 have ha:=aQq q (t%65536)
 refine aI (by omega) (by omega) (aF (fun h2=>aI (by omega) (by omega) (aI (by omega) (by omega) (key _ ?_))) (fun h2=>aI (by omega) (by omega) (key _ ?_)))
 ·rw[jZ,if_neg h1,if_pos h2]
 ·rw[jZ,if_neg h1,if_neg h2]
def yO:Con
 | [.int .i64 t,.int .i64 q],H,K=>Lf ((-1≤t∧t≤9223372036854000000)∧0≤q∧q≤65535)∧∀z:Int,Lf (z=jZ t q)→K (.ret (.int .i64 z)) H
 | _,_,_=>False
theorem aB7:aG Tryz.prog gl0 59 yO:=by
 refine aT (enters_of (by kernel_rfl)) aQ fun args H Q hc => ?_
 unfold yO at hc
 split at hc
 ·rename_i t q
  obtain ⟨⟨h1,h2⟩,hq⟩:=hc
  obtain ⟨hv,hb',h⟩:=aL0 t q ⟨by omega,h1.2⟩ h2 (Q:=fun o H' _=>H'=[]∧(∃v,o=.ret v∧old 0 v=true∧noY v=true)∧Q o H) ⟨rfl,⟨_,rfl,rfl,rfl⟩,hq _ ⟨rfl⟩⟩
  exact ⟨rfl,rfl,_,1000,aY bBe _ _ _,rfl,h⟩
 ·exact hc.elim
noncomputable def aEk (hv:Nat→Option Pa) (hb:Nat→Option Bool):Env := { e04 sm0 (fun _=>none) hv hb with hz:=fun k=>Nat.beq k 237575 }
noncomputable def zX (hv:Nat→Option Pa) (hb:Nat→Option Bool) (t:Nat) (xs:List Int) (Q:Out→List Blk→Gh→Prop):Prop:=
 bC (aEk hv hb) (wpx (aEk hv hb) 1000) 58 [.lst t (aC xs) xs.length 1] [] {} Q
theorem bEu (t:Nat) (xs:List Int) (Q:Out→List Blk→Gh→Prop):zX (bH []) (bI []) t xs Q=(
((bif ((((Nat.beq (List.length (aC xs)) ((List.length xs)*(1:Nat)))&&(fJ (aC xs)))&&true)&&(Nat.ble ((List.length xs)*(8:Nat)) (1099511627776:Nat))) then (bif (Nat.beq (List.length xs) (0:Nat)) then (bif (Nat.beq (List.length xs) (0:Nat)) then (Q (Out.ret (AV.lst (0:Nat) [] (0:Nat) (1:Nat))) [] (Gh.mk (0:Nat) (0:Nat) []))
else False)
else (bif (Nat.blt (0:Nat) (List.length xs)) then (bif ((Nat.ble ((0:Nat)+(List.length xs)) (1099511627776:Nat))&&(Nat.ble (((0:Nat)+(List.length xs))*(8:Nat)) (1099511627776:Nat))) then (bif (((((((Nat.beq (List.length ([]++(aC xs))) ((0:Nat)+(List.length (aC xs))))&&(Nat.ble ((0:Nat)+(((0:Nat)+(List.length xs))*(1:Nat))) ((0:Nat)+(List.length (aC xs)))))&&true)&&(aR (0:Nat) ([]++(aC xs))))&&(bS ([]++(aC xs))))&&true)&&true) then (Q (Out.ret (AV.lst (0:Nat) (List.take (((0:Nat)+(List.length xs))*(1:Nat)) (List.drop (0:Nat) ([]++(aC xs)))) ((0:Nat)+(List.length xs)) (1:Nat))) [] (Gh.mk (0:Nat) (0:Nat) []))
else False)
else False)
else False))
else False) ∧
 (bif (Nat.beq (List.length xs) (0:Nat)) then (Q (Out.ret AV.nils) [] (Gh.mk (0:Nat) (0:Nat) []))
else True))):=by kernel_rfl

def aU2:Con
 | [.lst _ c n 1],H,K=>∃xs:List Int,Lf (c=aC xs∧n=xs.length∧xs.length≤1000000)∧K (.ret (.lst 0 (aC xs) xs.length 1)) H
 | _,_,_=>False
theorem aW9:∀xs:List Int,fJ (aC xs)=true
 | []=>rfl
 | x::l=>by
  have:=aW9 l
  show (true&&fJ (aC l))=true
  rw[this];rfl
theorem bD4:∀xs:List Int,aR 0 (aC xs)=true∧bS (aC xs)=true
 | []=>⟨rfl,rfl⟩
 | x::l=>by
  have:=bD4 l
  refine ⟨?_, ?_⟩
  ·show (true&&aR 0 (aC l))=true
   rw[this.1];rfl
  ·show (true&&bS (aC l))=true
   rw[this.2];rfl
theorem aMo:aG Tryz.prog gl0 58 aU2:=by
 refine iG (enters_of (by kernel_rfl)) aQ 9 (nlR [1]) (aVf _) fun args H Q hc => ?_
 unfold aU2 at hc
 split at hc
 ·rename_i t c n
  obtain ⟨xs,⟨rfl,rfl,hl⟩,hq⟩:=hc
  have hlen:(aC xs).length=xs.length:=aA xs
  have hf:=bD4 xs
  have run:∀Q:Out→List Blk→Gh→Prop,Q (.ret (.lst 0 (aC xs) xs.length 1)) [] {}→(xs=[]→Q (.ret .nils) [] {})→∃hv hb,zX hv hb t xs Q:=fun Q h1 h2=>by
   obtain ⟨hv,hb',e⟩:∃hv hb,zX hv hb t xs Q=_:=⟨_,_,bEu t xs Q⟩
   refine ⟨hv,hb',e.mpr ⟨ckI (by rw[aW9];simp[hlen];omega) ?_, ?_⟩⟩
   ·cases xs with
    | nil=>exact ckI rfl h1
    | cons x l=>
     refine splitB (b:=Nat.beq (x::l).length 0) (fun h=>by simp at h) (fun _=>ckI (b:=Nat.blt 0 (x::l).length) (by simp) (ckI (by simp at hl ⊢;omega) (ckI ?_ ?_)))
     ·rw[List.nil_append,hf.1,hf.2]
      simp[hlen]
     ·rw[List.nil_append,List.drop_zero,List.take_of_length_le (by rw[hlen];omega),Nat.zero_add]
      exact h1
   ·cases xs with
    | nil=>exact h2 rfl
    | cons x l=>exact trivial
  obtain ⟨hv,hb',h⟩:=run (fun o H' _=>∃v,o=.ret v∧Q (.ret (nlR [1] (dG 0 H' 9 v))) H) ⟨_,rfl,hq⟩ (fun h=>⟨_,rfl,by subst h;exact hq⟩)
  exact ⟨rfl,rfl,_,1000,(⟨mH,mQ,cZ,cB⟩:EnvFor Tryz.prog (aEk hv hb')),rfl,h⟩
 ·exact hc.elim
def bNa:SM:=eY [(13,pV),(31,Md.cEncode),(34,Md.cHead),(58,aU2),(59,yO),(65,cbC aRn),(66,aZt),(67,cbC aAk)]
theorem bAt:∀f g,bNa f=some g→aG Tryz.prog gl0 f g:=bK _ (by simp only[List.mem_cons,List.not_mem_nil,or_false,forall_eq_or_imp,forall_eq];exact ⟨rD,Md.encode_ok,Md.head_ok,aMo,aB7,aL4,aMh,xL⟩)
noncomputable def xU (hv:Nat→Option Pa) (hb:Nat→Option Bool) (a b c:List UInt8) (hid:List Int) (t5 t6:Nat) (mk:Bool) (ty sq ti ss:Int) (cs:List Int) (ex:List Md.Xt) (pad:Int) (pl:List UInt8) (Q:Out→List Blk→Gh→Prop):Prop:=
 bC (e04 bNa (fun _=>none) hv hb) (wpx (e04 bNa (fun _=>none) hv hb) 1000) 24 [.agg [.str a,.str b,.str c,.lst 0 (aC hid) hid.length 1,.lst 0 [] 0 3,.int .i64 0,.int .i64 0,.int .i64 (-1),.int .u64 0],.agg [.bool mk,.int .i64 ty,.int .i64 sq,.int .i64 ti,.int .i64 ss,.lst t5 (aC cs) cs.length 1,.lst t6 (Md.cellsXM ex) ex.length 2,.int .i64 pad,.str pl]] [] {} Q
abbrev rC:AV:=.int .i64 0
abbrev aJ4:AV:=.int .u64 0
abbrev aWi:List AV:=[.str [],.str [],.str [],.nils,.nils,rC,rC,rC,aJ4]
abbrev uU (e_8:Int):AV:=.int .i64 e_8
abbrev aCo (e_8:Int):Out:=.ret (.tup [.agg aWi,.str [],uU e_8])
abbrev aS3 (sq:Int):Prop:=Lf ((-(1:Int) ≤ -(1:Int) ∧ -(1:Int)≤(9223372036854000000:Int))∧0≤sq∧sq≤65535)
abbrev aT5:Out:=.ret (.tup [.agg aWi,.str [],.int .i64 10])
abbrev aS8:Out:=.ret (.tup [.agg aWi,.str [],.int .i64 6])
abbrev aQe (xs_4:List Int):AV:=.lst 0 (aC xs_4) xs_4.length 1
abbrev aF6:AV:=.int .i64 (-1)
abbrev aAf (a b c:List UInt8) (hid:List Int):Blk:=Blk.mk BK.exact true [.str a,.str b,.str c,aQe hid,.lst 0 [] 0 3,.int .i64 0,.int .i64 0,aF6,.int .u64 0]
abbrev aP6 (mk:Bool) (ty sq ti ss:Int) (t5:Nat) (cs:List Int) (t6:Nat) (ex:List Md.Xt) (pad:Int) (pl:List UInt8):Blk:=Blk.mk BK.exact true [.bool mk,uU ty,uU sq,uU ti,uU ss,.lst t5 (aC cs) cs.length 1,.lst t6 (Md.cellsXM ex) ex.length 2,uU pad,.str pl]
abbrev aH9:Blk:=Blk.mk BK.exact true aWi
abbrev aJt (ss:Int):Blk:=Blk.mk BK.exact true [uU ss,aF6,aJ4]
abbrev aU0 (xs_4 hid_11:List Int) (ex ex_12:List Md.Xt) (b c:List UInt8):Prop:=Lf (aC xs_4=aC hid_11∧xs_4.length=hid_11.length∧Md.cellsXM ex=Md.cellsXM ex_12∧ex.length=ex_12.length∧hid_11.length≤1000000∧ex_12.length≤1000000∧(bF hid_11 ex_12).length≤4096∧b.length=12∧c.length=32)
abbrev aB6 (cs:List Int) (ex'_13:List Md.Xt) (cs_14:List Int) (ex_15:List Md.Xt) (pl:List UInt8):Prop:=Lf (Md.medK (aC cs) cs.length (Md.cellsXM ex'_13) ex'_13.length cs_14 ex_15∧pl.length≤1000000000)
abbrev vE (n_18:Int):Bool:=decide (0≤n_18)&&true
abbrev aAo (n_25:Int):Nat:=(n_25%18446744073709551616).toNat
abbrev aI0 (s_16 t_21:List UInt8):Bool:=decide (s_16.length+t_21.length≤9223372036854775807)&&true
abbrev aXl (a b c:List UInt8) (xs_4:List Int):List AV:=[.str a,.str b,.str c,aQe xs_4,.sl 7 3 0 1 3,rC,rC,aF6,aJ4]
abbrev vH (n_28:Int):AV:=.int .u64 n_28
abbrev aIn:Blk:=Blk.mk BK.exact true [rC,rC,aJ4]
def qV (e_8:Int) (Q:Out→List Blk→Gh→Prop) (sq:Int) (a:List UInt8) (b:List UInt8) (c:List UInt8) (hid:List Int) (mk:Bool) (ty:Int) (ti:Int) (ss:Int) (t5:Nat) (cs:List Int) (t6:Nat) (ex:List Md.Xt)
 (pad:Int) (pl:List UInt8) (xs_4:List Int) (s_7:List UInt8):Prop:=
bif e_8 !=0 then Q (aCo e_8) [] {} else aS3 sq∧∀z_10:Int,Lf (z_10=jZ (-1) sq)→bif decide (z_10 ≤ -1) then Q aT5 [] {} else bif decide (z_10>281474976710655) then Q aS8 [] {} else Lf (aIc [aAf a b c hid,aP6 mk ty
 sq ti ss t5 cs t6 ex pad pl,aH9,aAf a b c hid,Blk.mk BK.exact true [.str a,.str b,.str c,aQe xs_4,.nils,rC,rC,aF6,aJ4],aJt ss] .nils)∧∃hid_11:List Int,∃ex_12:List Md.Xt,aU0 xs_4 hid_11 ex ex_12 b c∧∀
 ex'_13:List Md.Xt,Lf (ex'_13=eB hid_11 c b ss z_10 ex_12)→∃cs_14:List Int,∃ex_15:List Md.Xt,aB6 cs ex'_13 cs_14 ex_15 pl∧∀s_16:List UInt8,∀e_17:Int,Lf (Prod.mk s_16 e_17=Md.headRM mk ty sq ti ss cs_14 ex_15
 pad pl)→exI .i64 (s_16.length:Int) (fun n_18=>ckQ (vE n_18&&Nat.ble n_18.toNat s_7.length&&Nat.ble s_7.length s_7.length) (exS (.str ((s_7.drop n_18.toNat).take (s_7.length-n_18.toNat))) (fun s_19=>Lf (aIc [aAf a
 b c hid,aP6 mk ty sq ti ss t5 cs t6 ex pad pl,aH9,aAf a b c hid,Blk.mk BK.exact true [.str a,.str b,.str c,aQe xs_4,.nils,rC,rC,aF6,aJ4],aJt ss] .nils)∧Lf (b.length=12)∧∀s_20:List UInt8,Lf (s_20=dN
 b ss z_10)→ckQ (dF [.str a] [.str a]&&true) (∀t_21:List UInt8,∀e_22:Int,Lf (lM a s_20 s_16 s_19=Prod.mk t_21 e_22)→exW .i64 (z_10 - -1) (fun n_23=>bif decide (n_23>0) then exI .i64 (aDe n_23 64)
 (fun n_24=>ckQ (vE n_24) (exW .u64 (0*(2:Int)^Min.min n_24.toNat 64) (fun n_25=>exW .i64 (z_10-z_10) (fun n_26=>ckQ (vE n_26) (exW .u64 (1*(2:Int)^Min.min n_26.toNat 64) (fun n_27=>exW
 IntKind.u64 ((aAo n_25 ||| aAo n_27:Nat):Int) (fun n_28=>ckQ (aI0 s_16 t_21) (exS (.str (s_16++t_21)) (fun s_29=>Q (.ret (.tup [.agg (aXl a b c xs_4),.str s_29,rC])) [aAf a b c hid,aP6 mk ty sq ti ss t5 cs t6 ex pad
 pl,Blk.mk BK.exact false (aXl a b c xs_4),aAf a b c hid,Blk.mk BK.exact false (aXl a b c xs_4),Blk.mk BK.exact true [uU ss,uU z_10,vH n_28],aIn,Blk.mk BK.grow true [uU ss,uU z_10,vH n_28]] {}))))))))) else exW
 IntKind.i64 (-1-z_10) (fun n_24=>ckQ (vE n_24) (exW .u64 (1*(2:Int)^Min.min n_24.toNat 64) (fun n_25=>exW .u64 ((0 ||| aAo n_25:Nat):Int) (fun n_26=>ckQ (aI0 s_16 t_21) (exS (.str (s_16++t_21)) (fun
 s_27=>Q (.ret (.tup [.agg (aXl a b c xs_4),.str s_27,rC])) [aAf a b c hid,aP6 mk ty sq ti ss t5 cs t6 ex pad pl,Blk.mk BK.exact false (aXl a b c xs_4),aAf a b c hid,Blk.mk BK.exact false (aXl a b c xs_4),Blk.mk BK.exact
 true [uU ss,aF6,vH n_26],aIn,Blk.mk BK.grow true [uU ss,aF6,vH n_26]] {})))))))))))
abbrev aN7:Blk:=Blk.mk BK.exact true []
abbrev aZl (a b c:List UInt8) (xs_4:List Int):List AV:=[.str a,.str b,.str c,aQe xs_4,.sl 8 3 0 1 3,rC,rC,aF6,aJ4]
def qY (sq:Int) (Q:Out→List Blk→Gh→Prop) (a:List UInt8) (b:List UInt8) (c:List UInt8) (hid:List Int) (mk:Bool) (ty:Int) (ti:Int) (ss:Int) (t5:Nat) (cs:List Int) (t6:Nat) (ex:List Md.Xt) (pad:Int)
 (pl:List UInt8) (xs_4:List Int) (s_7:List UInt8):Prop:=
aS3 sq∧∀z_10:Int,Lf (z_10=jZ (-1) sq)→bif decide (z_10 ≤ -1) then Q aT5 [] {} else bif decide (z_10>281474976710655) then Q aS8 [] {} else Lf (aIc [aAf a b c hid,aP6 mk ty sq ti ss t5 cs t6 ex pad pl,aH9,aAf a
 b c hid,Blk.mk BK.exact false [.str a,.str b,.str c,aQe xs_4,.sl 5 0 0 0 3,rC,rC,aF6,aJ4],aN7,aJt ss] (.sl 5 0 0 0 3))∧∃hid_11:List Int,∃ex_12:List Md.Xt,aU0 xs_4 hid_11 ex ex_12 b c∧∀ex'_13:List
 Md.Xt,Lf (ex'_13=eB hid_11 c b ss z_10 ex_12)→∃cs_14:List Int,∃ex_15:List Md.Xt,aB6 cs ex'_13 cs_14 ex_15 pl∧∀s_16:List UInt8,∀e_17:Int,Lf (Prod.mk s_16 e_17=Md.headRM mk ty sq ti ss cs_14 ex_15 pad pl)→exI
 IntKind.i64 (s_16.length:Int) (fun n_18=>ckQ (vE n_18&&Nat.ble n_18.toNat s_7.length&&Nat.ble s_7.length s_7.length) (exS (.str ((s_7.drop n_18.toNat).take (s_7.length-n_18.toNat))) (fun s_19=>Lf (aIc [aAf a b c hid,aP6
 mk ty sq ti ss t5 cs t6 ex pad pl,aH9,aAf a b c hid,Blk.mk BK.exact false [.str a,.str b,.str c,aQe xs_4,.sl 5 0 0 0 3,rC,rC,aF6,aJ4],aN7,aJt ss] (.sl 5 0 0 0 3))∧Lf (b.length=12)∧∀s_20:List UInt8,Lf
 (s_20=dN b ss z_10)→ckQ (dF [.str a] [.str a]&&true) (∀t_21:List UInt8,∀e_22:Int,Lf (lM a s_20 s_16 s_19=Prod.mk t_21 e_22)→exW .i64 (z_10 - -1) (fun n_23=>bif decide (n_23>0) then exI .i64
 (aDe n_23 64) (fun n_24=>ckQ (vE n_24) (exW .u64 (0*(2:Int)^Min.min n_24.toNat 64) (fun n_25=>exW .i64 (z_10-z_10) (fun n_26=>ckQ (vE n_26) (exW .u64 (1*(2:Int)^Min.min n_26.toNat 64) (fun
 n_27=>exW .u64 ((aAo n_25 ||| aAo n_27:Nat):Int) (fun n_28=>ckQ (aI0 s_16 t_21) (exS (.str (s_16++t_21)) (fun s_29=>Q (.ret (.tup [.agg (aZl a b c xs_4),.str s_29,rC])) [aAf a b c hid,aP6 mk ty sq ti ss t5
 cs t6 ex pad pl,Blk.mk BK.exact false (aZl a b c xs_4),aAf a b c hid,Blk.mk BK.exact false (aZl a b c xs_4),aN7,Blk.mk BK.exact true [uU ss,uU z_10,vH n_28],aIn,Blk.mk BK.grow true [uU ss,uU z_10,vH n_28]]
 {}))))))))) else exW .i64 (-1-z_10) (fun n_24=>ckQ (vE n_24) (exW .u64 (1*(2:Int)^Min.min n_24.toNat 64) (fun n_25=>exW .u64 ((0 ||| aAo n_25:Nat):Int) (fun n_26=>ckQ (aI0 s_16 t_21) (exS (.str
 (s_16++t_21)) (fun s_27=>Q (.ret (.tup [.agg (aZl a b c xs_4),.str s_27,rC])) [aAf a b c hid,aP6 mk ty sq ti ss t5 cs t6 ex pad pl,Blk.mk BK.exact false (aZl a b c xs_4),aAf a b c hid,Blk.mk BK.exact false (aZl a b c
 xs_4),aN7,Blk.mk BK.exact true [uU ss,aF6,vH n_26],aIn,Blk.mk BK.grow true [uU ss,aF6,vH n_26]] {})))))))))))
abbrev aQ0:Out:=.ret (.tup [.agg aWi,.str [],.int .i64 3])
theorem bFj (a:List UInt8) (b:List UInt8) (c:List UInt8) (hid:List Int) (t5:Nat) (t6:Nat) (mk:Bool) (ty:Int) (sq:Int) (ti:Int) (ss:Int) (cs:List Int) (ex:List Md.Xt) (pad:Int) (pl:List UInt8) (Q:Out→List
 Blk→Gh→Prop):xU (bH [(98338,.int .i64),(98400,.int .i64),(98401,.str),(278539,.int .i64),(278550,.int .i64),(278551,.int .u64),(278570,.int .i64),(278571,.int .u64),(278572,.int .u64),(98418,.str)]) (bI
 []) a b c hid t5 t6 mk ty sq ti ss cs ex pad pl Q=(∃xs_0:List Int,∃l_1:List Tr,∃rk_2:Nat,Lf (aC hid=aC xs_0∧hid.length=xs_0.length∧([]:List AV)=trM l_1∧0=l_1.length∧0=(rk_2:Int)∧xs_0.length ≤
 9223372036854775807∧bI7 l_1∧(-(9223372036854775808:Int) ≤ -(1:Int) ∧ -(1:Int)≤(9223372036854775807:Int))∧rk_2<18446744073709551616)∧∀e_3:Int,Lf (e_3=ite (iD a b c xs_0 l_1 0 0 (-1) rk_2=true) 0 250)→bif
 e_3 !=0 then bif e_3 !=0 then Q (aCo e_3) [] {} else ∃cs_4:List Int,∃ex_5:List Md.Xt,aB6 cs ex cs_4 ex_5 pl∧∀s_6:List UInt8,∀e_7:Int,Lf (Prod.mk s_6 e_7=Md.encRM mk ty sq ti ss cs_4 ex_5 pad pl)→bif e_7==0
 then exI .i64 (s_6.length:Int) (fun n_8=>bif decide (n_8>1184) then Q aQ0 [] {} else ckQ (e_7 !=0) (Q (aCo e_7) [] {})) else ckQ (e_7 !=0) (Q (aCo e_7) [] {}) else ∃xs_4:List Int,Lf (aC hid=aC xs_4 ∧
 hid.length=xs_4.length∧xs_4.length≤1000000)∧(∃cs_5:List Int,∃ex_6:List Md.Xt,aB6 cs ex cs_5 ex_6 pl∧∀s_7:List UInt8,∀e_8:Int,Lf (Prod.mk s_7 e_8=Md.encRM mk ty sq ti ss cs_5 ex_6 pad pl)→bif e_8==0 then
 exI .i64 (s_7.length:Int) (fun n_9=>bif decide (n_9>1184) then Q aQ0 [] {} else bif e_8 !=0 then Q (aCo e_8) [] {} else qY sq Q a b c hid mk ty ti ss t5 cs t6 ex pad pl xs_4 s_7) else bif e_8 !=0 then Q (aCo e_8)
 [] {} else qY sq Q a b c hid mk ty ti ss t5 cs t6 ex pad pl xs_4 s_7)∧∃cs_5:List Int,∃ex_6:List Md.Xt,aB6 cs ex cs_5 ex_6 pl∧∀s_7:List UInt8,∀e_8:Int,Lf (Prod.mk s_7 e_8=Md.encRM mk ty sq ti ss cs_5 ex_6 pad
 pl)→bif e_8==0 then exI .i64 (s_7.length:Int) (fun n_9=>bif decide (n_9>1184) then Q aQ0 [] {} else qV e_8 Q sq a b c hid mk ty ti ss t5 cs t6 ex pad pl xs_4 s_7) else qV e_8 Q sq a b c hid mk ty ti ss t5 cs
 t6 ex pad pl xs_4 s_7):=by kernel_rfl

theorem aA9:∀ (l:Int) (ex:List Md.Xt),Md.extsOkM l ex=true→∀x∈ex,x.2.length≤255
 | _,[],_,x,hx=>by simp at hx
 | l,y::ex,h,x,hx=>by
  rw[Md.extsOkM,Bool.and_eq_true,decide_eq_true_eq] at h
  rcases List.mem_cons.1 hx with rfl | hx
  ·exact h.1.2.2
  ·exact aA9 _ ex h.2 x hx
theorem fE {ty sq ti ss:Int} {cs:List Int} {ex:List Md.Xt} {pad:Int} (h:Md.rightM ty sq ti ss cs ex pad=true):(0≤sq∧sq≤65535)∧cs.length≤15∧ex.length≤16∧(∀x∈ex,x.2.length≤255)∧(0≤ss∧ss<4294967296)∧0≤pad∧pad≤255:=by
 rw[Md.rightM,Bool.and_eq_true,Md.flagsM,decide_eq_true_eq] at h
 obtain ⟨⟨r1,r2,r3,r4,r5,r6,r7,r8,r9,r10,r11,r12,r13⟩,ho⟩:=h
 exact ⟨⟨r3,r4⟩,r12,r13,aA9 0 ex ho,⟨r7,r8⟩,r10,r11⟩
theorem aA6 (hid:List Int) (mk:Bool) (ty sq ti ss:Int) (cs:List Int) (ex:List Md.Xt) (pad:Int):(bF hid ex).length≤(Md.headM mk ty sq ti ss cs ex pad).length:=by
 have h:=aOq hid (Md.shortM ex) ex
 by_cases hn:ex.length=0
 ·have:ex=[]:=List.length_eq_zero_iff.1 hn
  subst this
  exact Nat.zero_le _
 ·rw[Md.headM,if_neg hn,Md.extPM]
  simp only[List.length_append]
  omega
theorem oJ {a b c:List UInt8} {xs:List Int} (h:bR a b c xs=true):a.length=32∧b.length=12∧c.length=32:=by
 rw[bR,Bool.and_eq_true] at h
 have h1:=h.1
 unfold gN at h1
 simp only[Bool.and_eq_true] at h1
 exact ⟨Nat.eq_of_beq_eq_true h1.1.1.1,Nat.eq_of_beq_eq_true h1.1.1.2,Nat.eq_of_beq_eq_true h1.1.2⟩
theorem sQ {a b c:List UInt8} {xs:List Int} (h:bR a b c xs=true):iD a b c xs [] 0 0 (-1) 0=true:=by
 simp[iD,jE,nE,vM,h]
theorem jP (sq:Int):jZ (-1) sq=sq:=by rw[jZ,if_pos (by omega)]
theorem yX {mk:Bool} {ty sq ti ss:Int} {cs:List Int} {ex:List Md.Xt} {pad:Int} {pl:List UInt8} (hr:Md.rightM ty sq ti ss cs ex pad=true) (hl:(Md.encM mk ty sq ti ss cs ex pad pl).length≤1200) :
  Md.headRM mk ty sq ti ss cs ex pad pl=(Md.headM mk ty sq ti ss cs ex pad,0)∧Md.encRM mk ty sq ti ss cs ex pad pl=(Md.encM mk ty sq ti ss cs ex pad pl,0):=by
 have hp:=fE hr
 have ht:¬ 1200<Md.totalM mk ty sq ti ss cs ex pad pl:=by
  have:(Md.padM pad).length=pad.toNat:=by
   unfold Md.padM
   split
   ·rw[List.length_append,List.length_replicate,Md.put_len];simp;omega
   ·simp;omega
  rw[Md.encM,List.length_append,List.length_append,this] at hl
  rw[Md.totalM]
  omega
 rw[Md.headRM,Md.encRM,if_neg (by rw[hr];simp),if_neg ht,if_neg (by rw[hr];simp),if_neg ht]
 exact ⟨rfl,rfl⟩
theorem aF8 (mk:Bool) (ty sq ti ss:Int) (cs:List Int) (ex:List Md.Xt) (pad:Int) (pl:List UInt8) {n:Nat} (h:n=(Md.headM mk ty sq ti ss cs ex pad).length):(Md.encM mk ty sq ti ss cs ex pad pl).drop n=pl++Md.padM pad:=by
 rw[Md.encM,List.append_assoc,List.drop_left' h.symm]
theorem wU {x:Int} (h0:0≤x) (h1:x<18446744073709551616) {K:Int→Prop} (k:K x):exW .u64 x K:=by
 have e:IntKind.wrap .u64 x=x:=by
  simp only[IntKind.wrap,IntKind.bits,IntKind.signed,Bool.false_and]
  have e2:(2:Int)^64=18446744073709551616:=rfl
  rw[e2]
  exact Int.emod_eq_of_lt h0 h1
 exact ⟨_,congrArg _ e,k⟩
def bLi (v:AV) (H:List Blk):AV:=shK (dG 0 H 9 v)
theorem aM7 {a b c:List UInt8} {hid:List Int} {t5 t6:Nat} {mk:Bool} {ty sq ti ss:Int} {cs:List Int} {ex:List Md.Xt} {pad:Int} {pl:List UInt8} {Q:Out→List Blk→Gh→Prop}
  (hn:bR a b c hid=true) (hr:Md.rightM ty sq ti ss cs ex pad=true) (hl:(Md.encM mk ty sq ti ss cs ex pad pl).length≤1184)
  (hq:∀v H g,bLi v H=.tup [shV 0 0 a b c hid [(ss,sq,1)] 0 0 (-1) 0,.str (uS mk ty sq ti ss cs (eB hid c b ss sq ex) pad pl a b sq),.int .i64 0]→Q (.ret v) H g) :
  qY sq Q a b c hid mk ty ti ss t5 cs t6 ex pad pl hid (Md.encM mk ty sq ti ss cs ex pad pl)∧qV 0 Q sq a b c hid mk ty ti ss t5 cs t6 ex pad pl hid (Md.encM mk ty sq ti ss cs ex pad pl):=by
 obtain ⟨n1,n2,n3⟩:=oJ hn
 have n4:=aG0 hn
 obtain ⟨⟨r1,r2⟩,r3,r4,r5,⟨r6,r7⟩,r8,r9⟩:=fE hr
 have hL:(Md.encM mk ty sq ti ss cs ex pad pl).length=(Md.headM mk ty sq ti ss cs ex pad).length+(pl++Md.padM pad).length:=by
  rw[Md.encM];simp only[List.length_append];omega
 have hpl:pl.length≤1184:=by rw[List.length_append] at hL;omega
 have hcat:=aA6 hid mk ty sq ti ss cs ex pad
 have hshp:=yU (hid:=hid) (mk:=c) (sa:=b) (ss:=ss) (ix:=sq) (ex:=ex) n3 n2 (by omega)
 obtain ⟨s1,s2,s3,_⟩:=zG (mk:=mk) (ty:=ty) (sq:=sq) (ti:=ti) (ss:=ss) (cs:=cs) pad hshp
 have hr':=s2.trans hr
 have r5':=(fE hr').2.2.2.1
 generalize hx':eB hid c b ss sq ex=ex' at *
 have hL':(Md.encM mk ty sq ti ss cs ex' pad pl).length=(Md.encM mk ty sq ti ss cs ex pad pl).length:=by
  rw[Md.encM,Md.encM];simp only[List.length_append,s1]
 have hh:=(yX (mk:=mk) (pl:=pl) hr' (by omega)).1
 have hno:=kI n2 ss sq
 have hse:=sM (key:=a) (no:=dN b ss sq) (hd:=Md.headM mk ty sq ti ss cs ex' pad) (pl:=pl++Md.padM pad) n1 hno (by omega) (by omega)
 have hsq:=aXk (key:=a) (no:=dN b ss sq) (hd:=Md.headM mk ty sq ti ss cs ex' pad) (pl:=pl++Md.padM pad) n1 hno (by omega) (by omega)
 have mk5:∀e,Md.dataM e↔∀x∈e,x.2.length≤4611686018427387904:=fun e=>Iff.rfl
 have core:∀ (F:List UInt8→Prop),F (uS mk ty sq ti ss cs ex' pad pl a b sq)→F (Md.headM mk ty sq ti ss cs ex' pad++(lM a (dN b ss sq) (Md.headM mk ty sq ti ss cs ex' pad) (pl++Md.padM pad)).1):=fun F h=>h
 constructor
 ·unfold qY
  delta vH aF6 uU aIn aJ4 rC aN7 aZl aQe aAf aP6 aI0 aAo vE aJt aH9 aWi aB6 aU0 aS8 aT5 aS3
  refine ⟨⟨by omega,r1,r2⟩, ?_⟩
  rintro z ⟨hz⟩
  rw[jP] at hz
  subst hz
  refine aF (fun h=>absurd h (by omega)) (fun _=>aF (fun h=>absurd h (by omega)) (fun _=>⟨⟨.inr ⟨5,0,0,rfl,by simp,rfl,rfl,by simp⟩⟩,hid,ex,⟨rfl,rfl,rfl,rfl,by omega,by omega,by omega,n2,n3⟩, ?_⟩))
  rintro e' ⟨he'⟩
  rw[hx'] at he'
  subst he'
  refine ⟨cs,e',⟨⟨rfl,rfl,rfl,rfl,by omega,by omega,fun x hx=>by have:=r5' x hx;omega⟩,by omega⟩, ?_⟩
  rintro s16 e17 ⟨h16⟩
  rw[hh] at h16
  obtain ⟨rfl,rfl⟩:=Prod.mk.inj h16
  refine ⟨_,rfl,ckI (by simp;omega) ⟨pl++Md.padM pad, ?_,⟨.inr ⟨5,0,0,rfl,by simp,rfl,rfl,by simp⟩⟩,⟨n2⟩, ?_⟩⟩
  ·rw[Int.toNat_natCast,aF8 _ _ _ _ _ _ _ _ _ s1,List.take_of_length_le (by omega)]
  rintro s20 ⟨rfl⟩
  refine ckF ?_
  rintro t21 e22 ⟨h21⟩
  have ht:t21=(lM a (dN b ss z) (Md.headM mk ty z ti ss cs e' pad) (pl++Md.padM pad)).1:=by rw[h21]
  rw[←ht] at hse
  refine aI (by omega) (by omega) (aF (fun _=>Md.iminI (a:=(z+1).toNat) (b:=64) (by omega) (ckI (by simp;try omega) ?_)) (fun h=>absurd h (by omega)))
  rw[Int.zero_mul]
  refine wU (by omega) (by omega) (aI (by omega) (by omega) (ckI (by simp) ?_))
  rw[show (1:Int)*2^Min.min (Int.toNat (z-z)) 64=1 by rw[Int.sub_self];rfl]
  refine wU (by omega) (by omega) ?_
  show exW .u64 (1:Int) _
  refine wU (by omega) (by omega) (ckI (by simp;omega) ⟨_,rfl,hq _ _ _ ?_⟩)
  rw[ht]
  rfl
 ·unfold qV
  delta vH aF6 uU aIn aJ4 rC aXl aQe aAf aP6 aI0 aAo vE aJt aH9 aWi aB6 aU0 aS8 aT5 aS3 aCo
  refine aS (fun h=>absurd rfl h) (fun _=>⟨⟨by omega,r1,r2⟩, ?_⟩)
  rintro z ⟨hz⟩
  rw[jP] at hz
  subst hz
  refine aF (fun h=>absurd h (by omega)) (fun _=>aF (fun h=>absurd h (by omega)) (fun _=>⟨⟨.inl ⟨rfl,rfl⟩⟩,hid,ex,⟨rfl,rfl,rfl,rfl,by omega,by omega,by omega,n2,n3⟩, ?_⟩))
  rintro e' ⟨he'⟩
  rw[hx'] at he'
  subst he'
  refine ⟨cs,e',⟨⟨rfl,rfl,rfl,rfl,by omega,by omega,fun x hx=>by have:=r5' x hx;omega⟩,by omega⟩, ?_⟩
  rintro s16 e17 ⟨h16⟩
  rw[hh] at h16
  obtain ⟨rfl,rfl⟩:=Prod.mk.inj h16
  refine ⟨_,rfl,ckI (by simp;omega) ⟨pl++Md.padM pad, ?_,⟨.inl ⟨rfl,rfl⟩⟩,⟨n2⟩, ?_⟩⟩
  ·rw[Int.toNat_natCast,aF8 _ _ _ _ _ _ _ _ _ s1,List.take_of_length_le (by omega)]
  rintro s20 ⟨rfl⟩
  refine ckF ?_
  rintro t21 e22 ⟨h21⟩
  have ht:t21=(lM a (dN b ss z) (Md.headM mk ty z ti ss cs e' pad) (pl++Md.padM pad)).1:=by rw[h21]
  rw[←ht] at hse
  refine aI (by omega) (by omega) (aF (fun _=>Md.iminI (a:=(z+1).toNat) (b:=64) (by omega) (ckI (by simp;try omega) ?_)) (fun h=>absurd h (by omega)))
  rw[Int.zero_mul]
  refine wU (by omega) (by omega) (aI (by omega) (by omega) (ckI (by simp) ?_))
  rw[show (1:Int)*2^Min.min (Int.toNat (z-z)) 64=1 by rw[Int.sub_self];rfl]
  refine wU (by omega) (by omega) ?_
  show exW .u64 (1:Int) _
  refine wU (by omega) (by omega) (ckI (by simp;omega) ⟨_,rfl,hq _ _ _ ?_⟩)
  rw[ht]
  rfl
theorem aRw {a b c:List UInt8} {hid:List Int} {t5 t6:Nat} {mk:Bool} {ty sq ti ss:Int} {cs:List Int} {ex:List Md.Xt} {pad:Int} {pl:List UInt8} (Q:Out→List Blk→Gh→Prop)
  (hn:bR a b c hid=true) (hr:Md.rightM ty sq ti ss cs ex pad=true) (hl:(Md.encM mk ty sq ti ss cs ex pad pl).length≤1184)
  (hq:∀v H g,bLi v H=.tup [shV 0 0 a b c hid [(ss,sq,1)] 0 0 (-1) 0,.str (uS mk ty sq ti ss cs (eB hid c b ss sq ex) pad pl a b sq),.int .i64 0]→Q (.ret v) H g):∃hv hb,xU hv hb a b c hid t5 t6 mk ty sq ti ss cs ex pad pl Q:=by
 obtain ⟨hv,hb',e⟩:∃hv hb,xU hv hb a b c hid t5 t6 mk ty sq ti ss cs ex pad pl Q=_:=⟨_,_,bFj a b c hid t5 t6 mk ty sq ti ss cs ex pad pl Q⟩
 refine ⟨hv,hb',e.mpr ?_⟩
 delta rC aJ4 aWi uU aCo aB6 aQ0
 clear e
 obtain ⟨t2,t1⟩:=aM7 (t5:=t5) (t6:=t6) hn hr hl hq
 have n4:=aG0 hn
 obtain ⟨⟨r1,r2⟩,r3,r4,r5,⟨r6,r7⟩,r8,r9⟩:=fE hr
 have hL:(Md.encM mk ty sq ti ss cs ex pad pl).length=(Md.headM mk ty sq ti ss cs ex pad).length+(pl.length+(Md.padM pad).length):=by
  rw[Md.encM];simp only[List.length_append];omega
 have hen:=(yX (mk:=mk) (pl:=pl) hr (by omega)).2
 have hmd:Md.medK (aC cs) cs.length (Md.cellsXM ex) ex.length cs ex∧pl.length≤1000000000:=⟨⟨rfl,rfl,rfl,rfl,by omega,by omega,fun x hx=>by have:=r5 x hx;omega⟩,by omega⟩
 refine ⟨hid,[],0,⟨rfl,rfl,rfl,rfl,rfl,by omega,fun t h=>by simp at h,by omega,by omega⟩, ?_⟩
 rintro e3 ⟨he3⟩
 rw[if_pos (sQ hn)] at he3
 subst he3
 refine aS (fun h=>absurd rfl h) (fun _=>⟨hid,⟨rfl,rfl,by omega⟩,⟨cs,ex,⟨hmd⟩, ?_⟩,cs,ex,⟨hmd⟩, ?_⟩)
 ·rintro s7 e8 ⟨h7⟩
  rw[hen] at h7
  obtain ⟨rfl,rfl⟩:=Prod.mk.inj h7
  exact aW (fun _=>⟨_,rfl,aF (fun h=>absurd h (by omega)) (fun _=>aS (fun h=>absurd rfl h) (fun _=>t2))⟩) (fun h=>absurd rfl h)
 ·rintro s7 e8 ⟨h7⟩
  rw[hen] at h7
  obtain ⟨rfl,rfl⟩:=Prod.mk.inj h7
  exact aW (fun _=>⟨_,rfl,aF (fun h=>absurd h (by omega)) (fun _=>t1)⟩) (fun h=>absurd rfl h)
def aA1:Con
 | [.agg [.str a,.str b,.str c,.lst 0 hl hn 1,.lst 0 [] 0 3,.int .i64 0,.int .i64 0,.int .i64 (-1),.int .u64 0],.agg [.bool mk,.int .i64 ty,.int .i64 sq,.int .i64 ti,.int .i64 ss,.lst _ c5 n5 1,.lst _ c6 n6 2,.int .i64 pad,.str pl]],H,K=>∃ (hid cs:List Int) (ex:List Md.Xt),
   Lf ((hl=aC hid∧hn=hid.length∧c5=aC cs∧n5=cs.length∧c6=Md.cellsXM ex∧n6=ex.length)∧bR a b c hid=true∧Md.rightM ty sq ti ss cs ex pad=true∧(Md.encM mk ty sq ti ss cs ex pad pl).length≤1184) ∧
   ∀p:List UInt8,Lf (p=uS mk ty sq ti ss cs (eB hid c b ss sq ex) pad pl a b sq)→K (.ret (.tup [shV 0 0 a b c hid [(ss,sq,1)] 0 0 (-1) 0,.str p,.int .i64 0])) H
 | _,_,_=>False
theorem aQp:aG Tryz.prog gl0 24 aA1:=by
 refine iG (enters_of (by kernel_rfl)) aQ 9 shK aPa fun args H Q hc => ?_
 unfold aA1 at hc
 split at hc
 ·rename_i a b c hl hn mk ty sq ti ss t5 c5 n5 t6 c6 n6 pad pl
  obtain ⟨hid,cs,ex,⟨⟨rfl,rfl,rfl,rfl,rfl,rfl⟩,h1,h2,h3⟩,hq⟩:=hc
  obtain ⟨hv,hb',h⟩:=aRw (fun o H' _=>∃v,o=.ret v∧Q (.ret (shK (dG 0 H' 9 v))) H) h1 h2 h3 (fun v H' g ho=>⟨v,rfl,by
   have e:shK (dG 0 H' 9 v)=_:=ho
   rw[e]
   exact hq _ ⟨rfl⟩⟩)
  exact ⟨rfl,rfl,_,1000,aY bAt (fun _=>none) hv hb',rfl,h⟩
 ·exact hc.elim
theorem bD9 (xs:List Int):zI (aC xs)=true:=by
 induction xs with
 | nil=>rfl
 | cons x l ih=>show (true&&zI (aC l))=true;rw[ih];rfl
def aPk:List AV→List AV
 | [a,b]=>[a,Md.aggK b]
 | l=>l
theorem aR6:aG Tryz.prog gl0 24 fun args H Q=>aA1 (aPk args) H Q:=jD aQp fun args H Q h=>⟨aPk args,by
 unfold aPk
 split
 ·exact gM (iF _) (gM (Md.wk_aggK _) wS)
 ·exact iP _,h⟩
def aWe:Con:=fun args H Q=>mZ [0,0] H args fun a=>aA1 (aPk a) H Q
theorem aUi:aG Tryz.prog gl0 24 aWe:=dM aR6 aQ [0,0] fun args H Q hc=>by
 revert hc
 generalize aPk args=a
 intro hc
 unfold aA1 at hc
 split at hc
 ·obtain ⟨hid,cs,ex,h,hq⟩:=hc
  refine ⟨hid,cs,ex,h,fun p hp=>⟨rfl,⟨_,rfl, ?_⟩,hq p hp⟩⟩
  have:=bD9 hid
  simp[shV,noT,zI,trM,this]
 ·exact hc.elim
end Go.Proofs.YtnhechnaemmdiaaGreatDoor

/-
  Chapter 17, second seat: the reference's Sender, Nonce and Seal; Seal for all arguments.
-/
import Derived.Test.YtiholnebhmjbjaaGreatZ17M
import Derived.Test.YtiholnebhmjbjaaGreatZ4RM
set_option linter.unusedSimpArgs false
set_option linter.unusedVariables false
set_option linter.unusedSectionVars false
namespace Go.Proofs.YtiholnebhmjbjaaGreat
open Go.RowKit
set_option maxRecDepth 1000000

noncomputable def goal_z8 (hv:Nat→Option Pa) (hb:Nat→Option Bool) (e nx:Int) (key salt:List UInt8) (Q:Out→List Blk→Gh→Prop):Prop:=
 callx (e04 sm0 (fun _=>none) hv hb) (wpx (e04 sm0 (fun _=>none) hv hb) 1000) 8 [.agg [.int .i64 e,.int .i64 nx,.str key,.str salt]] [] {} Q
theorem vc_z8 (e:Int) (nx:Int) (key:List UInt8) (salt:List UInt8) (Q:Out→List Blk→Gh→Prop):goal_z8 (lookV [(32782,.int .i64),(32788,.int .i64)]) (lookB []) e nx key salt Q=(
(bif (decide (e≥(0:Int))) then (bif (decide (e≤(65535:Int))) then (∃n_0:Int,(((AV.int .i64 (Nat.cast (List.length key):Int))=(AV.int .i64 n_0)) ∧
 (bif (n_0==(32:Int)) then (∃n_1:Int,(((AV.int .i64 (Nat.cast (List.length salt):Int))=(AV.int .i64 n_1)) ∧
 (bif (n_1==(12:Int)) then (bif (decide (nx≥(0:Int))) then (bif (decide (nx≤(281474976710656:Int))) then (Q (Out.ret (AV.bool true)) [] (Gh.mk (0:Nat) (0:Nat) []))
else (Q (Out.ret (AV.bool false)) [] (Gh.mk (0:Nat) (0:Nat) [])))
else (Q (Out.ret (AV.bool false)) [] (Gh.mk (0:Nat) (0:Nat) [])))
else (Q (Out.ret (AV.bool false)) [] (Gh.mk (0:Nat) (0:Nat) [])))))
else (Q (Out.ret (AV.bool false)) [] (Gh.mk (0:Nat) (0:Nat) [])))))
else (Q (Out.ret (AV.bool false)) [] (Gh.mk (0:Nat) (0:Nat) [])))
else (Q (Out.ret (AV.bool false)) [] (Gh.mk (0:Nat) (0:Nat) [])))):=by kernel_rfl

abbrev zR11 (n nx:Int) (key salt:List UInt8):AV:=.agg [.int .i64 n,.int .i64 nx,.str key,.str salt]
def inv_z36 (s w:List UInt8) (z:S):List (List LInv):=[[{ α:=Nat,pre:=fun i=>Lf (i≤8),st:=fun i=>⟨mkT [(0,.str s),(5,.str w),(6,.str ((xorNM w i s).take (4+i))),(7,.int .i64 (i:Nat))],z.hp⟩,mu:=fun i=>8-i }]]
noncomputable def env_z36 (hv:Nat→Option Pa) (hb:Nat→Option Bool) (s w:List UInt8):Env:=
 e04 smP (fun i=>bif Nat.beq i 36000 then some (inv_z36 s w) else none) hv hb
noncomputable def goal_z36 (hv:Nat→Option Pa) (hb:Nat→Option Bool) (s w:List UInt8) (a b c:Int) (t:List UInt8) (Q:Out→List Blk→Gh→Prop):Prop:=
 callx (env_z36 hv hb s w) (wpx (env_z36 hv hb s w) 1000) 36 [.str s,.agg [.int .i64 a,.int .i64 b,.int .i64 c,.str t]] [] {} Q
abbrev zR12 (s_0 s_1:List UInt8):Bool:=decide (s_0.length+s_1.length≤9223372036854775807)&&true
theorem vc_z36 (s:List UInt8) (w:List UInt8) (a:Int) (b:Int) (c:Int) (t:List UInt8) (Q:Out→List Blk→Gh→Prop):goal_z36 (lookV [(147470,.str),(147472,.str),(147473,.int .i64),(147477,.str),(147479,.int .i64),
 (147480,.int .i64),(147481,.int .u8),(147483,.int .i64),(147484,.int .u8),(147485,.int .u8),(147487,.str),(147488,.str),(147475,.int .i64),(147476,.int .i64),(147489,.str)]) (lookB []) s w a b c t Q=(Lf (0≤b∧((2 :
 Int)=(1:Int)∧b≤255∨(2:Int)=(2:Int)∧b≤65535∨(2:Int)=(6:Int)∧b≤281474976710655))∧∀s_0:List UInt8,Lf (s_0=beBM (Int.toNat 2) b.toNat)→ckQ (eqAVL [.int .i64 c] [.int .i64 c]&&true) (Lf (0≤c∧((6 :
 Int)=(1:Int)∧c≤255∨(6:Int)=(2:Int)∧c≤65535∨(6:Int)=(6:Int)∧c≤281474976710655))∧∀s_1:List UInt8,Lf (s_1=beBM (Int.toNat 6) c.toNat)→ckQ (zR12 s_0 s_1) (exS (.str (s_0++s_1)) (fun s_2=>ckQ
 (Nat.ble 4 s.length) (exS (.str ((s.drop 0).take 4)) (fun s_3=>(∃x_4:Nat,Lf (x_4≤8)∧eqqQ [AV.int .i64 a,.int .i64 b,.int .i64 c,.str t]∧eqqQ (AV.str s)∧AV.int .i64 0=AV.int .i64 (x_4:Int)∧AV.str s_2=AV.str w ∧
 AV.str s_3=AV.str ((xorNM w x_4 s).take (4+x_4))∧True)∧∀x_4:Nat,Lf (x_4≤8)→exI .i64 (x_4:Int) (fun n_5=>bif decide (n_5<8) then exS (.str ((xorNM w x_4 s).take (4+x_4))) (fun s_6=>exI .i64 (x_4:Int) (fun n_7=>
 exW .i64 (4+n_7) (fun n_8=>ckQ (decide (0≤n_8)&&Nat.blt n_8.toNat s.length) (exI .u8 (UInt8.toNat (s.getD n_8.toNat (UInt8.ofNat 0)):Int) (fun n_9=>exI .i64 (x_4:Int) (fun n_10=>ckQ (decide (0≤n_10)&&Nat.blt n_10.toNat
 w.length) (exI .u8 (UInt8.toNat (w.getD n_10.toNat (UInt8.ofNat 0)):Int) (fun n_11=>exW .u8 (((n_9%256).toNat ^^^ (n_11%256).toNat:Nat):Int) (fun n_12=>exS (.str [toB (.int .u8 n_12)]) (fun s_13=>ckQ (zR12 s_6 s_13) (exS
 (.str (s_6++s_13)) (fun s_14=>exI .i64 (x_4:Int) (fun n_15=>exW .i64 (n_15+1) (fun n_16=>(True∧(0:Nat)=(0:Nat))∧∃y_17:Nat,Lf (y_17≤8)∧8-y_17<8-x_4∧eqqQ [AV.int .i64 a,.int .i64 b,.int .i64 c,.str t]
 ∧ eqqQ (AV.str s)∧AV.int .i64 n_16=AV.int .i64 (y_17:Int)∧eqqQ (AV.str w)∧AV.str s_14=AV.str ((xorNM w y_17 s).take (4+y_17))∧True)))))))))))))) else exS (.str ((xorNM w x_4 s).take (4+x_4))) (fun s_6=>Q (.ret (.str
 s_6)) [] {})))))))):=by kernel_rfl


def cSndB:Con
 | [.agg [.int .i64 e,.int .i64 nx,.str key,.str salt]],H,K=>∀b,Lf (b=sndOkM e nx key salt)→K (.ret (.bool b)) H
 | _,_,_=>False
theorem sndB_run (e nx:Int) (key salt:List UInt8) (Q:Out→List Blk→Gh→Prop) (hq:Q (.ret (.bool (sndOkM e nx key salt))) [] {}):∃hv hb,goal_z8 hv hb e nx key salt Q:=by
 obtain ⟨hv,hb',e'⟩:∃hv hb,goal_z8 hv hb e nx key salt Q=_:=⟨_,_,vc_z8 e nx key salt Q⟩
 refine ⟨hv,hb',e'.mpr ?_⟩
 clear e'
 have no:¬ ((0≤e∧e≤65535)∧key.length=32∧salt.length=12∧0≤nx∧nx≤281474976710656)→Q (.ret (.bool false)) [] {}:=fun h=>by
  have:sndOkM e nx key salt=false:=by rw[←Bool.not_eq_true,snd_iff];exact h
  rwa [this] at hq
 have yes:((0≤e∧e≤65535)∧key.length=32∧salt.length=12∧0≤nx∧nx≤281474976710656)→Q (.ret (.bool true)) [] {}:=fun h=>by
  have:sndOkM e nx key salt=true:=(snd_iff _ _ _ _).2 h
  rwa [this] at hq
 refine splitD (fun h1=>splitD (fun h2=>⟨_,rfl,splitE (fun h3=>⟨_,rfl,splitE (fun h4=>splitD (fun h5=>splitD (fun h6=>yes ⟨⟨h1,h2⟩,by omega,by omega,h5,h6⟩) (fun h6=>no (by omega))) (fun h5=>no (by omega))) (fun h4=>no (by omega))⟩) (fun h3=>no (by omega))⟩) (fun h2=>no (by omega))) (fun h1=>no (by omega))
theorem sndB_ok:ValidF Tryz.prog gl0 8 cSndB:=by
 refine valid_flat (enters_of (by kernel_rfl)) gl0_noY fun args H Q hc => ?_
 unfold cSndB at hc
 split at hc
 ·rename_i e nx key salt
  obtain ⟨hv,hb',h⟩:=sndB_run e nx key salt (Q:=fun o H' _=>H'=[]∧(∃v,o=.ret v∧old 0 v=true∧noY v=true)∧Q o H) ⟨rfl,⟨_,rfl,rfl,rfl⟩,hc _ ⟨rfl⟩⟩
  exact ⟨rfl,rfl,_,1000,envFor04 sm0_ok _ _ _,rfl,h⟩
 ·exact hc.elim
theorem xorN_get (w:List UInt8) (s:List UInt8):∀i j,4+i≤j→(xorNM w i s).getD j 0=s.getD j 0
 | 0,j,_=>rfl
 | i+1,j,h=>by
  rw[xorNM,List.getD_eq_getElem?_getD,List.getElem?_set_ne (by omega),←List.getD_eq_getElem?_getD]
  exact xorN_get w s i j (by omega)
theorem xorN_step {w s:List UInt8} {i:Nat} (hs:s.length=12) (hi:i<8):(xorNM w (i+1) s).take (4+(i+1))=(xorNM w i s).take (4+i)++[s.getD (4+i) 0 ^^^ w.getD i 0]:=by
 have hl:=xorN_len w i s
 have hl2:=xorN_len w (i+1) s
 rw[←Nat.add_assoc,List.take_add_one,xorNM,List.getElem?_set_self (by omega),xorN_get w s i _ (by omega)]
 congr 1
 rw[List.take_set_of_le (by omega)]
theorem toB_u8 (z:UInt8):toB (AV.int .u8 (z.toNat:Int))=z:=by simp[toB]
theorem nonceR_run (s:List UInt8) (a b c:Int) (t:List UInt8) (hs:s.length=12) (hb:0≤b∧b≤65535) (hc:0≤c∧c≤281474976710655) (Q:Out→List Blk→Gh→Prop) (hq:Q (.ret (.str (nonceM s b c))) [] {}):∃hv hb,goal_z36 hv hb s (numsNM b c) a b c t Q:=by
 have hwl:(numsNM b c).length=8:=by rw[numsNM,List.length_append,be_len,be_len]
 have hw:numsNM b c=beBM 2 b.toNat++beBM 6 c.toNat:=rfl
 rw[nonceM] at hq
 generalize numsNM b c=w at *
 obtain ⟨hv,hb',e'⟩:∃hv hb,goal_z36 hv hb s w a b c t Q=_:=⟨_,_,vc_z36 s w a b c t Q⟩
 refine ⟨hv,hb',e'.mpr ?_⟩
 delta zR12
 clear e'
 refine ⟨⟨hb.1,.inr (.inl ⟨rfl,hb.2⟩)⟩, ?_⟩
 rintro s0 ⟨e0⟩
 refine ckI (by rw[eqAVL_i];rfl) ⟨⟨hc.1,.inr (.inr ⟨rfl,hc.2⟩)⟩, ?_⟩
 rintro s1 ⟨e1⟩
 have hws:s0++s1=w:=by rw[e0,e1,hw];rfl
 rw[hws]
 have hl01:s0.length+s1.length=8:=by rw[←hwl,←hws,List.length_append]
 refine ckI (by rw[hl01];rfl) ⟨w,rfl,ckI (by rw[hs];rfl) ⟨s.take 4,rfl,⟨0,⟨by omega⟩,rfl,rfl,rfl,rfl,rfl,trivial⟩, ?_⟩⟩
 rintro i ⟨hi⟩
 have hxl:=xorN_len w i s
 refine ⟨_,rfl,splitD (fun h2 => ?_) (fun h2 => ?_)⟩
 ·refine ⟨_,rfl,_,rfl,wrapI (by omega) (by omega) (ckI (by simp;omega) ⟨_,rfl,_,rfl,ckI (by simp;omega) ⟨_,rfl, ?_⟩⟩)⟩
  try dsimp only[exW,exI,exV]
  rw[show (4+(i:Int)).toNat=4+i by omega,show ((i:Nat):Int).toNat=i from Int.toNat_natCast i,xor_u8]
  refine ⟨_,rfl, ?_⟩
  rw[toB_u8]
  refine ⟨_,rfl,ckI (by simp;omega) ⟨_,rfl,_,rfl,wrapI (by omega) (by omega) ⟨⟨trivial,rfl⟩,i+1,⟨by omega⟩,by omega,rfl,rfl,rfl,rfl, ?_,trivial⟩⟩⟩
  rw[xorN_step hs (by omega)]
  rfl
 ·have hi:i=8:=by omega
  subst hi
  refine ⟨_,rfl, ?_⟩
  rw[List.take_of_length_le (by omega)]
  exact hq
theorem nonceR_ok:ValidF Tryz.prog gl0 36 cNonce:=by
 refine valid_flat (enters_of (by kernel_rfl)) gl0_noY fun args H Q hc => ?_
 unfold cNonce at hc
 split at hc
 ·rename_i s a b c t
  obtain ⟨⟨h1,h2,h3⟩,hq⟩:=hc
  obtain ⟨hv,hb',h⟩:=nonceR_run s a b c t h1 h2 h3 (Q:=fun o H' _=>H'=[]∧(∃v,o=.ret v∧old 0 v=true∧noY v=true)∧Q o H) ⟨rfl,⟨_,rfl,rfl,rfl⟩,hq _ ⟨rfl⟩⟩
  exact ⟨rfl,rfl,_,1000,envFor04 smP_ok _ _ _,rfl,h⟩
 ·exact hc.elim
def errSM (e nx:Int) (key salt:List UInt8) (kind:Int) (body:List UInt8):Int:=
 if sndOkM e nx key salt=false then 170 else if ¬ (0≤kind∧kind≤255) then 2 else if 984<body.length then 3 else if nx=281474976710656 then 6 else 0
def sealXM (e nx:Int) (key salt:List UInt8) (kind:Int) (body:List UInt8):Int×Int×List UInt8×List UInt8×List UInt8×Int:=
 if errSM e nx key salt kind body=0 then (e,nx+1,key,salt,boxM e nx key salt kind body,0) else (0,0,[],[],[],errSM e nx key salt kind body)
def cSealX:Con
 | [.agg [.int .i64 e,.int .i64 nx,.str key,.str salt],.int .i64 kind,.str body],H,K=>∀ (a b:Int) (k s x:List UInt8) (r:Int),Lf (sealXM e nx key salt kind body=(a,b,k,s,x,r))→K (.ret (.tup [.agg [.int .i64 a,.int .i64 b,.str k,.str s],.str x,.int .i64 r])) H
 | _,_,_=>False
def smZ11:SM:=lookS [(8,cSndB),(34,cHead),(35,cSealRf),(36,cNonce)]
theorem smZ11_ok:∀f g,smZ11 f=some g→ValidF Tryz.prog gl0 f g:=lookS_ok _ (by simp only[List.mem_cons,List.not_mem_nil,or_false,forall_eq_or_imp,forall_eq];exact ⟨sndB_ok,rhead_ok,rseal_ok,nonceR_ok⟩)
noncomputable def goal_z11 (hv:Nat→Option Pa) (hb:Nat→Option Bool) (e nx:Int) (key salt:List UInt8) (kind:Int) (body:List UInt8) (Q:Out→List Blk→Gh→Prop):Prop:=
 callx (e04 smZ11 (fun _=>none) hv hb) (wpx (e04 smZ11 (fun _=>none) hv hb) 1000) 11 [.agg [.int .i64 e,.int .i64 nx,.str key,.str salt],.int .i64 kind,.str body] [] {} Q
abbrev zR10:AV:=.agg [.int .i64 0,.int .i64 0,.str [],.str []]
theorem vc_z11 (e:Int) (nx:Int) (key:List UInt8) (salt:List UInt8) (kind:Int) (body:List UInt8) (Q:Out→List Blk→Gh→Prop):goal_z11 (lookV [(45080,.int .i64),(45095,.int .i64),(45096,.int .i64),(45108,.str),
 (45111,.int .i64)]) (lookB []) e nx key salt kind body Q=(∀b_0:Bool,Lf (b_0=sndOkM e nx key salt)→bif b_0 then bif decide (kind<0) then Q (.ret (.tup [zR10,.str [],.int .i64 2])) [] {} else bif decide (kind>255) then Q
 (.ret (.tup [zR10,.str [],.int .i64 2])) [] {} else exI .i64 (body.length:Int) (fun n_1=>bif decide (n_1>984) then Q (.ret (.tup [zR10,.str [],.int .i64 3])) [] {} else bif nx==281474976710656 then Q (.ret (.tup [zR10,.str [],
 .int .i64 6])) [] {} else exI .i64 (body.length:Int) (fun n_2=>exW .i64 (n_2+16) (fun n_3=>Lf (numsOk (Prod.mk kind (Prod.mk e (Prod.mk nx [])))∧0≤n_3∧n_3≤65535)∧∀t_4:List UInt8,Lf (t_4=headM (Prod.mk kind (Prod.mk
 e (Prod.mk nx []))) n_3)→Lf (salt.length=12∧(0≤e∧e≤65535)∧0≤nx∧nx≤281474976710655)∧∀x_5:List UInt8,Lf (x_5=nonceM salt e nx)→ckQ (eqAVL [.str key] [.str key]&&true) (Lf (key.length=32∧x_5.length=12 ∧
 t_4.length≤4096∧body.length≤4096)∧∀t_6:List UInt8,Lf (t_6=(sealM key x_5 t_4 body).1)→ckQ (zR12 t_4 t_6) (exS (.str (t_4++t_6)) (fun s_7=>exW .i64 (nx+1) (fun n_8=>Q (.ret (.tup [zR11 e n_8 key salt,.str s_7,.int
 .i64 0])) [] {}))))))) else Q (.ret (.tup [zR10,.str [],.int .i64 170])) [] {}):=by kernel_rfl

theorem sealXR_run (e nx:Int) (key salt:List UInt8) (kind:Int) (body:List UInt8) (Q:Out→List Blk→Gh→Prop)
  (hq:∀ (a b:Int) (k s x:List UInt8) (r:Int),sealXM e nx key salt kind body=(a,b,k,s,x,r)→Q (.ret (.tup [.agg [.int .i64 a,.int .i64 b,.str k,.str s],.str x,.int .i64 r])) [] {}):∃hv hb,goal_z11 hv hb e nx key salt kind body Q:=by
 obtain ⟨hv,hb',e'⟩:∃hv hb,goal_z11 hv hb e nx key salt kind body Q=_:=⟨_,_,vc_z11 e nx key salt kind body Q⟩
 refine ⟨hv,hb',e'.mpr ?_⟩
 delta zR10 zR12 zR11
 clear e'
 have leaf:∀r:Int,r≠0→errSM e nx key salt kind body=r→Q (.ret (.tup [.agg [.int .i64 0,.int .i64 0,.str [],.str []],.str [],.int .i64 r])) [] {}:=fun r h1 h2=>hq _ _ _ _ _ _ (by rw[sealXM,h2,if_neg h1])
 rintro x ⟨rfl⟩
 cases h1:sndOkM e nx key salt with
 | false=>exact leaf 170 (by decide) (by rw[errSM,if_pos h1])
 | true=>
  obtain ⟨k1,k2,k3,k4,k5⟩:=(snd_iff e nx key salt).1 h1
  have hno:¬ sndOkM e nx key salt=false:=by rw[h1];decide
  refine splitD (fun g1=>leaf 2 (by decide) (by rw[errSM,if_neg hno,if_pos (by omega)])) (fun g1=>splitD (fun g2=>leaf 2 (by decide) (by rw[errSM,if_neg hno,if_pos (by omega)])) (fun g2=>⟨_,rfl,splitD (fun g3=>leaf 3 (by decide) (by rw[errSM,if_neg hno,if_neg (by omega),if_pos (by omega)])) (fun g3=>splitE (fun g4=>leaf 6 (by decide) (by rw[errSM,if_neg hno,if_neg (by omega),if_neg (by omega),if_pos g4])) (fun g4=>⟨_,rfl,wrapI (by omega) (by omega) ⟨⟨⟨⟨by dsimp only;omega,by dsimp only;omega⟩,k1,k4,by dsimp only;omega⟩,by omega,by omega⟩, ?_⟩⟩))⟩))
  rintro t ⟨ht⟩
  refine ⟨⟨k3,k1,k4,by omega⟩, ?_⟩
  rintro x ⟨hx⟩
  have htl:t.length=11:=by rw[ht];exact head_len _ _
  refine ckI (by simp[eqAVL,eqAV,eqB_refl]) ⟨⟨k2,by rw[hx,nonce_len];exact k3,by omega,by omega⟩, ?_⟩
  rintro u ⟨hu⟩
  have hul:=sealed17_len (key:=key) (nonce:=x) (extra:=t) (plain:=body) k2 (by rw[hx,nonce_len];exact k3) (by rw[ht,head_len];omega) (by omega)
  have hb:t++u=boxM e nx key salt kind body:=by rw[boxM,←ht,←hx,hu]
  rw[←hu] at hul
  refine ckI (by simp;omega) ⟨_,rfl,wrapI (by omega) (by omega) ?_⟩
  exact hq _ _ _ _ _ _ (by rw[sealXM,if_pos (by rw[errSM,if_neg hno,if_neg (by omega),if_neg (by omega),if_neg g4]),hb])
theorem sealXR_ok:ValidF Tryz.prog gl0 11 cSealX:=by
 refine valid_flat (enters_of (by kernel_rfl)) gl0_noY fun args H Q hc => ?_
 unfold cSealX at hc
 split at hc
 ·rename_i e nx key salt kind body
  obtain ⟨hv,hb',h⟩:=sealXR_run e nx key salt kind body (Q:=fun o H' _=>H'=[]∧(∃v,o=.ret v∧old 0 v=true∧noY v=true)∧Q o H) (fun a b k s x r h=>⟨rfl,⟨_,rfl,rfl,rfl⟩,hc a b k s x r ⟨h⟩⟩)
  exact ⟨rfl,rfl,_,1000,envFor04 smZ11_ok _ _ _,rfl,h⟩
 ·exact hc.elim
end Go.Proofs.YtiholnebhmjbjaaGreat

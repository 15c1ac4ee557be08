/-
  Chapter 17: senders and receivers: what is checked; nonces; Seal of records.
-/
import Derived.Test.YtjenieljapmehaaGreatDoorR21D
import Derived.Test.YtjenieljapmehaaGreatDoorGrD
set_option linter.unusedSimpArgs false
set_option linter.unusedVariables false
set_option linter.unusedSectionVars false
namespace Go.Proofs.YtjenieljapmehaaGreatDoor.Rc
open Go.RowKit
set_option maxRecDepth 1000000

noncomputable def goal_42m (hv:Nat→Option Pa) (hb:Nat→Option Bool) (t:Int) (k:Nat) (Q:Out→List Blk→Gh→Prop):Prop:=
 callx (e04 sm0 (fun _=>none) hv hb) (wpx (e04 sm0 (fun _=>none) hv hb) 1000) 42 [.agg [.int .i64 t,.int .u64 (k:Nat)]] [] {} Q
theorem vc_42m (t:Int) (k:Nat) (Q:Out→List Blk→Gh→Prop):goal_42m (lookV [(172035,.agg [(.int .i64),(.int .u64)]),(172043,.int .u64),(172044,.int .u64),(172053,.int .u64),(172056,.int .i64),(172057,.int .u64)])
 (lookB []) t k Q=(∃n_0 n_1,AV.agg [.int .i64 t,.int .u64 (k:Int)]=AV.agg [.int .i64 n_0,.int .u64 n_1]∧bif n_0 == -1&&(n_1==0&&true) then Q (.ret (.bool true)) [] {} else bif decide (t≥0) then bif decide (t ≤
 281474976710655) then exI .u64 (k:Int) fun n_2=>exW .u64 (((n_2%18446744073709551616).toNat &&& 1:Nat):Int) fun n_3=>bif n_3==1 then bif decide (t≥63) then Q (.ret (.bool true)) [] {} else exI .u64 (k:Int) fun n_4=>exW
 .i64 (t+1) fun n_5=>ckQ (decide (0≤n_5)&&true) (exI .u64 (Int.fdiv n_4 ((2:Int)^Min.min n_5.toNat 64)) fun n_6=>bif n_6==0 then Q (.ret (.bool true)) [] {} else Q (.ret (.bool false)) [] {}) else Q (.ret (.bool false)) []
 {} else Q (.ret (.bool false)) [] {} else Q (.ret (.bool false)) [] {}):=by kernel_rfl

noncomputable def goal_44m (hv:Nat→Option Pa) (hb:Nat→Option Bool) (t:Int) (k:Nat) (q:Int) (Q:Out→List Blk→Gh→Prop):Prop:=
 callx (e04 sm0 (fun _=>none) hv hb) (wpx (e04 sm0 (fun _=>none) hv hb) 1000) 77 [.agg [.int .i64 t,.int .u64 (k:Nat)],.int .i64 q] [] {} Q
theorem vc_44m (t:Int) (k:Nat) (q:Int) (Q:Out→List Blk→Gh→Prop):goal_44m (lookV [(315404,.int .i64),(315408,.int .u64),(315412,.int .i64),(315413,.int .u64),(315414,.int .u64)]) (lookB []) t k q Q=(
(bif (decide (q>t)) then (Q (Out.ret (AV.bool true)) [] (Gh.mk (0:Nat) (0:Nat) []))
else (∃n_0:Int,(((AV.int .i64 (IntKind.wrap .i64 (t-(64:Int))))=(AV.int .i64 n_0)) ∧
 (bif (decide (q>n_0)) then (∃n_1:Int,(((AV.int .u64 (Nat.cast k:Int))=(AV.int .u64 n_1)) ∧
 (∃n_2:Int,(((AV.int .i64 (IntKind.wrap .i64 (t-q)))=(AV.int .i64 n_2)) ∧
 (bif ((decide ((0:Int)≤n_2))&&true) then (∃n_3:Int,(((AV.int .u64 (Int.fdiv n_1 ((2:Int)^(Min.min (Int.toNat n_2) (64:Nat)))))=(AV.int .u64 n_3)) ∧
 (∃n_4:Int,(((AV.int .u64 (IntKind.wrap .u64 (Nat.cast ((Int.toNat (n_3%(18446744073709551616:Int))) &&& (1:Nat)):Int)))=(AV.int .u64 n_4)) ∧
 (bif (n_4==(0:Int)) then (Q (Out.ret (AV.bool true)) [] (Gh.mk (0:Nat) (0:Nat) []))
else (Q (Out.ret (AV.bool false)) [] (Gh.mk (0:Nat) (0:Nat) [])))))))
else False)))))
else (Q (Out.ret (AV.bool false)) [] (Gh.mk (0:Nat) (0:Nat) []))))))):=by kernel_rfl

noncomputable def goal_31m (hv:Nat→Option Pa) (hb:Nat→Option Bool) (e nx:Int) (key salt:List UInt8) (Q:Out→List Blk→Gh→Prop):Prop:=
 callx (e04 sm0 (fun _=>none) hv hb) (wpx (e04 sm0 (fun _=>none) hv hb) 1000) 17 [.agg [.int .i64 e,.int .i64 nx,.str key,.str salt]] [] {} Q
theorem vc_31m (e:Int) (nx:Int) (key:List UInt8) (salt:List UInt8) (Q:Out→List Blk→Gh→Prop):goal_31m (lookV [(163851,.int .i64),(163856,.int .i64)]) (lookB []) e nx key salt Q=(
(bif (decide (e≥(0:Int))) then (bif (decide (e≤(65535:Int))) then (∃n_0:Int,(((AV.int .i64 (Nat.cast (List.length key):Int))=(AV.int .i64 n_0)) ∧
 (bif (n_0==(32:Int)) then (∃n_1:Int,(((AV.int .i64 (Nat.cast (List.length salt):Int))=(AV.int .i64 n_1)) ∧
 (bif (n_1==(12:Int)) then (bif (decide (nx≥(0:Int))) then (bif (decide (nx≤(281474976710656:Int))) then (Q (Out.ret (AV.int .i64 (0:Int))) [] (Gh.mk (0:Nat) (0:Nat) []))
else (Q (Out.ret (AV.int .i64 (170:Int))) [] (Gh.mk (0:Nat) (0:Nat) [])))
else (Q (Out.ret (AV.int .i64 (170:Int))) [] (Gh.mk (0:Nat) (0:Nat) [])))
else (Q (Out.ret (AV.int .i64 (170:Int))) [] (Gh.mk (0:Nat) (0:Nat) [])))))
else (Q (Out.ret (AV.int .i64 (170:Int))) [] (Gh.mk (0:Nat) (0:Nat) [])))))
else (Q (Out.ret (AV.int .i64 (170:Int))) [] (Gh.mk (0:Nat) (0:Nat) [])))
else (Q (Out.ret (AV.int .i64 (170:Int))) [] (Gh.mk (0:Nat) (0:Nat) [])))):=by kernel_rfl

def xorNM (w:List UInt8):Nat→List UInt8→List UInt8
 | 0,s=>s
 | i+1,s=>(xorNM w i s).set (4+i) ((xorNM w i s).getD (4+i) 0 ^^^ w.getD i 0)
def numsNM (b c:Int):List UInt8:=beBM 2 b.toNat++beBM 6 c.toNat
def nonceM (s:List UInt8) (b c:Int):List UInt8:=xorNM (numsNM b c) 8 s
def inv_49m (s w:List UInt8) (a b c:Int) (t:List UInt8):LInv where
 α:=Nat
 pre i:=Lf (i≤w.length)
 st i:=⟨mkT [(5,.sl 1 s.length 0 s.length 1),(17,.sl 2 w.length 0 w.length 1),(18,.int .i64 (w.length:Nat)),(19,.int .i64 (i:Nat))],[⟨.exact,true,[.int .i64 a,.int .i64 b,.int .i64 c,.str t]⟩,⟨.grow,true,ofBytes (xorNM w i s)⟩,⟨.grow,true,ofBytes w⟩]⟩
 mu i:=w.length-i
noncomputable def env_49m (hv:Nat→Option Pa) (hb:Nat→Option Bool) (s w:List UInt8) (a b c:Int) (t:List UInt8):Env:=
 e04 smP (fun i=>bif Nat.beq i 45000 then some (fun _=>[[inv_49m s w a b c t]]) else none) hv hb
noncomputable def goal_49m (hv:Nat→Option Pa) (hb:Nat→Option Bool) (s w:List UInt8) (a b c:Int) (t:List UInt8) (Q:Out→List Blk→Gh→Prop):Prop:=
 callx (env_49m hv hb s w a b c t) (wpx (env_49m hv hb s w a b c t) 1000) 45 [.str s,.agg [.int .i64 a,.int .i64 b,.int .i64 c,.str t]] [] {} Q
theorem vc_49m (s:List UInt8) (w:List UInt8) (a:Int) (b:Int) (c:Int) (t:List UInt8) (Q:Out→List Blk→Gh→Prop):goal_49m (lookV [(184336,.str),(184338,.int .i64),(184341,.int .i64),(184343,.int .u8),(184346,.int
 .i64),(184348,.int .u8),(184350,.int .u8),(184352,.int .i64),(184354,.str)]) (lookB []) s w a b c t Q=(Lf (0≤b∧((2:Int)=(1:Int)∧b≤255∨(2:Int)=(2:Int)∧b≤65535∨(2:Int)=(6:Int)∧b ≤
 281474976710655))∧∀s_0:List UInt8,Lf (s_0=beBM (Int.toNat 2) b.toNat)→ckQ (eqAVL [.int .i64 c] [.int .i64 c]&&true) (Lf (0≤c∧((6:Int)=(1:Int)∧c≤255∨(6:Int)=(2:Int)∧c≤65535∨(6:Int)=(6:Int)∧c ≤
 281474976710655))∧∀s_1:List UInt8,Lf (s_1=beBM (Int.toNat 6) c.toNat)→ckQ (decide (s_0.length+s_1.length≤9223372036854775807)&&true) (exS (.str (s_0++s_1)) fun s_2=>ckQ (Nat.beq (ofBytes s_2).length s_2.length) (exI
 .i64 (s_2.length:Int) fun n_3=>(∃x_4:Nat,Lf (x_4≤w.length)∧eqqQ [AV.int .i64 a,.int .i64 b,.int .i64 c,.str t]∧ckQ (oldL 0 (ofBytes s)==true) (ofBytes s=ofBytes (xorNM w x_4 s)∧ckQ (oldL 0 (ofBytes s_2)==true)
 (ofBytes s_2=ofBytes w∧AV.int .i64 0=AV.int .i64 (x_4:Int)∧eqqQ (AV.sl 1 s.length 0 s.length 1)∧AV.sl 2 s_2.length 0 s_2.length 1=AV.sl 2 w.length 0 w.length 1∧AV.int .i64 n_3=AV.int .i64 (w.length:Int)∧True)))∧∀
 x_4:Nat,Lf (x_4≤w.length)→bif decide ((x_4:Int)<(w.length:Int)) then exI .i64 (x_4:Int) fun n_5=>ckQ (Nat.blt (x_4:Int).toNat w.length&&Nat.beq (ofBytes w).length w.length&&true) (ckQ (Nat.beq (ofBytes w).length
 w.length&&Nat.blt (0+(x_4:Int).toNat*1) w.length) (exV .u8 ((((ofBytes w).drop (0+(x_4:Int).toNat*1)).take 1).getD 0 AV.undef) fun n_6=>exW .i64 (4+n_5) fun n_7=>ckQ (decide (0≤n_7)&&Nat.blt n_7.toNat s.length &&
 Nat.beq (ofBytes (xorNM w x_4 s)).length s.length&&true) (ckQ (Nat.beq (ofBytes (xorNM w x_4 s)).length s.length&&Nat.blt (0+n_7.toNat*1) s.length) (exV .u8 ((((ofBytes (xorNM w x_4 s)).drop (0+n_7.toNat*1)).take 1).getD 0
 AV.undef) fun n_8=>exW .u8 (((n_8%256).toNat ^^^ (n_6%256).toNat:Nat):Int) fun n_9=>ckQ (decide (0≤n_7)&&Nat.blt n_7.toNat s.length&&Nat.beq (ofBytes (xorNM w x_4 s)).length s.length&&true) (ckQ (Nat.beq (ofBytes (xorNM
 w x_4 s)).length s.length&&Nat.ble (0+n_7.toNat*1+1) s.length&&true&&true&&true) (exW .i64 ((x_4:Int)+1) fun n_10=>(True∧(0:Nat)=(0:Nat))∧∃y_11:Nat,Lf (y_11≤w.length)∧w.length-y_11<w.length-x_4 ∧
 eqqQ [AV.int .i64 a,.int .i64 b,.int .i64 c,.str t]∧setRange (ofBytes (xorNM w x_4 s)) (0+n_7.toNat*1) [.int .u8 n_9]=ofBytes (xorNM w y_11 s)∧eqqQ (ofBytes w)∧AV.int .i64 n_10=AV.int .i64 (y_11:Int)∧eqqQ (AV.sl 1
 s.length 0 s.length 1)∧eqqQ (AV.sl 2 w.length 0 w.length 1)∧eqqQ (AV.int .i64 (w.length:Int))∧True)))))) else ckQ (Nat.beq (ofBytes (xorNM w x_4 s)).length s.length&&Nat.ble (0+s.length) s.length&&true&&allU8 (((ofBytes
 (xorNM w x_4 s)).drop 0).take s.length)) (exS (.str (List.map toB (((ofBytes (xorNM w x_4 s)).drop 0).take s.length))) fun s_5=>Q (.ret (.str s_5)) [] {}))))):=by kernel_rfl

theorem window_run (t:Int) (k:Nat) (hk:k<18446744073709551616) (Q:Out→List Blk→Gh→Prop) (hq:Q (.ret (.bool (okWM t k))) [] {}):∃hv hb,goal_42m hv hb t k Q:=by
 obtain ⟨hv,hb',e⟩:∃hv hb,goal_42m hv hb t k Q=_:=⟨_,_,vc_42m t k Q⟩
 refine ⟨hv,hb',e.mpr ?_⟩
 clear e
 have bad:okWM t k=false→Q (.ret (.bool false)) [] {}:=fun h=>by rwa [h] at hq
 have good:okWM t k=true→Q (.ret (.bool true)) [] {}:=fun h=>by rwa [h] at hq
 refine aggW (splitAnd (splitE (fun h1=>splitAnd (splitE (fun h2=>good ?_) (fun h2 => ?_))) (fun h1 => ?_)))
 ·obtain rfl:k=0:=by omega
  subst h1
  rfl
 ·subst h1
  exact splitD (fun h=>absurd h (by omega)) (fun _=>bad (by
   rw[okWM,decide_eq_false (by omega:¬ (0:Int) ≤ -1),show Nat.beq k 0=false by cases hb:Nat.beq k 0 with | false=>rfl | true=>exact absurd (Nat.eq_of_beq_eq_true hb) (by omega)]
   simp))
 ·have hf:(decide (t = -1)&&Nat.beq k 0)=false:=by rw[decide_eq_false h1];rfl
  refine splitD (fun h2=>splitD (fun h3 => ?_) (fun h3=>bad ?_)) (fun h2=>bad ?_)
  ·refine ⟨_,rfl, ?_⟩
   try dsimp only
   rw[show Int.toNat (((k:Nat):Int)%18446744073709551616)=k by omega,and1]
   have hr:(decide ((0:Int)≤t)&&decide (t<281474976710656))=true:=by simp;omega
   refine wrapW (by omega) (splitE (fun h4=>splitD (fun h5=>good ?_) (fun h5=>⟨_,rfl,wrapI (by omega) (by omega) (ckI (by simp;omega) ?_)⟩)) (fun h4=>bad ?_))
   ·rw[okWM,hf,hr,bit0,decide_eq_true (by omega:63≤t)]
    simp;omega
   ·rw[show min (Int.toNat (t+1)) 64=t.toNat+1 by omega,fdiv2]
    refine ⟨_,rfl,splitE (fun h6=>good ?_) (fun h6=>bad ?_)⟩
    ·rw[okWM,hf,hr,bit0,show k/2^(t.toNat+1)=0 by omega]
     simp;omega
    ·rw[okWM,hf,hr,decide_eq_false (by omega:¬ 63≤t),show Nat.beq (k/2^(t.toNat+1)) 0=false by cases hb:Nat.beq (k/2^(t.toNat+1)) 0 with | false=>rfl | true=>exact absurd (Nat.eq_of_beq_eq_true hb) (by omega)]
     simp
   ·rw[okWM,hf,hr,bit0,show (k%2==1)=false by simp;omega]
    simp
  ·rw[okWM,hf,decide_eq_false (by omega:¬ t<281474976710656)]
   simp
  ·rw[okWM,hf,decide_eq_false (by omega:¬ (0:Int)≤t)]
   simp
def cWin:Con
 | [.agg [.int .i64 t,.int .u64 u]],H,K=>∃k:Nat,Lf (u=(k:Int)∧k<18446744073709551616)∧∀b,Lf (b=okWM t k)→K (.ret (.bool b)) H
 | _,_,_=>False
theorem win_ok:ValidF Tryz.prog gl0 42 cWin:=by
 refine valid_flat (enters_of (by kernel_rfl)) gl0_noY fun args H Q hc => ?_
 unfold cWin at hc
 split at hc
 ·rename_i t u
  obtain ⟨k,⟨rfl,h1⟩,hq⟩:=hc
  obtain ⟨hv,hb',h⟩:=window_run t k h1 (Q:=fun o H' _=>H'=[]∧(∃v,o=.ret v∧old 0 v=true∧noY v=true)∧Q o H) ⟨rfl,⟨_,rfl,rfl,rfl⟩,hq _ ⟨rfl⟩⟩
  exact ⟨rfl,rfl,_,1000,envFor04 sm0_ok _ _ _,rfl,h⟩
 ·exact hc.elim
def isFreshM (t:Int) (k:Nat) (q:Int):Bool:=decide (t<q)||(decide (t-64<q) && !bitWM k (t-q).toNat)
theorem fresh_eq {t:Int} {k:Nat} {q:Int} (hok:okWM t k=true) (hq:0≤q∧q<281474976710656):freshWM t k q=0↔isFreshM t k q=true:=by
 unfold freshWM isFreshM
 rw[if_neg (by simp[hok]),if_neg (by omega)]
 by_cases h1:t<q
 ·simp[h1];omega
 ·by_cases h2:t-64<q
  ·cases hb:bitWM k (t-q).toNat<;>simp[h1,h2]<;>omega
  ·rw[if_pos ⟨by omega,.inl (by omega)⟩]
   simp[h1,h2]
theorem isfresh_run (t:Int) (k:Nat) (q:Int) (hk:k<18446744073709551616) (ht : -1≤t∧t<281474976710656) (hqr:0≤q∧q<281474976710656) (Q:Out→List Blk→Gh→Prop) (hq:Q (.ret (.bool (isFreshM t k q))) [] {}):∃hv hb,goal_44m hv hb t k q Q:=by
 obtain ⟨hv,hb',e⟩:∃hv hb,goal_44m hv hb t k q Q=_:=⟨_,_,vc_44m t k q Q⟩
 refine ⟨hv,hb',e.mpr ?_⟩
 clear e
 unfold isFreshM at hq
 refine splitD (fun h1 => ?_) (fun h1=>wrapI (by omega) (by omega) (splitD (fun h2=>⟨_,rfl,wrapI (by omega) (by omega) (ckI (by simp;omega) ?_)⟩) (fun h2 => ?_)))
 ·rw[decide_eq_true (by omega:t<q)] at hq
  exact hq
 ·rw[decide_eq_false (by omega:¬ t<q),decide_eq_true (by omega:t-64<q)] at hq
  rw[show min (Int.toNat (t-q)) 64=(t-q).toNat by omega,fdiv2]
  have hx:=Nat.div_le_self k (2^(t-q).toNat)
  have hbit:bitWM k (t-q).toNat=(k/2^(t-q).toNat%2==1):=rfl
  rw[hbit] at hq
  generalize k/2^(t-q).toNat=x at *
  refine ⟨_,rfl, ?_⟩
  rw[show Int.toNat (((x:Nat):Int)%18446744073709551616)=x by omega,and1]
  refine wrapW (by omega) (splitE (fun h5 => ?_) (fun h5 => ?_))
  ·rw[show (x%2==1)=false by simp;omega] at hq
   exact hq
  ·rw[show (x%2==1)=true by simp;omega] at hq
   exact hq
 ·rw[decide_eq_false (by omega:¬ t<q),decide_eq_false (by omega:¬ t-64<q)] at hq
  exact hq
def cIsFresh:Con
 | [.agg [.int .i64 t,.int .u64 u],.int .i64 q],H,K=>∃k:Nat,Lf (u=(k:Int)∧k<18446744073709551616∧(-1≤t∧t<281474976710656)∧0≤q∧q<281474976710656)∧∀b,Lf (b=isFreshM t k q)→K (.ret (.bool b)) H
 | _,_,_=>False
theorem isfresh_ok:ValidF Tryz.prog gl0 77 cIsFresh:=by
 refine valid_flat (enters_of (by kernel_rfl)) gl0_noY fun args H Q hc => ?_
 unfold cIsFresh at hc
 split at hc
 ·rename_i t u q
  obtain ⟨k,⟨rfl,h1,h2,h3⟩,hq⟩:=hc
  obtain ⟨hv,hb',h⟩:=isfresh_run t k q h1 h2 h3 (Q:=fun o H' _=>H'=[]∧(∃v,o=.ret v∧old 0 v=true∧noY v=true)∧Q o H) ⟨rfl,⟨_,rfl,rfl,rfl⟩,hq _ ⟨rfl⟩⟩
  exact ⟨rfl,rfl,_,1000,envFor04 sm0_ok _ _ _,rfl,h⟩
 ·exact hc.elim
def sndOkM (e nx:Int) (key salt:List UInt8):Bool:=decide (0≤e∧e≤65535)&&decide (key.length=32)&&decide (salt.length=12)&&decide (0≤nx∧nx≤281474976710656)
theorem snd_iff (e nx:Int) (key salt:List UInt8):sndOkM e nx key salt=true↔(0≤e∧e≤65535)∧key.length=32∧salt.length=12∧0≤nx∧nx≤281474976710656:=by
 simp[sndOkM,and_assoc]
def chkM (b:Bool):Int:=if b then 0 else 170
theorem chkS_run (e nx:Int) (key salt:List UInt8) (Q:Out→List Blk→Gh→Prop) (hq:Q (.ret (.int .i64 (chkM (sndOkM e nx key salt)))) [] {}):∃hv hb,goal_31m hv hb e nx key salt Q:=by
 obtain ⟨hv,hb',e'⟩:∃hv hb,goal_31m hv hb e nx key salt Q=_:=⟨_,_,vc_31m e nx key salt Q⟩
 refine ⟨hv,hb',e'.mpr ?_⟩
 clear e'
 have hi:=snd_iff e nx key salt
 have no:¬ ((0≤e∧e≤65535)∧key.length=32∧salt.length=12∧0≤nx∧nx≤281474976710656)→Q (.ret (.int .i64 170)) [] {}:=fun h=>by
  rwa [show sndOkM e nx key salt=false by rw[←Bool.not_eq_true,hi];exact h] at hq
 refine splitD (fun h1=>splitD (fun h2=>⟨_,rfl,splitE (fun h3=>⟨_,rfl,splitE (fun h4=>splitD (fun h5=>splitD (fun h6 => ?_) (fun h=>no (by omega))) (fun h=>no (by omega))) (fun h=>no (by omega))⟩) (fun h=>no (by omega))⟩) (fun h=>no (by omega))) (fun h=>no (by omega))
 rwa [hi.2 (by omega)] at hq
def cChkS:Con
 | [.agg [.int .i64 e,.int .i64 nx,.str key,.str salt]],H,K=>∀x,Lf (x=chkM (sndOkM e nx key salt))→K (.ret (.int .i64 x)) H
 | _,_,_=>False
theorem chkS_ok:ValidF Tryz.prog gl0 17 cChkS:=by
 refine valid_flat (enters_of (by kernel_rfl)) gl0_noY fun args H Q hc => ?_
 unfold cChkS at hc
 split at hc
 ·rename_i e nx key salt
  obtain ⟨hv,hb',h⟩:=chkS_run e nx key salt (Q:=fun o H' _=>H'=[]∧(∃v,o=.ret v∧old 0 v=true∧noY v=true)∧Q o H) ⟨rfl,⟨_,rfl,rfl,rfl⟩,hc _ ⟨rfl⟩⟩
  exact ⟨rfl,rfl,_,1000,envFor04 sm0_ok _ _ _,rfl,h⟩
 ·exact hc.elim
theorem xorN_len (w:List UInt8):∀i s,(xorNM w i s).length=s.length
 | 0,s=>rfl
 | i+1,s=>by rw[xorNM,List.length_set,xorN_len w i s]
theorem nonce_len (s:List UInt8) (b c:Int):(nonceM s b c).length=s.length:=xorN_len _ _ _
theorem xor_u8 (a b:UInt8):IntKind.wrap .u8 ((((a.toNat:Int)%256).toNat ^^^ ((b.toNat:Int)%256).toNat:Nat):Int)=((a ^^^ b).toNat:Int):=by
 have h1:((a.toNat:Int)%256).toNat=a.toNat:=by have:=a.toNat_lt;omega
 have h2:((b.toNat:Int)%256).toNat=b.toNat:=by have:=b.toNat_lt;omega
 rw[h1,h2,UInt8.toNat_xor]
 have h3:a.toNat ^^^ b.toNat<2^8:=Nat.xor_lt_two_pow a.toNat_lt b.toNat_lt
 show ((a.toNat ^^^ b.toNat:Nat):Int)%256=_
 omega
theorem nonce_run (s:List UInt8) (a b c:Int) (t:List UInt8) (hs:s.length=12) (hb:0≤b∧b≤65535) (hc:0≤c∧c≤281474976710655) (Q:Out→List Blk→Gh→Prop) (hq:Q (.ret (.str (nonceM s b c))) [] {}):∃hv hb,goal_49m hv hb s (numsNM b c) a b c t Q:=by
 have hwl:(numsNM b c).length=8:=by rw[numsNM,List.length_append,be_len,be_len]
 have hw:numsNM b c=beBM 2 b.toNat++beBM 6 c.toNat:=rfl
 rw[nonceM] at hq
 generalize numsNM b c=w at *
 obtain ⟨hv,hb',e'⟩:∃hv hb,goal_49m hv hb s w a b c t Q=_:=⟨_,_,vc_49m s w a b c t Q⟩
 refine ⟨hv,hb',e'.mpr ?_⟩
 clear e'
 refine ⟨⟨hb.1,.inr (.inl ⟨rfl,hb.2⟩)⟩, ?_⟩
 rintro s0 ⟨e0⟩
 refine ckI (by rw[eqAVL_i];rfl) ⟨⟨hc.1,.inr (.inr ⟨rfl,hc.2⟩)⟩, ?_⟩
 rintro s1 ⟨e1⟩
 have hws:s0++s1=w:=by rw[e0,e1,hw];rfl
 rw[hws]
 have hl01:s0.length+s1.length=8:=by rw[←hwl,←hws,List.length_append]
 refine ckI (by rw[hl01];rfl) ⟨w,rfl,ckI (by rw[ofB_len];simp) ⟨_,rfl, ?_, ?_⟩⟩
 ·refine ⟨0,⟨by omega⟩,rfl, ?_⟩
  rw[oldL_ofB,oldL_ofB]
  exact ⟨rfl,rfl,rfl,rfl,rfl,rfl,trivial⟩
 ·rintro i ⟨h1⟩
  have hxl:=xorN_len w i s
  have hol:(ofBytes (xorNM w i s)).length=s.length:=by rw[ofB_len,hxl]
  have hwo:=ofB_len w
  refine splitD (fun h2 => ?_) (fun h2 => ?_)
  ·refine ⟨_,rfl,ckI (by rw[hwo];simp;omega) (ckI (by rw[hwo];simp;omega) (ldB (j:=i) (by omega) (by simp) (wrapI (by omega) (by omega) (ckI (by rw[hol];simp;omega) (ckI (by rw[hol];simp;omega) (ldB (j:=4+i) (by omega) (by omega) ?_))))))⟩
   try dsimp only[exW,exI,exV]
   rw[xor_u8]
   refine ⟨_,rfl,ckI (by rw[hol];simp;omega) (ckI (by rw[hol];simp;omega) (wrapI (by omega) (by omega) ⟨⟨trivial,rfl⟩,i+1,⟨by omega⟩,by omega,rfl, ?_,rfl,rfl,rfl,rfl,rfl,trivial⟩))⟩
   exact stB (j:=4+i) (by omega) (by omega)
  ·have hi:i=8:=by omega
   subst hi
   refine ckI (by rw[hol,allU8_take];simp) ⟨_,rfl, ?_⟩
   rw[strB (by omega) rfl]
   exact hq
def cNonce:Con
 | [.str s,.agg [.int .i64 a,.int .i64 b,.int .i64 c,.str t]],H,K=>Lf (s.length=12∧(0≤b∧b≤65535)∧(0≤c∧c≤281474976710655))∧∀x,Lf (x=nonceM s b c)→K (.ret (.str x)) H
 | _,_,_=>False
theorem nonce_ok:ValidF Tryz.prog gl0 45 cNonce:=by
 refine valid_flat (enters_of (by kernel_rfl)) gl0_noY fun args H Q hc => ?_
 unfold cNonce at hc
 split at hc
 ·rename_i s a b c t
  obtain ⟨⟨h1,h2,h3⟩,hq⟩:=hc
  obtain ⟨hv,hb',h⟩:=nonce_run s a b c t h1 h2 h3 (Q:=fun o H' _=>H'=[]∧(∃v,o=.ret v∧old 0 v=true∧noY v=true)∧Q o H) ⟨rfl,⟨_,rfl,rfl,rfl⟩,hq _ ⟨rfl⟩⟩
  exact ⟨rfl,rfl,_,1000,envFor04 smP_ok _ _ _,rfl,h⟩
 ·exact hc.elim
def boxM (e nx:Int) (key salt:List UInt8) (kind:Int) (body:List UInt8):List UInt8:=headM (kind,e,nx,[]) ((body.length:Int)+16)++(sealM key (nonceM salt e nx) (headM (kind,e,nx,[]) ((body.length:Int)+16)) body).1
def smS:SM:=lookS [(17,cChkS),(43,cHead),(44,cSeal),(45,cNonce)]
theorem smS_ok:∀f g,smS f=some g→ValidF Tryz.prog gl0 f g:=lookS_ok _ (by simp only[List.mem_cons,List.not_mem_nil,or_false,forall_eq_or_imp,forall_eq];exact ⟨chkS_ok,head_ok,seal_ok,nonce_ok⟩)
noncomputable def goal_26m (hv:Nat→Option Pa) (hb:Nat→Option Bool) (e nx:Int) (key salt:List UInt8) (kind:Int) (body:List UInt8) (Q:Out→List Blk→Gh→Prop):Prop:=
 callx (e04 smS (fun _=>none) hv hb) (wpx (e04 smS (fun _=>none) hv hb) 1000) 19 [.agg [.int .i64 e,.int .i64 nx,.str key,.str salt],.int .i64 kind,.str body] [] {} Q
theorem vc_26m (e:Int) (nx:Int) (key:List UInt8) (salt:List UInt8) (kind:Int) (body:List UInt8) (Q:Out→List Blk→Gh→Prop):goal_26m (lookV [(77849,.int .i64),(77865,.int .i64),(77866,.int .i64),(77882,.int .i64),
 (77887,.str)]) (lookB []) e nx key salt kind body Q=(∀x_0:Int,Lf (x_0=chkM (sndOkM e nx key salt))→bif x_0 !=0 then Q (.ret (.tup [.agg [.int .i64 0,.int .i64 0,.str [],.str []],.str [],.int .i64 170])) [] {} else bif
 decide (kind≥0) then bif decide (kind≤255) then exI .i64 (body.length:Int) fun n_1=>bif decide (n_1>984) then Q (.ret (.tup [.agg [.int .i64 0,.int .i64 0,.str [],.str []],.str [],.int .i64 3])) [] {} else bif nx ==
 281474976710656 then Q (.ret (.tup [.agg [.int .i64 0,.int .i64 0,.str [],.str []],.str [],.int .i64 6])) [] {} else exI .i64 (body.length:Int) fun n_2=>exW .i64 (n_2+16) fun n_3=>Lf (numsOk (Prod.mk kind (Prod.mk e (Prod.mk
 nx [])))∧0≤n_3∧n_3≤65535)∧∀t_4:List UInt8,Lf (t_4=headM (Prod.mk kind (Prod.mk e (Prod.mk nx []))) n_3)→Lf (salt.length=12∧(0≤e∧e≤65535)∧0≤nx∧nx≤281474976710655)∧∀x_5:List UInt8,Lf (x_5=nonceM
 salt e nx)→ckQ (eqAVL [.str key] [.str key]&&true) (∀t_6:List UInt8,∀e_7:Int,Lf (sealM key x_5 t_4 body=Prod.mk t_6 e_7)→exW .i64 (nx+1) fun n_8=>ckQ (decide (t_4.length+t_6.length≤9223372036854775807)&&true) (exS
 (.str (t_4++t_6)) fun s_9=>Q (.ret (.tup [.agg [.int .i64 e,.int .i64 n_8,.str key,.str salt],.str s_9,.int .i64 0])) [] {})) else Q (.ret (.tup [.agg [.int .i64 0,.int .i64 0,.str [],.str []],.str [],.int .i64 2])) [] {}
 else Q (.ret (.tup [.agg [.int .i64 0,.int .i64 0,.str [],.str []],.str [],.int .i64 2])) [] {}):=by kernel_rfl

theorem right17 {key nonce:List UInt8} (h1:key.length=32) (h2:nonce.length=12):rightM key nonce 0=true:=by simp[rightM,h1,h2]
theorem sealed17 {key nonce extra plain:List UInt8} (h1:key.length=32) (h2:nonce.length=12) (h3:extra.length≤4096) (h4:plain.length≤4096) :
  sealM key nonce extra plain=(appM (firstM key nonce) 1 70 plain++checkM key nonce extra (appM (firstM key nonce) 1 70 plain),0):=by
 rw[sealM,if_neg (by rw[right17 h1 h2];simp),if_neg (by omega)]
theorem sealed17_len {key nonce extra plain:List UInt8} (h1:key.length=32) (h2:nonce.length=12) (h3:extra.length≤4096) (h4:plain.length≤4096):(sealM key nonce extra plain).1.length=plain.length+16:=by
 rw[sealed17 h1 h2 h3 h4]
 dsimp only
 rw[List.length_append,check_len,app_len _ _ _ _ (by omega)]
theorem box_len {e nx:Int} {key salt:List UInt8} {kind:Int} {body:List UInt8} (h1:key.length=32) (h2:salt.length=12) (h4:body.length≤984):(boxM e nx key salt kind body).length=body.length+27:=by
 rw[boxM,List.length_append,head_len,sealed17_len h1 (by rw[nonce_len];exact h2) (by rw[head_len];omega) (by omega)]
 omega
def cSealR:Con
 | [.agg [.int .i64 e,.int .i64 nx,.str key,.str salt],.int .i64 kind,.str body],H,K=>Lf (sndOkM e nx key salt=true∧nx≤281474976710655∧(0≤kind∧kind≤255)∧body.length≤984) ∧
   ∀box,Lf (box=boxM e nx key salt kind body)→K (.ret (.tup [.agg [.int .i64 e,.int .i64 (nx+1),.str key,.str salt],.str box,.int .i64 0])) H
 | _,_,_=>False
theorem sealR_run (e nx:Int) (key salt:List UInt8) (kind:Int) (body:List UInt8) (h1:sndOkM e nx key salt=true) (h2:nx≤281474976710655) (h3:0≤kind∧kind≤255) (h4:body.length≤984) (Q:Out→List Blk→Gh→Prop)
  (hq:Q (.ret (.tup [.agg [.int .i64 e,.int .i64 (nx+1),.str key,.str salt],.str (boxM e nx key salt kind body),.int .i64 0])) [] {}):∃hv hb,goal_26m hv hb e nx key salt kind body Q:=by
 obtain ⟨hv,hb',e'⟩:∃hv hb,goal_26m hv hb e nx key salt kind body Q=_:=⟨_,_,vc_26m e nx key salt kind body Q⟩
 refine ⟨hv,hb',e'.mpr ?_⟩
 clear e'
 rintro x ⟨rfl⟩
 obtain ⟨k1,k2,k3,k4,k5⟩:=(snd_iff e nx key salt).1 h1
 rw[h1]
 refine splitNE (fun h=>absurd rfl h) (fun _=>splitD (fun _=>splitD (fun _=>⟨_,rfl,splitD (fun h=>absurd h (by omega)) (fun _=>splitE (fun h=>absurd h (by omega)) (fun _=>⟨_,rfl,wrapI (by omega) (by omega) ⟨⟨⟨h3,k1,k4,h2⟩,by omega,by omega⟩, ?_⟩⟩))⟩) (fun h=>absurd h (by omega))) (fun h=>absurd h (by omega)))
 rintro t ⟨ht⟩
 refine ⟨⟨k3,k1,k4,h2⟩, ?_⟩
 rintro x ⟨hx⟩
 refine ckI (by simp[eqAVL,eqAV,eqB_refl]) ?_
 rintro u f ⟨hu⟩
 have hul:=sealed17_len (key:=key) (nonce:=x) (extra:=t) (plain:=body) k2 (by rw[hx,nonce_len];exact k3) (by rw[ht,head_len];omega) (by omega)
 have htl:t.length=11:=by rw[ht];exact head_len _ _
 have hb:t++u=boxM e nx key salt kind body:=by rw[boxM,←ht,←hx,hu]
 rw[hu] at hul
 dsimp only at hul
 refine wrapI (by omega) (by omega) (ckI (by simp;omega) ⟨_,rfl, ?_⟩)
 rw[hb]
 exact hq
theorem sealR_ok:ValidF Tryz.prog gl0 19 cSealR:=by
 refine valid_flat (enters_of (by kernel_rfl)) gl0_noY fun args H Q hc => ?_
 unfold cSealR at hc
 split at hc
 ·rename_i e nx key salt kind body
  obtain ⟨⟨h1,h2,h3,h4⟩,hq⟩:=hc
  obtain ⟨hv,hb',h⟩:=sealR_run e nx key salt kind body h1 h2 h3 h4 (Q:=fun o H' _=>H'=[]∧(∃v,o=.ret v∧old 0 v=true∧noY v=true)∧Q o H) ⟨rfl,⟨_,rfl,rfl,rfl⟩,hq _ ⟨rfl⟩⟩
  exact ⟨rfl,rfl,_,1000,envFor04 smS_ok _ _ _,rfl,h⟩
 ·exact hc.elim
end Go.Proofs.YtjenieljapmehaaGreatDoor.Rc

set_option linter.unusedSimpArgs false
set_option linter.unusedVariables false
set_option linter.unusedSectionVars false
namespace Go.Proofs.YtjenieljapmehaaGreatDoor.Rc
open Go.RowKit
set_option maxRecDepth 1000000

theorem bitW_test (k i:Nat):bitWM k i=k.testBit i:=by
 rw[Nat.testBit_eq_decide_div_mod_eq,bitWM]
 by_cases h:k/2^i%2=1
 ·rw[h];rfl
 ·rw[decide_eq_false h];simpa using h
theorem high_zero {t:Int} {k:Nat} (hk:k<18446744073709551616) (ht:0≤t):(63≤t∨k/2^(t.toNat+1)=0)↔∀j:Nat,j<64→t<(j:Int)→bitWM k j=false:=by
 constructor
 ·rintro (h | h) j hj htj
  ·omega
  ·rw[bitW_test]
   have h1:k<2^(t.toNat+1):=by
    rcases Nat.div_eq_zero_iff.1 h with h | h
    ·have:=Nat.two_pow_pos (t.toNat+1);omega
    ·exact h
   exact Nat.testBit_lt_two_pow (Nat.lt_of_lt_of_le h1 (Nat.pow_le_pow_right (by omega) (by omega)))
 ·intro h
  by_cases h63:63≤t
  ·exact .inl h63
  ·refine .inr (Nat.div_eq_of_lt (Nat.lt_pow_two_of_testBit k fun j hj => ?_))
   by_cases h64:j<64
   ·rw[←bitW_test];exact h j h64 (by omega)
   ·exact Nat.testBit_lt_two_pow (Nat.lt_of_lt_of_le (show k<2^64 from hk) (Nat.pow_le_pow_right (by omega) (by omega)))
theorem ok_iff {t:Int} {k:Nat} (hk:k<18446744073709551616) (h1:t ≠ -1) (h2:0≤t) (h3:t<281474976710656):okWM t k=true↔bitWM k 0=true∧∀j:Nat,j<64→t<(j:Int)→bitWM k j=false:=by
 rw[←high_zero hk h2]
 unfold okWM
 rw[decide_eq_false h1,decide_eq_true h2,decide_eq_true h3]
 simp[nbeq]
end Go.Proofs.YtjenieljapmehaaGreatDoor.Rc

/-
  Chapter 17: senders and receivers: what is checked; nonces; Seal of records.
-/
import Derived.Test.YtiholnebhmjbjaaGreatZ17D
import Derived.Test.YtiholnebhmjbjaaGreatZ17J
set_option linter.unusedSimpArgs false
set_option linter.unusedVariables false
set_option linter.unusedSectionVars false
namespace Go.Proofs.YtiholnebhmjbjaaGreat
open Go.RowKit
set_option maxRecDepth 1000000

noncomputable def goal_42m (hv:Nat→Option Pa) (hb:Nat→Option Bool) (t:Int) (k:Nat) (Q:Out→List Blk→Gh→Prop):Prop:=
 callx (e04 sm0 (fun _=>none) hv hb) (wpx (e04 sm0 (fun _=>none) hv hb) 1000) 42 [.agg [.int .i64 t,.int .u64 (k:Nat)]] [] {} Q
abbrev z7M3:Out:=.ret (.bool false)
theorem vc_42m (t:Int) (k:Nat) (Q:Out→List Blk→Gh→Prop):goal_42m (lookV [(172035,.agg [(.int .i64),(.int .u64)]),(172043,.int .u64),(172044,.int .u64),(172053,.int .u64),(172056,.int .i64),(172057,.int .u64)]) (lookB []) t k Q=(∃n_0 n_1,AV.agg [.int .i64 t,.int .u64 (k:Int)]=AV.agg [.int .i64 n_0,.int .u64 n_1]∧bif n_0 == -1&&(n_1==0&&true) then Q (.ret (.bool true)) [] {} else bif decide (t≥0) then bif decide (t≤281474976710655) then exI .u64 (k:Int) (fun n_2=>exW .u64 (((n_2%18446744073709551616).toNat &&& 1:Nat):Int) (fun n_3=>bif n_3==1 then bif decide (t≥63) then Q (.ret (.bool true)) [] {} else exI .u64 (k:Int) (fun n_4=>exW .i64 (t+1) (fun n_5=>ckQ (decide (0≤n_5)&&true) (exI .u64 (Int.fdiv n_4 ((2:Int)^Min.min n_5.toNat 64)) (fun n_6=>bif n_6==0 then Q (.ret (.bool true)) [] {} else Q z7M3 [] {})))) else Q z7M3 [] {})) else Q z7M3 [] {} else Q z7M3 [] {}):=by kernel_rfl

noncomputable def goal_44m (hv:Nat→Option Pa) (hb:Nat→Option Bool) (t:Int) (k:Nat) (q:Int) (Q:Out→List Blk→Gh→Prop):Prop:=
 callx (e04 sm0 (fun _=>none) hv hb) (wpx (e04 sm0 (fun _=>none) hv hb) 1000) 53 [.agg [.int .i64 t,.int .u64 (k:Nat)],.int .i64 q] [] {} Q
theorem vc_44m (t:Int) (k:Nat) (q:Int) (Q:Out→List Blk→Gh→Prop):goal_44m (lookV [(217100,.int .i64),(217104,.int .u64),(217108,.int .i64),(217109,.int .u64),(217110,.int .u64)]) (lookB []) t k q Q=(
(bif (decide (q>t)) then (Q (Out.ret (AV.bool true)) [] (Gh.mk (0:Nat) (0:Nat) []))
else (∃n_0:Int,(((AV.int .i64 (IntKind.wrap .i64 (t-(64:Int))))=(AV.int .i64 n_0)) ∧
 (bif (decide (q>n_0)) then (∃n_1:Int,(((AV.int .u64 (Nat.cast k:Int))=(AV.int .u64 n_1)) ∧
 (∃n_2:Int,(((AV.int .i64 (IntKind.wrap .i64 (t-q)))=(AV.int .i64 n_2)) ∧
 (bif ((decide ((0:Int)≤n_2))&&true) then (∃n_3:Int,(((AV.int .u64 (Int.fdiv n_1 ((2:Int)^(Min.min (Int.toNat n_2) (64:Nat)))))=(AV.int .u64 n_3)) ∧
 (∃n_4:Int,(((AV.int .u64 (IntKind.wrap .u64 (Nat.cast ((Int.toNat (n_3%(18446744073709551616:Int))) &&& (1:Nat)):Int)))=(AV.int .u64 n_4)) ∧
 (bif (n_4==(0:Int)) then (Q (Out.ret (AV.bool true)) [] (Gh.mk (0:Nat) (0:Nat) []))
else (Q (Out.ret (AV.bool false)) [] (Gh.mk (0:Nat) (0:Nat) [])))))))
else False)))))
else (Q (Out.ret (AV.bool false)) [] (Gh.mk (0:Nat) (0:Nat) []))))))):=by kernel_rfl

def xorNM (w:List UInt8):Nat→List UInt8→List UInt8
 | 0,s=>s
 | i+1,s=>(xorNM w i s).set (4+i) ((xorNM w i s).getD (4+i) 0 ^^^ w.getD i 0)
def numsNM (b c:Int):List UInt8:=beBM 2 b.toNat++beBM 6 c.toNat
def nonceM (s:List UInt8) (b c:Int):List UInt8:=xorNM (numsNM b c) 8 s
def inv_49m (s w:List UInt8) (a b c:Int) (t:List UInt8):LInv where
 α:=Nat
 pre i:=Lf (i≤w.length)
 st i:=⟨mkT [(5,.sl 1 s.length 0 s.length 1),(17,.sl 2 w.length 0 w.length 1),(18,.int .i64 (w.length:Nat)),(19,.int .i64 (i:Nat))],[⟨.exact,true,[.int .i64 a,.int .i64 b,.int .i64 c,.str t]⟩,⟨.grow,true,ofBytes (xorNM w i s)⟩,⟨.grow,true,ofBytes w⟩]⟩
 mu i:=w.length-i
noncomputable def env_49m (hv:Nat→Option Pa) (hb:Nat→Option Bool) (s w:List UInt8) (a b c:Int) (t:List UInt8):Env:=
 e04 smP (fun i=>bif Nat.beq i 33000 then some (fun _=>[[inv_49m s w a b c t]]) else none) hv hb
noncomputable def goal_49m (hv:Nat→Option Pa) (hb:Nat→Option Bool) (s w:List UInt8) (a b c:Int) (t:List UInt8) (Q:Out→List Blk→Gh→Prop):Prop:=
 callx (env_49m hv hb s w a b c t) (wpx (env_49m hv hb s w a b c t) 1000) 33 [.str s,.agg [.int .i64 a,.int .i64 b,.int .i64 c,.str t]] [] {} Q
abbrev z7M1 (w:List UInt8) (x_4:Nat) (s:List UInt8):Bool:=Nat.beq (ofBytes (xorNM w x_4 s)).length s.length
theorem vc_49m (s:List UInt8) (w:List UInt8) (a:Int) (b:Int) (c:Int) (t:List UInt8) (Q:Out→List Blk→Gh→Prop):goal_49m (lookV [(135184,.str),(135186,.int .i64),(135189,.int .i64),(135191,.int .u8),(135194,.int
 .i64),(135196,.int .u8),(135198,.int .u8),(135200,.int .i64),(135202,.str)]) (lookB []) s w a b c t Q=(Lf (0≤b∧((2:Int)=(1:Int)∧b≤255∨(2:Int)=(2:Int)∧b≤65535∨(2:Int)=(6:Int)∧b ≤
 281474976710655))∧∀s_0:List UInt8,Lf (s_0=beBM (Int.toNat 2) b.toNat)→ckQ (eqAVL [.int .i64 c] [.int .i64 c]&&true) (Lf (0≤c∧((6:Int)=(1:Int)∧c≤255∨(6:Int)=(2:Int)∧c≤65535∨(6:Int)=(6:Int)∧c ≤
 281474976710655))∧∀s_1:List UInt8,Lf (s_1=beBM (Int.toNat 6) c.toNat)→ckQ (decide (s_0.length+s_1.length≤9223372036854775807)&&true) (exS (.str (s_0++s_1)) (fun s_2=>ckQ (Nat.beq (ofBytes s_2).length s_2.length) (exI
 .i64 (s_2.length:Int) (fun n_3=>(∃x_4:Nat,Lf (x_4≤w.length)∧eqqQ [AV.int .i64 a,.int .i64 b,.int .i64 c,.str t]∧ckQ (oldL 0 (ofBytes s)==true) (ofBytes s=ofBytes (xorNM w x_4 s)∧ckQ (oldL 0 (ofBytes s_2)==true)
 (ofBytes s_2=ofBytes w∧AV.int .i64 0=AV.int .i64 (x_4:Int)∧eqqQ (AV.sl 1 s.length 0 s.length 1)∧AV.sl 2 s_2.length 0 s_2.length 1=AV.sl 2 w.length 0 w.length 1∧AV.int .i64 n_3=AV.int .i64 (w.length:Int)∧True)))∧∀
 x_4:Nat,Lf (x_4≤w.length)→bif decide ((x_4:Int)<(w.length:Int)) then exI .i64 (x_4:Int) (fun n_5=>ckQ (Nat.blt (x_4:Int).toNat w.length&&Nat.beq (ofBytes w).length w.length&&true) (ckQ (Nat.beq (ofBytes w).length
 w.length&&Nat.blt (0+(x_4:Int).toNat*1) w.length) (exV .u8 ((((ofBytes w).drop (0+(x_4:Int).toNat*1)).take 1).getD 0 AV.undef) (fun n_6=>exW .i64 (4+n_5) (fun n_7=>ckQ (decide (0≤n_7)&&Nat.blt n_7.toNat s.length &&
 z7M1 w x_4 s&&true) (ckQ (z7M1 w x_4 s&&Nat.blt (0+n_7.toNat*1) s.length) (exV .u8 ((((ofBytes (xorNM w x_4 s)).drop (0+n_7.toNat*1)).take 1).getD 0 AV.undef) (fun n_8=>exW .u8 (((n_8%256).toNat ^^^ (n_6%256).toNat:Nat)
 : Int) (fun n_9=>ckQ (decide (0≤n_7)&&Nat.blt n_7.toNat s.length&&z7M1 w x_4 s&&true) (ckQ (z7M1 w x_4 s&&Nat.ble (0+n_7.toNat*1+1) s.length&&true&&true&&true) (exW .i64 ((x_4:Int)+1) (fun n_10=>(True∧(0 :
 Nat)=(0:Nat))∧∃y_11:Nat,Lf (y_11≤w.length)∧w.length-y_11<w.length-x_4∧eqqQ [AV.int .i64 a,.int .i64 b,.int .i64 c,.str t]∧setRange (ofBytes (xorNM w x_4 s)) (0+n_7.toNat*1) [.int .u8 n_9]=ofBytes (xorNM w
 y_11 s)∧eqqQ (ofBytes w)∧AV.int .i64 n_10=AV.int .i64 (y_11:Int)∧eqqQ (AV.sl 1 s.length 0 s.length 1)∧eqqQ (AV.sl 2 w.length 0 w.length 1)∧eqqQ (AV.int .i64 (w.length:Int))∧True)))))))))))) else ckQ (z7M1 w x_4 s &&
 Nat.ble (0+s.length) s.length&&true&&allU8 (((ofBytes (xorNM w x_4 s)).drop 0).take s.length)) (exS (.str (List.map toB (((ofBytes (xorNM w x_4 s)).drop 0).take s.length))) (fun s_5=>Q (.ret (.str s_5)) [] {})))))))):=by
 kernel_rfl

noncomputable def goal_24m (hv:Nat→Option Pa) (hb:Nat→Option Bool) (ep st kk sk:Int) (z:AV) (Q:Out→List Blk→Gh→Prop):Prop:=
 callx (e04 smTx (fun _=>none) hv hb) (wpx (e04 smTx (fun _=>none) hv hb) 1000) 6 [.agg [.int .u16 ep,.int .u16 st,.int .u8 kk,.int .u8 sk,z]] [] {} Q
abbrev z7M2 (st:Int):Bool:=eqAVL [.int .u16 st] [.int .u16 st]&&true
theorem vc_24m (ep:Int) (st:Int) (kk:Int) (sk:Int) (z:AV) (Q:Out→List Blk→Gh→Prop):goal_24m (lookV [(24581,.int .u16),(24582,.int .i64),(24585,.int .i64),(24588,.int .u8),(24592,.int .u8),(24593,.int .u8)]) (lookB []) ep st kk sk z Q=(exI .u16 (ep.tmod 4) (fun n_0=>exW .i64 n_0 (fun n_1=>exW .i64 st (fun n_2=>exI .u8 (kk.tmod 4) (fun n_3=>exI .u8 (sk.tmod 3) (fun n_4=>exW .u8 (100+n_4) (fun n_5=>Lf ((0:Int)≤(32:Int)∧(32:Int)≤(1000:Int))∧∀t_6:List UInt8,Lf (t_6.length=Int.toNat 32)→ckQ (eqAVL [.int .u8 sk] [.int .u8 sk]&&true) (ckQ (z7M2 st) (ckQ (z7M2 ep) (Lf ((0:Int)≤(12:Int)∧(12:Int)≤(1000:Int))∧∀t_7:List UInt8,Lf (t_7.length=Int.toNat 12)→ckQ (z7M2 st) (ckQ (z7M2 ep) (Q (.ret (.agg [.int .i64 n_1,.int .i64 n_2,.str t_6,.str t_7])) [] {})))))))))))):=by kernel_rfl

theorem window_run (t:Int) (k:Nat) (hk:k<18446744073709551616) (Q:Out→List Blk→Gh→Prop) (hq:Q (.ret (.bool (okWM t k))) [] {}):∃hv hb,goal_42m hv hb t k Q:=by
 obtain ⟨hv,hb',e⟩:∃hv hb,goal_42m hv hb t k Q=_:=⟨_,_,vc_42m t k Q⟩
 refine ⟨hv,hb',e.mpr ?_⟩
 delta z7M3
 clear e
 have bad:okWM t k=false→Q (.ret (.bool false)) [] {}:=fun h=>by rwa [h] at hq
 have good:okWM t k=true→Q (.ret (.bool true)) [] {}:=fun h=>by rwa [h] at hq
 refine aggW (splitAnd (splitE (fun h1=>splitAnd (splitE (fun h2=>good ?_) (fun h2 => ?_))) (fun h1 => ?_)))
 ·obtain rfl:k=0:=by omega
  subst h1
  rfl
 ·subst h1
  exact splitD (fun h=>absurd h (by omega)) (fun _=>bad (by
   rw[okWM,decide_eq_false (by omega:¬ (0:Int) ≤ -1),show Nat.beq k 0=false by cases hb:Nat.beq k 0 with | false=>rfl | true=>exact absurd (Nat.eq_of_beq_eq_true hb) (by omega)]
   simp))
 ·have hf:(decide (t = -1)&&Nat.beq k 0)=false:=by rw[decide_eq_false h1];rfl
  refine splitD (fun h2=>splitD (fun h3 => ?_) (fun h3=>bad ?_)) (fun h2=>bad ?_)
  ·refine ⟨_,rfl, ?_⟩
   try dsimp only
   rw[show Int.toNat (((k:Nat):Int)%18446744073709551616)=k by omega,and1]
   have hr:(decide ((0:Int)≤t)&&decide (t<281474976710656))=true:=by simp;omega
   refine wrapW (by omega) (splitE (fun h4=>splitD (fun h5=>good ?_) (fun h5=>⟨_,rfl,wrapI (by omega) (by omega) (ckI (by simp;omega) ?_)⟩)) (fun h4=>bad ?_))
   ·rw[okWM,hf,hr,bit0,decide_eq_true (by omega:63≤t)]
    simp;omega
   ·rw[show min (Int.toNat (t+1)) 64=t.toNat+1 by omega,fdiv2]
    refine ⟨_,rfl,splitE (fun h6=>good ?_) (fun h6=>bad ?_)⟩
    ·rw[okWM,hf,hr,bit0,show k/2^(t.toNat+1)=0 by omega]
     simp;omega
    ·rw[okWM,hf,hr,decide_eq_false (by omega:¬ 63≤t),show Nat.beq (k/2^(t.toNat+1)) 0=false by cases hb:Nat.beq (k/2^(t.toNat+1)) 0 with | false=>rfl | true=>exact absurd (Nat.eq_of_beq_eq_true hb) (by omega)]
     simp
   ·rw[okWM,hf,hr,bit0,show (k%2==1)=false by simp;omega]
    simp
  ·rw[okWM,hf,decide_eq_false (by omega:¬ t<281474976710656)]
   simp
  ·rw[okWM,hf,decide_eq_false (by omega:¬ (0:Int)≤t)]
   simp
def cWin:Con
 | [.agg [.int .i64 t,.int .u64 u]],H,K=>∃k:Nat,Lf (u=(k:Int)∧k<18446744073709551616)∧∀b,Lf (b=okWM t k)→K (.ret (.bool b)) H
 | _,_,_=>False
theorem win_ok:ValidF Tryz.prog gl0 42 cWin:=by
 refine valid_flat (enters_of (by kernel_rfl)) gl0_noY fun args H Q hc => ?_
 unfold cWin at hc
 split at hc
 ·rename_i t u
  obtain ⟨k,⟨rfl,h1⟩,hq⟩:=hc
  obtain ⟨hv,hb',h⟩:=window_run t k h1 (Q:=fun o H' _=>H'=[]∧(∃v,o=.ret v∧old 0 v=true∧noY v=true)∧Q o H) ⟨rfl,⟨_,rfl,rfl,rfl⟩,hq _ ⟨rfl⟩⟩
  exact ⟨rfl,rfl,_,1000,envFor04 sm0_ok _ _ _,rfl,h⟩
 ·exact hc.elim
def isFreshM (t:Int) (k:Nat) (q:Int):Bool:=decide (t<q)||(decide (t-64<q) && !bitWM k (t-q).toNat)
theorem fresh_eq {t:Int} {k:Nat} {q:Int} (hok:okWM t k=true) (hq:0≤q∧q<281474976710656):freshWM t k q=0↔isFreshM t k q=true:=by
 unfold freshWM isFreshM
 rw[if_neg (by simp[hok]),if_neg (by omega)]
 by_cases h1:t<q
 ·simp[h1];omega
 ·by_cases h2:t-64<q
  ·cases hb:bitWM k (t-q).toNat<;>simp[h1,h2]<;>omega
  ·rw[if_pos ⟨by omega,.inl (by omega)⟩]
   simp[h1,h2]
theorem isfresh_run (t:Int) (k:Nat) (q:Int) (hk:k<18446744073709551616) (ht : -1≤t∧t<281474976710656) (hqr:0≤q∧q<281474976710656) (Q:Out→List Blk→Gh→Prop) (hq:Q (.ret (.bool (isFreshM t k q))) [] {}):∃hv hb,goal_44m hv hb t k q Q:=by
 obtain ⟨hv,hb',e⟩:∃hv hb,goal_44m hv hb t k q Q=_:=⟨_,_,vc_44m t k q Q⟩
 refine ⟨hv,hb',e.mpr ?_⟩
 clear e
 unfold isFreshM at hq
 refine splitD (fun h1 => ?_) (fun h1=>wrapI (by omega) (by omega) (splitD (fun h2=>⟨_,rfl,wrapI (by omega) (by omega) (ckI (by simp;omega) ?_)⟩) (fun h2 => ?_)))
 ·rw[decide_eq_true (by omega:t<q)] at hq
  exact hq
 ·rw[decide_eq_false (by omega:¬ t<q),decide_eq_true (by omega:t-64<q)] at hq
  rw[show min (Int.toNat (t-q)) 64=(t-q).toNat by omega,fdiv2]
  have hx:=Nat.div_le_self k (2^(t-q).toNat)
  have hbit:bitWM k (t-q).toNat=(k/2^(t-q).toNat%2==1):=rfl
  rw[hbit] at hq
  generalize k/2^(t-q).toNat=x at *
  refine ⟨_,rfl, ?_⟩
  rw[show Int.toNat (((x:Nat):Int)%18446744073709551616)=x by omega,and1]
  refine wrapW (by omega) (splitE (fun h5 => ?_) (fun h5 => ?_))
  ·rw[show (x%2==1)=false by simp;omega] at hq
   exact hq
  ·rw[show (x%2==1)=true by simp;omega] at hq
   exact hq
 ·rw[decide_eq_false (by omega:¬ t<q),decide_eq_false (by omega:¬ t-64<q)] at hq
  exact hq
def cIsFresh:Con
 | [.agg [.int .i64 t,.int .u64 u],.int .i64 q],H,K=>∃k:Nat,Lf (u=(k:Int)∧k<18446744073709551616∧(-1≤t∧t<281474976710656)∧0≤q∧q<281474976710656)∧∀b,Lf (b=isFreshM t k q)→K (.ret (.bool b)) H
 | _,_,_=>False
theorem isfresh_ok:ValidF Tryz.prog gl0 53 cIsFresh:=by
 refine valid_flat (enters_of (by kernel_rfl)) gl0_noY fun args H Q hc => ?_
 unfold cIsFresh at hc
 split at hc
 ·rename_i t u q
  obtain ⟨k,⟨rfl,h1,h2,h3⟩,hq⟩:=hc
  obtain ⟨hv,hb',h⟩:=isfresh_run t k q h1 h2 h3 (Q:=fun o H' _=>H'=[]∧(∃v,o=.ret v∧old 0 v=true∧noY v=true)∧Q o H) ⟨rfl,⟨_,rfl,rfl,rfl⟩,hq _ ⟨rfl⟩⟩
  exact ⟨rfl,rfl,_,1000,envFor04 sm0_ok _ _ _,rfl,h⟩
 ·exact hc.elim
def sndOkM (e nx:Int) (key salt:List UInt8):Bool:=decide (0≤e∧e≤65535)&&decide (key.length=32)&&decide (salt.length=12)&&decide (0≤nx∧nx≤281474976710656)
theorem snd_iff (e nx:Int) (key salt:List UInt8):sndOkM e nx key salt=true↔(0≤e∧e≤65535)∧key.length=32∧salt.length=12∧0≤nx∧nx≤281474976710656:=by
 simp[sndOkM,and_assoc]
def chkM (b:Bool):Int:=if b then 0 else 170
theorem draftS_run (ep st kk sk:Int) (z:AV) (h1:0≤ep∧ep≤65535) (h2:0≤st∧st≤65535) (Q:Out→List Blk→Gh→Prop) (hq:∀key salt:List UInt8,key.length=32→salt.length=12→Q (.ret (.agg [.int .i64 (ep%4),.int .i64 st,.str key,.str salt])) [] {}):∃hv hb,goal_24m hv hb ep st kk sk z Q:=by
 obtain ⟨hv,hb',e'⟩:∃hv hb,goal_24m hv hb ep st kk sk z Q=_:=⟨_,_,vc_24m ep st kk sk z Q⟩
 refine ⟨hv,hb',e'.mpr ?_⟩
 delta z7M2
 clear e'
 have eU:∀ (k:IntKind) (n:Int),eqAVL [AV.int k n] [AV.int k n]=true:=eqAVL_i
 have hm:Int.tmod ep 4=ep%4:=Int.tmod_eq_emod_of_nonneg h1.1
 refine ⟨_,rfl, ?_⟩
 rw[hm]
 refine wrapI (by omega) (by omega) (wrapI (by omega) (by omega) ⟨_,rfl,_,rfl,_,rfl,⟨by omega,by omega⟩, ?_⟩)
 rintro key ⟨hk⟩
 refine ckI (by rw[eU];rfl) (ckI (by rw[eU];rfl) (ckI (by rw[eU];rfl) ⟨⟨by omega,by omega⟩, ?_⟩))
 rintro salt ⟨hs⟩
 exact ckI (by rw[eU];rfl) (ckI (by rw[eU];rfl) (hq key salt hk hs))
def cDraftS:Con
 | [.agg [.int .u16 ep,.int .u16 st,.int .u8 _,.int .u8 _,.lst _ l _ 1]],H,K=>∃s:List UInt8,Lf (l=ofBytes s∧(0≤ep∧ep≤65535)∧0≤st∧st≤65535)∧∀e key salt,Lf (e=ep%4∧key.length=32∧salt.length=12)→K (.ret (.agg [.int .i64 e,.int .i64 st,.str key,.str salt])) H
 | _,_,_=>False
theorem xorN_len (w:List UInt8):∀i s,(xorNM w i s).length=s.length
 | 0,s=>rfl
 | i+1,s=>by rw[xorNM,List.length_set,xorN_len w i s]
theorem nonce_len (s:List UInt8) (b c:Int):(nonceM s b c).length=s.length:=xorN_len _ _ _
theorem xor_u8 (a b:UInt8):IntKind.wrap .u8 ((((a.toNat:Int)%256).toNat ^^^ ((b.toNat:Int)%256).toNat:Nat):Int)=((a ^^^ b).toNat:Int):=by
 have h1:((a.toNat:Int)%256).toNat=a.toNat:=by have:=a.toNat_lt;omega
 have h2:((b.toNat:Int)%256).toNat=b.toNat:=by have:=b.toNat_lt;omega
 rw[h1,h2,UInt8.toNat_xor]
 have h3:a.toNat ^^^ b.toNat<2^8:=Nat.xor_lt_two_pow a.toNat_lt b.toNat_lt
 show ((a.toNat ^^^ b.toNat:Nat):Int)%256=_
 omega
theorem nonce_run (s:List UInt8) (a b c:Int) (t:List UInt8) (hs:s.length=12) (hb:0≤b∧b≤65535) (hc:0≤c∧c≤281474976710655) (Q:Out→List Blk→Gh→Prop) (hq:Q (.ret (.str (nonceM s b c))) [] {}):∃hv hb,goal_49m hv hb s (numsNM b c) a b c t Q:=by
 have hwl:(numsNM b c).length=8:=by rw[numsNM,List.length_append,be_len,be_len]
 have hw:numsNM b c=beBM 2 b.toNat++beBM 6 c.toNat:=rfl
 rw[nonceM] at hq
 generalize numsNM b c=w at *
 obtain ⟨hv,hb',e'⟩:∃hv hb,goal_49m hv hb s w a b c t Q=_:=⟨_,_,vc_49m s w a b c t Q⟩
 refine ⟨hv,hb',e'.mpr ?_⟩
 delta z7M1
 clear e'
 refine ⟨⟨hb.1,.inr (.inl ⟨rfl,hb.2⟩)⟩, ?_⟩
 rintro s0 ⟨e0⟩
 refine ckI (by rw[eqAVL_i];rfl) ⟨⟨hc.1,.inr (.inr ⟨rfl,hc.2⟩)⟩, ?_⟩
 rintro s1 ⟨e1⟩
 have hws:s0++s1=w:=by rw[e0,e1,hw];rfl
 rw[hws]
 have hl01:s0.length+s1.length=8:=by rw[←hwl,←hws,List.length_append]
 refine ckI (by rw[hl01];rfl) ⟨w,rfl,ckI (by rw[ofB_len];simp) ⟨_,rfl, ?_, ?_⟩⟩
 ·refine ⟨0,⟨by omega⟩,rfl, ?_⟩
  rw[oldL_ofB,oldL_ofB]
  exact ⟨rfl,rfl,rfl,rfl,rfl,rfl,trivial⟩
 ·rintro i ⟨h1⟩
  have hxl:=xorN_len w i s
  have hol:(ofBytes (xorNM w i s)).length=s.length:=by rw[ofB_len,hxl]
  have hwo:=ofB_len w
  refine splitD (fun h2 => ?_) (fun h2 => ?_)
  ·refine ⟨_,rfl,ckI (by rw[hwo];simp;omega) (ckI (by rw[hwo];simp;omega) (ldB (j:=i) (by omega) (by simp) (wrapI (by omega) (by omega) (ckI (by rw[hol];simp;omega) (ckI (by rw[hol];simp;omega) (ldB (j:=4+i) (by omega) (by omega) ?_))))))⟩
   try dsimp only[exW,exI,exV]
   rw[xor_u8]
   refine ⟨_,rfl,ckI (by rw[hol];simp;omega) (ckI (by rw[hol];simp;omega) (wrapI (by omega) (by omega) ⟨⟨trivial,rfl⟩,i+1,⟨by omega⟩,by omega,rfl, ?_,rfl,rfl,rfl,rfl,rfl,trivial⟩))⟩
   exact stB (j:=4+i) (by omega) (by omega)
  ·have hi:i=8:=by omega
   subst hi
   refine ckI (by rw[hol,allU8_take];simp) ⟨_,rfl, ?_⟩
   rw[strB (by omega) rfl]
   exact hq
def cNonce:Con
 | [.str s,.agg [.int .i64 a,.int .i64 b,.int .i64 c,.str t]],H,K=>Lf (s.length=12∧(0≤b∧b≤65535)∧(0≤c∧c≤281474976710655))∧∀x,Lf (x=nonceM s b c)→K (.ret (.str x)) H
 | _,_,_=>False
theorem nonce_ok:ValidF Tryz.prog gl0 33 cNonce:=by
 refine valid_flat (enters_of (by kernel_rfl)) gl0_noY fun args H Q hc => ?_
 unfold cNonce at hc
 split at hc
 ·rename_i s a b c t
  obtain ⟨⟨h1,h2,h3⟩,hq⟩:=hc
  obtain ⟨hv,hb',h⟩:=nonce_run s a b c t h1 h2 h3 (Q:=fun o H' _=>H'=[]∧(∃v,o=.ret v∧old 0 v=true∧noY v=true)∧Q o H) ⟨rfl,⟨_,rfl,rfl,rfl⟩,hq _ ⟨rfl⟩⟩
  exact ⟨rfl,rfl,_,1000,envFor04 smP_ok _ _ _,rfl,h⟩
 ·exact hc.elim
theorem draftS_ok:ValidF Tryz.prog gl0 6 cDraftS:=by
 refine valid_flat (enters_of (by kernel_rfl)) gl0_noY fun args H Q hc => ?_
 unfold cDraftS at hc
 split at hc
 ·rename_i ep st kk sk tg l n
  obtain ⟨s,⟨rfl,h1,h2⟩,hq⟩:=hc
  obtain ⟨hv,hb',h⟩:=draftS_run ep st kk sk (.lst tg (ofBytes s) n 1) h1 h2 (Q:=fun o H' _=>H'=[]∧(∃v,o=.ret v∧old 0 v=true∧noY v=true)∧Q o H) (fun key salt k1 k2=>⟨rfl,⟨_,rfl,rfl,rfl⟩,hq _ _ _ ⟨rfl,k1,k2⟩⟩)
  exact ⟨by simp[oldL,old,oldL_ofB],by simp[noYL,noY],_,1000,envFor04 smTx_ok _ _ _,rfl,h⟩
 ·exact hc.elim

def boxM (e nx:Int) (key salt:List UInt8) (kind:Int) (body:List UInt8):List UInt8:=headM (kind,e,nx,[]) ((body.length:Int)+16)++(sealM key (nonceM salt e nx) (headM (kind,e,nx,[]) ((body.length:Int)+16)) body).1
theorem right17 {key nonce:List UInt8} (h1:key.length=32) (h2:nonce.length=12):rightM key nonce 0=true:=by simp[rightM,h1,h2]
theorem sealed17 {key nonce extra plain:List UInt8} (h1:key.length=32) (h2:nonce.length=12) (h3:extra.length≤4096) (h4:plain.length≤4096) :
  sealM key nonce extra plain=(appM (firstM key nonce) 1 70 plain++checkM key nonce extra (appM (firstM key nonce) 1 70 plain),0):=by
 rw[sealM,if_neg (by rw[right17 h1 h2];simp),if_neg (by omega)]
theorem sealed17_len {key nonce extra plain:List UInt8} (h1:key.length=32) (h2:nonce.length=12) (h3:extra.length≤4096) (h4:plain.length≤4096):(sealM key nonce extra plain).1.length=plain.length+16:=by
 rw[sealed17 h1 h2 h3 h4]
 dsimp only
 rw[List.length_append,check_len,app_len _ _ _ _ (by omega)]
end Go.Proofs.YtiholnebhmjbjaaGreat

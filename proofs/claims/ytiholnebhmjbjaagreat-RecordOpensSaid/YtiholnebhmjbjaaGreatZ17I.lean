/-
  Chapter 17: the reference's Number, Decode, Same; the law's texts, pieces, few.
-/
import Derived.Test.YtiholnebhmjbjaaGreatZ17H
set_option linter.unusedSimpArgs false
set_option linter.unusedVariables false
set_option linter.unusedSectionVars false
namespace Go.Proofs.YtiholnebhmjbjaaGreat
open Go.RowKit
set_option maxRecDepth 1000000

def inv_34q (sd:Int) (n:Nat):LInv where
 α:=List UInt8×Nat
 pre x:=Lf (x.1.length=n∧x.2≤n)
 st x:=⟨mkT [(0,.int .u8 sd),(1,.int .i64 (n:Nat)),(5,.sl 0 n 0 n 1),(6,.int .i64 (x.2:Nat))],[⟨.exact,true,ofBytes x.1⟩]⟩
 mu x:=n-x.2
noncomputable def env_34q (hv:Nat→Option Pa) (hb:Nat→Option Bool) (sd:Int) (n:Nat):Env:=
 e04 sm0 (fun i=>bif Nat.beq i 28000 then some (fun _=>[[inv_34q sd n]]) else none) hv hb
noncomputable def goal_34q (hv:Nat→Option Pa) (hb:Nat→Option Bool) (sd:Int) (n:Nat) (Q:Out→List Blk→Gh→Prop):Prop:=
 callx (env_34q hv hb sd n) (wpx (env_34q hv hb sd n) 1000) 28 [.int .u8 sd,.int .i64 (n:Nat)] [] {} Q
abbrev z7I4 (n_0:Int):Bool:=decide (0≤n_0)
abbrev z7I0 (n:Nat):AV:=.int .i64 (n:Int)
abbrev z7I3:Prop:=True∧(0:Nat)=(0:Nat)
theorem vc_34q (sd:Int) (n:Nat) (Q:Out→List Blk→Gh→Prop):goal_34q (lookV [(114695,.int .i64),(114697,.int .i64),(114698,.int .i64),(114703,.int .i64),(114705,.int .i64),(114706,.int .u8),(114708,.int .u8),
 (114709,.int .u8),(114710,.int .u8),(114711,.int .u8),(114700,.int .i64),(114701,.int .i64),(114714,.str)]) (lookB []) sd n Q=(exI .i64 (n:Int) (fun n_0=>ckQ (z7I4 n_0&&decide (n_0≤n_0)&&decide (n_0≤1099511627776)
 && decide (n_0*1≤1099511627776)) ((∃x_1:List UInt8×Nat,Lf (x_1.1.length=n∧x_1.2≤n)∧ckQ (oldL 0 (List.replicate n_0.toNat [AV.int .u8 0]).flatten==true) ((List.replicate n_0.toNat [AV.int .u8 0]).flatten=ofBytes x_1.1
 ∧ eqqQ (AV.int .u8 sd)∧eqqQ (z7I0 n)∧AV.sl 0 (n_0.toNat*1) 0 n_0.toNat 1=AV.sl 0 n 0 n 1∧AV.int .i64 0=AV.int .i64 (x_1.2:Int)∧True))∧∀x_1:List UInt8×Nat,Lf (x_1.1.length=n∧x_1.2≤n)→exI .i64 (x_1.2:Int)
 (fun n_2=>exI .i64 (n:Int) (fun n_3=>bif decide (n_2<n_3) then exI .i64 (x_1.2:Int) (fun n_4=>exI .i64 (x_1.2:Int) (fun n_5=>exW .u8 n_5 (fun n_6=>exI .u8 (sd.tmod 5) (fun n_7=>exW .u8 (1+n_7) (fun n_8=>exW .u8 (n_6
 * n_8) (fun n_9=>exW .u8 (sd+n_9) (fun n_10=>ckQ (z7I4 n_4&&Nat.blt n_4.toNat n&&Nat.beq (ofBytes x_1.1).length n&&true) (ckQ (Nat.beq (ofBytes x_1.1).length n&&Nat.ble (0+n_4.toNat*1+1) n&&true&&true&&true) (exI
 .i64 (x_1.2:Int) (fun n_11=>exW .i64 (n_11+1) (fun n_12=>z7I3∧∃y_13:List UInt8×Nat,Lf (y_13.1.length=n∧y_13.2≤n)∧n-y_13.2<n-x_1.2∧setRange (ofBytes x_1.1) (0+n_4.toNat*1) [.int .u8 n_10]=ofBytes y_13.1
 ∧ eqqQ (AV.int .u8 sd)∧eqqQ (z7I0 n)∧eqqQ (AV.sl 0 n 0 n 1)∧AV.int .i64 n_12=AV.int .i64 (y_13.2:Int)∧True))))))))))) else ckQ (Nat.beq (ofBytes x_1.1).length n&&Nat.ble (0+n) n&&true&&allU8 (((ofBytes x_1.1).drop
 0).take n)) (exS (.str (List.map toB (((ofBytes x_1.1).drop 0).take n))) (fun s_4=>Q (.ret (.str s_4)) [] {}))))))):=by kernel_rfl

def inv_41q (s:List UInt8):LInv where
 α:=Nat
 pre i:=Lf (i≤s.length)
 st i:=⟨mkT [(0,.str s),(3,.int .i64 (natM (s.take i):Nat)),(4,.int .i64 (i:Nat))],[]⟩
 mu i:=s.length-i
noncomputable def env_41q (hv:Nat→Option Pa) (hb:Nat→Option Bool) (s:List UInt8):Env:=
 e04 sm0 (fun i=>bif Nat.beq i 68000 then some (fun _=>[[inv_41q s]]) else none) hv hb
noncomputable def goal_41q (hv:Nat→Option Pa) (hb:Nat→Option Bool) (s:List UInt8) (Q:Out→List Blk→Gh→Prop):Prop:=
 callx (env_41q hv hb s) (wpx (env_41q hv hb s) 1000) 68 [.str s] [] {} Q
theorem vc_41q (s:List UInt8) (Q:Out→List Blk→Gh→Prop):goal_41q (lookV [(278533,.int .i64),(278535,.int .i64),(278539,.int .i64),(278540,.int .i64),(278542,.int .i64),(278543,.int .u8),(278544,.int .i64),(278545,.int .i64),(278537,.int .i64),(278538,.int .i64),(278546,.int .i64)]) (lookB []) s Q=((∃x_0:Nat,Lf (x_0≤s.length)∧eqqQ (AV.str s)∧AV.int .i64 0=AV.int .i64 (natM (s.take x_0):Int)∧AV.int .i64 0=z7I0 x_0∧True)∧∀x_0:Nat,Lf (x_0≤s.length)→exI .i64 (x_0:Int) (fun n_1=>exI .i64 (s.length:Int) (fun n_2=>bif decide (n_1<n_2) then exI .i64 (natM (s.take x_0):Int) (fun n_3=>exW .i64 (256*n_3) (fun n_4=>exI .i64 (x_0:Int) (fun n_5=>ckQ (z7I4 n_5&&Nat.blt n_5.toNat s.length) (exI .u8 (UInt8.toNat (s.getD n_5.toNat (UInt8.ofNat 0)):Int) (fun n_6=>exW .i64 n_6 (fun n_7=>exW .i64 (n_4+n_7) (fun n_8=>exI .i64 (x_0:Int) (fun n_9=>exW .i64 (n_9+1) (fun n_10=>z7I3∧∃y_11:Nat,Lf (y_11≤s.length)∧s.length-y_11<s.length-x_0∧eqqQ (AV.str s)∧AV.int .i64 n_8=AV.int .i64 (natM (s.take y_11):Int)∧AV.int .i64 n_10=z7I0 y_11∧True))))))))) else exI .i64 (natM (s.take x_0):Int) (fun n_3=>Q (.ret (.int .i64 n_3)) [] {})))):=by kernel_rfl

noncomputable def goal_15q (hv:Nat→Option Pa) (hb:Nat→Option Bool) (a b:Int) (t s:List UInt8) (Q:Out→List Blk→Gh→Prop):Prop:=
 callx (e04 sm0 (fun _=>none) hv hb) (wpx (e04 sm0 (fun _=>none) hv hb) 1000) 19 [.agg [.int .u16 a,.int .u16 b,.str t],.str s] [] {} Q
abbrev z7I2 (n_2:Int) (s:List UInt8):Bool:=decide (0≤n_2)&&true&&Nat.ble n_2.toNat s.length
theorem vc_15q (a:Int) (b:Int) (t:List UInt8) (s:List UInt8) (Q:Out→List Blk→Gh→Prop):goal_15q (lookV [(77832,.int .i64),(77834,.int .i64),(77835,.int .i64),(77838,.str),(77843,.int .i64),(77844,.int .i64),(77845,.str),(77846,.str),(77851,.int .i64),(77852,.int .i64),(77854,.int .i64),(77855,.int .i64),(77856,.str),(77857,.str)]) (lookB []) a b t s Q=(exW .i64 a (fun n_0=>exI .i64 (s.length:Int) (fun n_1=>exI .i64 (imin n_0 n_1) (fun n_2=>ckQ (z7I2 n_2 s) (exS (.str ((s.drop 0).take (n_2.toNat-0))) (fun s_3=>exI .i64 (t.length:Int) (fun n_4=>exI .i64 (imin n_4 40) (fun n_5=>ckQ (z7I2 n_5 t) (exS (.str ((t.drop 0).take (n_5.toNat-0))) (fun s_6=>ckQ (decide (s_3.length+s_6.length≤9223372036854775807)&&true) (exS (.str (s_3++s_6)) (fun s_7=>exW .i64 b (fun n_8=>exW .i64 (n_2+n_8) (fun n_9=>exI .i64 (s.length:Int) (fun n_10=>exI .i64 (imin n_9 n_10) (fun n_11=>ckQ (z7I2 n_11 s&&Nat.ble s.length s.length) (exS (.str ((s.drop n_11.toNat).take (s.length-n_11.toNat))) (fun s_12=>ckQ (decide (s_7.length+s_12.length≤9223372036854775807)&&true) (exS (.str (s_7++s_12)) (fun s_13=>Q (.ret (.str s_13)) [] {})))))))))))))))))))):=by kernel_rfl

def inv_18q (tg td:Nat) (l k:List Rc):LInv where
 α:=Nat
 pre i:=Lf (i≤l.length∧l.take i=k.take i)
 st i:=⟨mkT [(0,.lst tg (cellsRM l) l.length 4),(1,.lst td (cellsRM k) k.length 4),(5,.int .i64 (i:Nat))],[]⟩
 mu i:=l.length-i
noncomputable def env_18q (hv:Nat→Option Pa) (hb:Nat→Option Bool) (tg td:Nat) (l k:List Rc):Env:=
 e04 sm0 (fun i=>bif Nat.beq i 22000 then some (fun _=>[[inv_18q tg td l k]]) else none) hv hb
noncomputable def goal_18q (hv:Nat→Option Pa) (hb:Nat→Option Bool) (tg td:Nat) (l k:List Rc) (Q:Out→List Blk→Gh→Prop):Prop:=
 callx (env_18q hv hb tg td l k) (wpx (env_18q hv hb tg td l k) 1000) 22 [.lst tg (cellsRM l) l.length 4,.lst td (cellsRM k) k.length 4] [] {} Q
abbrev z7I1 (tg:Nat) (l:List Rc):Prop:=eqqQ (AV.lst tg (cellsRM l) l.length 4)
theorem vc_18q (tg:Nat) (td:Nat) (l:List Rc) (k:List Rc) (Q:Out→List Blk→Gh→Prop):goal_18q (lookV [(90119,.int .i64),(90121,.int .i64),(90123,.int .i64),(90125,.int .i64),(90130,.int .i64),(90132,.agg [.int
 .i64,.int .i64,.int .i64,.str]),(90134,.int .i64),(90136,.agg [.int .i64,.int .i64,.int .i64,.str]),(90127,.int .i64),(90128,.int .i64)]) (lookB []) tg td l k Q=(exI .i64 (l.length:Int) (fun n_0=>exI .i64 (k.length :
 Int) (fun n_1=>bif n_0 !=n_1 then Q (.ret (.bool false)) [] {} else (∃x_2:Nat,Lf (x_2≤l.length∧l.take x_2=k.take x_2)∧z7I1 tg l∧z7I1 td k∧AV.int .i64 0=z7I0 x_2∧True)∧∀x_2:Nat,Lf (x_2≤l.length∧l.take x_2 =
 k.take x_2)→exI .i64 (x_2:Int) (fun n_3=>exI .i64 (l.length:Int) (fun n_4=>bif decide (n_3<n_4) then exI .i64 (x_2:Int) (fun n_5=>ckQ (z7I4 n_5&&Nat.blt n_5.toNat l.length&&true) (ckQ (Nat.ble (n_5.toNat*4+4)
 (cellsRM l).length) (∃n_6 n_7 n_8 s_9,AV.agg (((cellsRM l).drop (n_5.toNat*4)).take 4)=AV.agg [.int .i64 n_6,.int .i64 n_7,.int .i64 n_8,.str s_9]∧exI .i64 (x_2:Int) (fun n_10=>ckQ (z7I4 n_10&&Nat.blt n_10.toNat k.length
 && true) (ckQ (Nat.ble (n_10.toNat*4+4) (cellsRM k).length) (∃n_11 n_12 n_13 s_14,AV.agg (((cellsRM k).drop (n_10.toNat*4)).take 4)=AV.agg [.int .i64 n_11,.int .i64 n_12,.int .i64 n_13,.str s_14]∧bif !(n_6==n_11&&(n_7 ==
 n_12&&(n_8==n_13&&(eqB s_9 s_14&&true)))) then Q (.ret (.bool false)) [] {} else exI .i64 (x_2:Int) (fun n_15=>exW .i64 (n_15+1) (fun n_16=>z7I3∧∃y_17:Nat,Lf (y_17≤l.length∧l.take y_17=k.take y_17)∧l.length -
 y_17<l.length-x_2∧z7I1 tg l∧z7I1 td k∧AV.int .i64 n_16=z7I0 y_17∧True)))))))) else Q (.ret (.bool true)) [] {}))))):=by kernel_rfl

def cTxt:Con
 | [.int .u8 sd,.int .i64 n],H,K=>Lf (0≤n∧n≤1000)∧∀t,Lf (t.length=n.toNat)→K (.ret (.str t)) H
 | _,_,_=>False
theorem wrapB {y:Int} {K:Int→Prop} (h:∀b:UInt8,K (b.toNat:Int)):∃n:Int,AV.int .u8 (IntKind.wrap .u8 y)=AV.int .u8 n∧K n:=by
 refine ⟨_, ?_,h (UInt8.ofNat (y%256).toNat)⟩
 congr 1
 show y%256=_
 rw[UInt8.toNat_ofNat']
 omega
theorem rep_flat (n:Nat):(List.replicate n [AV.int .u8 0]).flatten=ofBytes (List.replicate n 0):=by
 induction n with
 | zero=>rfl
 | succ n ih=>rw[List.replicate_succ,List.flatten_cons,ih];rfl
theorem text_run (sd:Int) (n:Nat) (hn:n≤1000) (Q:Out→List Blk→Gh→Prop) (hq:∀t:List UInt8,t.length=n→Q (.ret (.str t)) [] {}):∃hv hb,goal_34q hv hb sd n Q:=by
 obtain ⟨hv,hb',e⟩:∃hv hb,goal_34q hv hb sd n Q=_:=⟨_,_,vc_34q sd n Q⟩
 refine ⟨hv,hb',e.mpr ?_⟩
 delta z7I4 z7I0 z7I3
 clear e
 refine ⟨_,rfl,ckI (by simp;omega) ⟨⟨(List.replicate n 0,0),⟨by simp,by simp⟩, ?_⟩, ?_⟩⟩
 ·rw[Int.toNat_natCast,rep_flat,oldL_ofB,Nat.mul_one]
  exact ⟨rfl,rfl,rfl,rfl,rfl,trivial⟩
 ·rintro ⟨L,i⟩ ⟨h1,h2⟩
  dsimp only at h1 h2 ⊢
  refine ⟨_,rfl,_,rfl,splitD (fun h3 => ?_) (fun h3 => ?_)⟩
  ·refine ⟨_,rfl,_,rfl,_,rfl,_,rfl,_,rfl,_,rfl,wrapB fun b=>ckI (by rw[ofB_len];simp;omega) (ckI (by rw[ofB_len];simp;omega) ⟨_,rfl,wrapI (by omega) (by omega) ⟨⟨trivial,rfl⟩,(L.set i b,i+1),⟨by simp[h1],by dsimp only;omega⟩,by dsimp only;omega, ?_,rfl,rfl,rfl,rfl,trivial⟩⟩)⟩
   exact stB (j:=i) (by omega) (by simp)
  ·refine ckI (by rw[ofB_len,allU8_take];simp;omega) ⟨_,rfl, ?_⟩
   rw[strB (by omega) rfl]
   exact hq L h1
theorem txt_ok:ValidF Tryz.prog gl0 28 cTxt:=by
 refine valid_flat (enters_of (by kernel_rfl)) gl0_noY fun args H Q hc => ?_
 unfold cTxt at hc
 split at hc
 ·rename_i sd n
  obtain ⟨⟨h0,h1⟩,hq⟩:=hc
  obtain ⟨k,rfl⟩:∃k:Nat,n=(k:Int):=⟨n.toNat,by omega⟩
  obtain ⟨hv,hb',h⟩:=text_run sd k (by omega) (Q:=fun o H' _=>H'=[]∧(∃v,o=.ret v∧old 0 v=true∧noY v=true)∧Q o H) (fun t ht=>⟨rfl,⟨_,rfl,rfl,rfl⟩,hq _ ⟨by rw[Int.toNat_natCast];exact ht⟩⟩)
  exact ⟨rfl,rfl,_,1000,envFor04 sm0_ok _ _ _,rfl,h⟩
 ·exact hc.elim
theorem numb17_run (s:List UInt8) (hs:s.length≤6) (Q:Out→List Blk→Gh→Prop) (hq:Q (.ret (.int .i64 (beM s))) [] {}):∃hv hb,goal_41q hv hb s Q:=by
 obtain ⟨hv,hb',e⟩:∃hv hb,goal_41q hv hb s Q=_:=⟨_,_,vc_41q s Q⟩
 refine ⟨hv,hb',e.mpr ?_⟩
 delta z7I0 z7I4 z7I3
 clear e
 refine ⟨⟨0,⟨by omega⟩,rfl,rfl,rfl,trivial⟩, ?_⟩
 rintro i ⟨hi⟩
 refine ⟨_,rfl,_,rfl,splitD (fun h => ?_) (fun h => ?_)⟩
 ·have hlt:i<s.length:=by omega
  have h1:=nat_lt i (s.take i) (by rw[List.length_take];omega)
  have h3:(256:Nat)^i≤256^6:=Nat.pow_le_pow_right (by omega) (by omega)
  have h4:(256:Nat)^6=281474976710656:=rfl
  have h2:=(s.getD i 0).toNat_lt
  have hsn:=nat_snoc hlt
  have e0:s.getD (Int.toNat (i:Int)) (UInt8.ofNat 0)=s.getD i 0:=rfl
  refine ⟨_,rfl,wrapI (by omega) (by omega) ⟨_,rfl,ckI (by simp;omega) ⟨_,rfl, ?_⟩⟩⟩
  rw[e0]
  generalize (s.getD i 0).toNat=c at *
  refine wrapI (by omega) (by omega) (wrapI (by omega) (by omega) ⟨_,rfl,wrapI (by omega) (by omega) ⟨⟨trivial,rfl⟩,i+1,⟨by omega⟩,by omega,rfl, ?_,rfl,trivial⟩⟩)
  rw[hsn]
  congr 1
  omega
 ·have:s.take i=s:=List.take_of_length_le (by omega)
  rw[this]
  exact ⟨_,rfl,hq⟩
def cNumb:Con
 | [.str s],H,K=>Lf (s.length≤6)∧∀n,Lf (n=beM s)→K (.ret (.int .i64 n)) H
 | _,_,_=>False
theorem numb_ok:ValidF Tryz.prog gl0 68 cNumb:=by
 refine valid_flat (enters_of (by kernel_rfl)) gl0_noY fun args H Q hc => ?_
 unfold cNumb at hc
 split at hc
 ·rename_i s
  obtain ⟨⟨h1⟩,hq⟩:=hc
  obtain ⟨hv,hb',h⟩:=numb17_run s h1 (Q:=fun o H' _=>H'=[]∧(∃v,o=.ret v∧old 0 v=true∧noY v=true)∧Q o H) ⟨rfl,⟨_,rfl,rfl,rfl⟩,hq _ ⟨rfl⟩⟩
  exact ⟨rfl,rfl,_,1000,envFor04 sm0_ok _ _ _,rfl,h⟩
 ·exact hc.elim
theorem iminB {x y:Int} (hx:0≤x) (hy:0≤y) {K:Int→Prop} (h:∀m:Nat,(m:Int)≤x→(m:Int)≤y→((m:Int)=x∨(m:Int)=y)→K m):∃n:Int,AV.int .i64 (imin x y)=AV.int .i64 n∧K n:=by
 refine ⟨((imin x y).toNat:Nat), ?_,h _ ?_ ?_ ?_⟩<;>unfold imin<;>split<;>first | omega | (congr 1;omega)
theorem edit17_run (a b:Int) (t s:List UInt8) (ha:0≤a∧a≤65535) (hb:0≤b∧b≤65535) (hs:s.length≤100000) (Q:Out→List Blk→Gh→Prop) (hq:∀r:List UInt8,r.length≤s.length+40→Q (.ret (.str r)) [] {}):∃hv hb,goal_15q hv hb a b t s Q:=by
 obtain ⟨hv,hb',e⟩:∃hv hb,goal_15q hv hb a b t s Q=_:=⟨_,_,vc_15q a b t s Q⟩
 refine ⟨hv,hb',e.mpr ?_⟩
 delta z7I2
 clear e
 refine wrapI (by omega) (by omega) ⟨_,rfl,iminB (by omega) (by omega) fun m m1 m2 m3 => ?_⟩
 refine ckI (by simp;omega) ⟨_,rfl,_,rfl,iminB (by omega) (by omega) fun k k1 k2 k3 => ?_⟩
 refine ckI (by simp;omega) ⟨_,rfl,ckI (by simp only[List.length_take,List.length_drop,Bool.and_true,decide_eq_true_eq];omega) ⟨_,rfl, ?_⟩⟩
 refine wrapI (by omega) (by omega) (wrapI (by omega) (by omega) ⟨_,rfl,iminB (by omega) (by omega) fun j j1 j2 j3 => ?_⟩)
 refine ckI (by simp;omega) ⟨_,rfl,ckI (by simp only[List.length_take,List.length_drop,List.length_append,Bool.and_true,decide_eq_true_eq];omega) ⟨_,rfl,hq _ ?_⟩⟩
 simp only[List.length_take,List.length_drop,List.length_append]
 omega
def cEdit17:Con
 | [.agg [.int .u16 a,.int .u16 b,.str t],.str s],H,K=>Lf ((0≤a∧a≤65535)∧(0≤b∧b≤65535)∧s.length≤100000)∧∀r,Lf (r.length≤s.length+40)→K (.ret (.str r)) H
 | _,_,_=>False
theorem edit17_ok:ValidF Tryz.prog gl0 19 cEdit17:=by
 refine valid_flat (enters_of (by kernel_rfl)) gl0_noY fun args H Q hc => ?_
 unfold cEdit17 at hc
 split at hc
 ·rename_i a b t s
  obtain ⟨⟨h0,h1,h2⟩,hq⟩:=hc
  obtain ⟨hv,hb',h⟩:=edit17_run a b t s h0 h1 h2 (Q:=fun o H' _=>H'=[]∧(∃v,o=.ret v∧old 0 v=true∧noY v=true)∧Q o H) (fun t ht=>⟨rfl,⟨_,rfl,rfl,rfl⟩,hq _ ⟨ht⟩⟩)
  exact ⟨rfl,rfl,_,1000,envFor04 sm0_ok _ _ _,rfl,h⟩
 ·exact hc.elim
def sameRM (l k:List Rc):Bool:=decide (l=k)
theorem same_yes {l k:List Rc} (h:l=k):sameRM l k=true:=decide_eq_true h
theorem same_no {l k:List Rc} (h:l≠k):sameRM l k=false:=decide_eq_false h
theorem same_run (tg td:Nat) (l k:List Rc) (hl:l.length≤1000000) (Q:Out→List Blk→Gh→Prop) (hq:Q (.ret (.bool (sameRM l k))) [] {}):∃hv hb,goal_18q hv hb tg td l k Q:=by
 obtain ⟨hv,hb',e⟩:∃hv hb,goal_18q hv hb tg td l k Q=_:=⟨_,_,vc_18q tg td l k Q⟩
 refine ⟨hv,hb',e.mpr ?_⟩
 delta z7I1 z7I0 z7I4 z7I3
 clear e
 refine ⟨_,rfl,_,rfl,splitNE (fun h => ?_) (fun h => ?_)⟩
 ·rwa [same_no (by rintro rfl;exact h rfl)] at hq
 ·have hlen:l.length=k.length:=by omega
  refine ⟨⟨0,⟨by omega,by simp⟩,rfl,rfl,rfl,trivial⟩, ?_⟩
  rintro i ⟨h1,h2⟩
  refine ⟨_,rfl,_,rfl,splitD (fun h3 => ?_) (fun h3 => ?_)⟩
  ·have hi:i<l.length:=by omega
   have hk:i<k.length:=by omega
   obtain ⟨⟨a,b,c,t⟩,hR⟩:∃r,l[i]=r:=⟨_,rfl⟩
   obtain ⟨⟨a',b',c',t'⟩,hS⟩:∃r,k[i]=r:=⟨_,rfl⟩
   have c1:=cellsR_len l
   have c2:=cellsR_len k
   refine ⟨_,rfl,ckI (by simp;omega) (ckI (by rw[c1];simp;omega) (getR hi hR (by simp) ⟨_,rfl,ckI (by simp;omega) (ckI (by rw[c2];simp;omega) (getR hk hS (by simp) ?_))⟩))⟩
   by_cases heq:(a,b,c,t)=(a',b',c',t')
   ·simp only[Prod.mk.injEq] at heq
    obtain ⟨rfl,rfl,rfl,rfl⟩:=heq
    rw[eqB_refl,beq_self_eq_true,beq_self_eq_true,beq_self_eq_true]
    refine ⟨_,rfl,wrapI (by omega) (by omega) ⟨⟨trivial,rfl⟩,i+1,⟨by omega, ?_⟩,by omega,rfl,rfl,rfl,trivial⟩⟩
    rw[take_snoc hi,take_snoc hk,h2,hR,hS]
   ·have hne:l≠k:=by
     rintro rfl
     exact heq (hR.symm.trans hS)
    have:((a==a')&&((b==b')&&((c==c')&&(eqB t t'&&true))))=false:=by
     rw[←Bool.not_eq_true,eqB_iff]
     simp only[Bool.and_eq_true,beq_iff_eq,Bool.and_true]
     rintro ⟨rfl,rfl,rfl,rfl⟩
     exact heq rfl
    rw[this]
    rwa [same_no hne] at hq
  ·rw[List.take_of_length_le (by omega),List.take_of_length_le (by omega)] at h2
   rwa [same_yes h2] at hq
def cSame:Con
 | [.lst _ cs n 4,.lst _ ds m 4],H,K=>∃l k:List Rc,Lf ((cs=cellsRM l∧n=l.length)∧(ds=cellsRM k∧m=k.length)∧l.length≤1000000)∧∀b,Lf (b=sameRM l k)→K (.ret (.bool b)) H
 | _,_,_=>False
theorem same_ok:ValidF Tryz.prog gl0 22 cSame:=by
 refine valid_flat (enters_of (by kernel_rfl)) gl0_noY fun args H Q hc => ?_
 unfold cSame at hc
 split at hc
 ·rename_i tg cs n td ds m
  obtain ⟨l,k,⟨⟨rfl,rfl⟩,⟨rfl,rfl⟩,h1⟩,hq⟩:=hc
  obtain ⟨hv,hb',h⟩:=same_run tg td l k h1 (Q:=fun o H' _=>H'=[]∧(∃v,o=.ret v∧old 0 v=true∧noY v=true)∧Q o H) ⟨rfl,⟨_,rfl,rfl,rfl⟩,hq _ ⟨rfl⟩⟩
  exact ⟨by simp[oldL,old,cellsR_old],by simp[noYL,noY],_,1000,envFor04 sm0_ok _ _ _,rfl,h⟩
 ·exact hc.elim
def smTx:SM:=lookS [(28,cTxt)]
theorem smTx_ok:∀f g,smTx f=some g→ValidF Tryz.prog gl0 f g:=lookS_ok _ (by simp only[List.mem_cons,List.not_mem_nil,or_false,forall_eq];exact txt_ok)
end Go.Proofs.YtiholnebhmjbjaaGreat

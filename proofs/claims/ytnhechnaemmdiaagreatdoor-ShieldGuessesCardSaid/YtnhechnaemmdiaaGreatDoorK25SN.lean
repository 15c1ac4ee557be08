/-
  Chapter 4: Tag, Seal, Open.
-/
import Derived.Test.YtnhechnaemmdiaaGreatDoorK25SM
set_option linter.unusedSimpArgs false
set_option linter.unusedVariables false
namespace Go.Proofs.YtnhechnaemmdiaaGreatDoor
open Go.RowKit
set_option maxRecDepth 1000000

def smN:SM:=lookS [(117,cApply),(165,cBlock),(166,cTag),(119,cChecked)]
theorem smN_ok:∀f g,smN f=some g→ValidF Tryz.prog gl0 f g:=lookS_ok _ (by simp only[List.mem_cons,List.not_mem_nil,or_false,forall_eq_or_imp,forall_eq];exact ⟨apply_ok,block_ok,tag_ok,checked_ok⟩)
noncomputable def eN (hv:Nat→Option Pa) (hb:Nat→Option Bool):Env:=e04 smN (fun _=>none) hv hb
noncomputable def goal_18 (hv:Nat→Option Pa) (hb:Nat→Option Bool) (key nonce extra plain:List UInt8) (Q:Out→List Blk→Gh→Prop):Prop:=
 callx (eN hv hb) (wpx (eN hv hb) 1000) 66 [.str key,.str nonce,.str extra,.str plain] [] {} Q
theorem vc_18 (key:List UInt8) (nonce:List UInt8) (extra:List UInt8) (plain:List UInt8) (Q:Out→List Blk→Gh→Prop):goal_18 (lookV [(270373,.str),(483351,.int .i64),(483355,.int .i64)]) (lookB []) key nonce extra plain Q
 = (∀s_0:List UInt8,∀e_1:Int,Lf (blockM key nonce 0=Prod.mk s_0 e_1)→bif e_1 !=0 then bif e_1 !=0 then Q (.ret (.tup [.str [],.int .i64 e_1])) [] {} else ∀t_2:List UInt8,∀e_3:Int,Lf (applyM key nonce 1 plain=Prod.mk
 t_2 e_3)→bif e_3 !=0 then Q (.ret (.tup [.str [],.int .i64 e_3])) [] {} else Lf (rightM key nonce 0=true∧extra.length<65536∧t_2.length<65536)∧∀t_4:List UInt8,Lf (t_4=checkM key nonce extra t_2)→ckQ (decide
 (t_2.length+t_4.length≤9223372036854775807)&&true) (exS (.str (t_2++t_4)) fun s_5=>Q (.ret (.tup [.str s_5,.int .i64 0])) [] {}) else exI .i64 (extra.length:Int) fun n_2=>bif decide (n_2>4096) then Q (.ret (.tup [.str [],
 .int .i64 3])) [] {} else exI .i64 (plain.length:Int) fun n_3=>bif decide (n_3>4096) then Q (.ret (.tup [.str [],.int .i64 3])) [] {} else ∀t_4:List UInt8,∀e_5:Int,Lf (applyM key nonce 1 plain=Prod.mk t_4 e_5)→bif e_5 !=
 0 then Q (.ret (.tup [.str [],.int .i64 e_5])) [] {} else Lf (rightM key nonce 0=true∧extra.length<65536∧t_4.length<65536)∧∀t_6:List UInt8,Lf (t_6=checkM key nonce extra t_4)→ckQ (decide (t_4.length+t_6.length ≤
 9223372036854775807)&&true) (exS (.str (t_4++t_6)) fun s_7=>Q (.ret (.tup [.str s_7,.int .i64 0])) [] {})):=by kernel_rfl


theorem app_len (w:W16):∀ (f:Nat) (c:Int) (s:List UInt8),s.length≤64*f→(appM w c f s).length=s.length
 | 0,c,s,h=>by
  have:s=[]:=List.length_eq_zero_iff.1 (by omega)
  rw[this];rfl
 | f+1,c,s,h=>by
  rw[appM]
  have hb:=len_blk w c
  split
  ·rw[zipX_len];omega
  ·rw[List.length_append,zipX_len,app_len w f (c+1) _ (by rw[List.length_drop];omega),List.length_take,List.length_drop];omega
theorem leB_len:∀n x,(leBM n x).length=n
 | 0,_=>rfl
 | n+1,x=>by rw[leBM,List.length_cons,leB_len]
theorem tag_len (key s:List UInt8):(tagM key s).length=16:=leB_len _ _
theorem check_len (k n e h:List UInt8):(checkM k n e h).length=16:=tag_len _ _
theorem right_one (key nonce:List UInt8) (b:Bool) (h:rightM key nonce 0=b):rightM key nonce 1=b:=by rw[←h];rfl
theorem apply_one {key nonce s:List UInt8} (hr:rightM key nonce 0=true) (hs:s.length≤4096):applyM key nonce 1 s=(appM (firstM key nonce) 1 70 s,0):=by
 rw[applyM,right_one key nonce true hr,if_neg (by simp),if_neg (by omega),if_neg (by omega)]

def sealM (key nonce extra plain:List UInt8):List UInt8×Int:=
 if rightM key nonce 0=false then ([],2) else if 4096<extra.length∨4096<plain.length then ([],3) else (appM (firstM key nonce) 1 70 plain++checkM key nonce extra (appM (firstM key nonce) 1 70 plain),0)
def cSeal:Con
 | [.str key,.str nonce,.str extra,.str plain],H,K=>∀t e,Lf (sealM key nonce extra plain=(t,e))→K (.ret (.tup [.str t,.int .i64 e])) H
 | _,_,_=>False
theorem block_err {key nonce:List UInt8} {s:List UInt8} {e:Int} (h:blockM key nonce 0=(s,e)):(rightM key nonce 0=false∧e=2)∨(rightM key nonce 0=true∧e=0):=by
 rw[blockM] at h
 split at h
 ·rename_i hr
  exact .inr ⟨hr,(Prod.mk.inj h).2.symm⟩
 ·rename_i hr
  refine .inl ⟨?_,(Prod.mk.inj h).2.symm⟩
  cases hb:rightM key nonce 0
  ·rfl
  ·exact absurd hb hr
theorem seal_ok:ValidF Tryz.prog gl0 66 cSeal:=by
 refine valid_flat (enters_of (by kernel_rfl)) gl0_noY fun args H Q hc => ?_
 unfold cSeal at hc
 split at hc
 ·rename_i key nonce extra plain
  refine ⟨rfl,rfl,_,1000,envFor04 smN_ok _ _ _,rfl,(vc_18 key nonce extra plain _).mpr ?_⟩
  intro s e ⟨hs⟩
  rcases block_err hs with ⟨hr,rfl⟩ | ⟨hr,rfl⟩
  ·refine splitNE (fun h=>splitNE (fun _ => ?_) (fun h2=>absurd h2 h)) (fun h=>by cases h)
   exact ⟨rfl,⟨_,rfl,rfl,rfl⟩,hc _ _ ⟨by rw[sealM,if_pos hr]⟩⟩
  ·refine splitNE (fun h=>absurd rfl h) (fun _=>⟨_,rfl,splitD (fun h2 => ?_) (fun h2=>⟨_,rfl,splitD (fun h3 => ?_) (fun h3 => ?_)⟩)⟩)
   ·exact ⟨rfl,⟨_,rfl,rfl,rfl⟩,hc _ _ ⟨by rw[sealM,if_neg (by simp[hr]),if_pos (by omega)]⟩⟩
   ·exact ⟨rfl,⟨_,rfl,rfl,rfl⟩,hc _ _ ⟨by rw[sealM,if_neg (by simp[hr]),if_pos (by omega)]⟩⟩
   ·intro t e ⟨ht⟩
    have hap:=apply_one hr (show plain.length≤4096 by omega)
    rw[hap] at ht
    obtain ⟨ht1,rfl⟩:=Prod.mk.inj ht
    have hl:=app_len (firstM key nonce) 70 1 plain (by omega)
    rw[ht1] at hl
    refine splitNE (fun h=>absurd rfl h) (fun _=>⟨⟨hr,by omega,by omega⟩,fun u hu => ?_⟩)
    have hul:u.length=16:=by rw[hu.h,check_len]
    refine ckI (by first | (simp only[Bool.and_eq_true,Bool.and_true,Bool.true_and,decide_eq_true_eq,blt_iff,Nat.ble_eq,nbeq,cellsI_len,List.length_append,List.length_cons,List.length_nil,Int.toNat_natCast,and_true,true_and,Bool.or_eq_true,Bool.not_eq_true',bne_iff_ne,ne_eq];done) | (simp only[Bool.and_eq_true,Bool.and_true,Bool.true_and,decide_eq_true_eq,blt_iff,Nat.ble_eq,nbeq,cellsI_len,List.length_append,List.length_cons,List.length_nil,Int.toNat_natCast,and_true,true_and,Bool.or_eq_true,Bool.not_eq_true',bne_iff_ne,ne_eq];omega) | rfl | (simp;done) | (simp;omega)) ⟨_,rfl, ?_⟩
    exact ⟨rfl,⟨_,rfl,rfl,rfl⟩,hc _ _ ⟨by rw[sealM,if_neg (by simp[hr]),if_neg (by omega),ht1,hu.h]⟩⟩
 ·exact hc.elim

theorem xor_zero_iff (a b:Nat):a ^^^ b=0↔a=b:=by
 constructor
 ·intro h
  have:a ^^^ b ^^^ b=0 ^^^ b:=by rw[h]
  rwa [Nat.xor_assoc,Nat.xor_self,Nat.xor_zero,Nat.zero_xor] at this
 ·rintro rfl
  exact Nat.xor_self _
theorem snoc_iff {a b:List UInt8} {x y:UInt8}:a++[x]=b++[y]↔a=b∧x=y:=
 ⟨fun h=>by have h2:=List.append_inj' h rfl;exact ⟨h2.1,by simpa using h2.2⟩,fun ⟨h,k⟩=>by rw[h,k]⟩
def inv_41 (a b:List UInt8):LInv where
 α:=Nat×Nat
 pre p:=Lf (p.1≤a.length∧p.2<256∧(p.2=0↔a.take p.1=b.take p.1))
 st p:=⟨mkT [(0,.str a),(1,.str b),(5,.int .u8 (p.2:Nat)),(8,.int .i64 a.length),(9,.int .i64 (p.1:Nat))],[]⟩
 mu p:=a.length-p.1
noncomputable def env_41 (hv:Nat→Option Pa) (hb:Nat→Option Bool) (a b:List UInt8):Env:=e04 sm0 (fun i=>bif Nat.beq i 128000 then some (fun _=>[[inv_41 a b]]) else none) hv hb
noncomputable def goal_41 (hv:Nat→Option Pa) (hb:Nat→Option Bool) (a b:List UInt8) (Q:Out→List Blk→Gh→Prop):Prop:=
 callx (env_41 hv hb a b) (wpx (env_41 hv hb a b) 1000) 128 [.str a,.str b] [] {} Q
theorem vc_41 (a:List UInt8) (b:List UInt8) (Q:Out→List Blk→Gh→Prop):goal_41 (lookV [(524296,.int .i64),(524303,.int .u8),(524306,.int .u8),(524307,.int .u8),(524308,.int .u8),(524309,.int .i64)]) (lookB []) a b Q =
 (exI .i64 (a.length:Int) fun n_0=>(∃x_1:Nat×Nat,Lf (x_1.1≤a.length∧x_1.2<256∧(x_1.2=0↔a.take x_1.1=b.take x_1.1))∧eqqQ (AV.str a)∧eqqQ (AV.str b)∧AV.int .u8 0=AV.int .u8 (x_1.2:Int)∧AV.int .i64 0 =
 AV.int .i64 (x_1.1:Int)∧AV.int .i64 n_0=AV.int .i64 (a.length:Int)∧True)∧∀x_1:Nat×Nat,Lf (x_1.1≤a.length∧x_1.2<256∧(x_1.2=0↔a.take x_1.1=b.take x_1.1))→bif decide ((x_1.1:Int)<(a.length:Int)) then
 ckQ (Nat.blt (x_1.1:Int).toNat a.length) (exI .u8 (UInt8.toNat (a.getD (x_1.1:Int).toNat (UInt8.ofNat 0)):Int) fun n_2=>ckQ (Nat.blt (x_1.1:Int).toNat b.length) (exI .u8 (UInt8.toNat (b.getD (x_1.1:Int).toNat (UInt8.ofNat 0)) :
 Int) fun n_3=>exW .u8 (((n_2%256).toNat ^^^ (n_3%256).toNat:Nat):Int) fun n_4=>exW .u8 ((((x_1.2:Int)%256).toNat ||| (n_4%256).toNat:Nat):Int) fun n_5=>exW .i64 ((x_1.1:Int)+1) fun n_6=>(True∧(0:Nat)=(0
 : Nat))∧∃y_7:Nat×Nat,Lf (y_7.1≤a.length∧y_7.2<256∧(y_7.2=0↔a.take y_7.1=b.take y_7.1))∧a.length-y_7.1<a.length-x_1.1∧eqqQ (AV.str a)∧eqqQ (AV.str b)∧AV.int .u8 n_5=AV.int .u8 (y_7.2:Int)∧AV.int
 .i64 n_6=AV.int .i64 (y_7.1:Int)∧eqqQ (AV.int .i64 (a.length:Int))∧True)) else bif (x_1.2:Int)==0 then Q (.ret (.bool true)) [] {} else Q (.ret (.bool false)) [] {}):=by kernel_rfl

theorem equal_run (a b:List UInt8) (Q:Out→List Blk→Gh→Prop) (h1:a.length=b.length) (h2:a.length≤4611686018) (hq:Q (.ret (.bool (decide (a=b)))) [] {}):∃hv hb,goal_41 hv hb a b Q:=by
 obtain ⟨hv,hb',e⟩:∃hv hb,goal_41 hv hb a b Q=_:=⟨_,_,vc_41 a b Q⟩
 refine ⟨hv,hb',e.mpr ?_⟩
 clear e
 refine ⟨_,rfl,⟨(0,0),⟨by simp,by simp,by simp⟩,by simp⟩, ?_⟩
 rintro ⟨i,d⟩ ⟨g1,g2,g3⟩
 dsimp only at *
 refine splitD (fun hlt => ?_) (fun hge => ?_)
 ·have hi:i<a.length:=by omega
  have hib:i<b.length:=by omega
  have ha:=(a.getD i 0).toNat_lt
  have hb:=(b.getD i 0).toNat_lt
  have hx:(a.getD i 0).toNat ^^^ (b.getD i 0).toNat<256:=Nat.xor_lt_two_pow (n:=8) ha hb
  have ho:d ||| ((a.getD i 0).toNat ^^^ (b.getD i 0).toNat)<256:=Nat.or_lt_two_pow (n:=8) g2 hx
  have m8:∀x:Nat,x<256→((x:Int)%256).toNat=x:=fun x h=>by omega
  have w8:∀x:Nat,x<256→IntKind.wrap .u8 (x:Int)=(x:Int):=fun x h=>by rw[u8_wrap,Nat.mod_eq_of_lt h]
  refine ckI (by first | (simp only[Bool.and_eq_true,Bool.and_true,Bool.true_and,decide_eq_true_eq,blt_iff,Nat.ble_eq,nbeq,cellsI_len,List.length_append,List.length_cons,List.length_nil,Int.toNat_natCast,and_true,true_and,Bool.or_eq_true,Bool.not_eq_true',bne_iff_ne,ne_eq];done) | (simp only[Bool.and_eq_true,Bool.and_true,Bool.true_and,decide_eq_true_eq,blt_iff,Nat.ble_eq,nbeq,cellsI_len,List.length_append,List.length_cons,List.length_nil,Int.toNat_natCast,and_true,true_and,Bool.or_eq_true,Bool.not_eq_true',bne_iff_ne,ne_eq];omega) | rfl | (simp;done) | (simp;omega)) ⟨_,rfl,ckI (by first | (simp only[Bool.and_eq_true,Bool.and_true,Bool.true_and,decide_eq_true_eq,blt_iff,Nat.ble_eq,nbeq,cellsI_len,List.length_append,List.length_cons,List.length_nil,Int.toNat_natCast,and_true,true_and,Bool.or_eq_true,Bool.not_eq_true',bne_iff_ne,ne_eq];done) | (simp only[Bool.and_eq_true,Bool.and_true,Bool.true_and,decide_eq_true_eq,blt_iff,Nat.ble_eq,nbeq,cellsI_len,List.length_append,List.length_cons,List.length_nil,Int.toNat_natCast,and_true,true_and,Bool.or_eq_true,Bool.not_eq_true',bne_iff_ne,ne_eq];omega) | rfl | (simp;done) | (simp;omega)) ⟨_,rfl, ?_⟩⟩
  rw[Int.toNat_natCast,show UInt8.ofNat 0=0 from rfl]
  refine ⟨_,by rw[m8 _ ha,m8 _ hb,w8 _ hx],_,by rw[m8 _ g2,m8 _ hx,w8 _ ho], ?_⟩
  refine wrapI (by omega) (by omega) ⟨⟨trivial,rfl⟩,(i+1,d ||| ((a.getD i 0).toNat ^^^ (b.getD i 0).toNat)),⟨hi,ho, ?_⟩, ?_,by simp⟩
  ·show d ||| ((a.getD i 0).toNat ^^^ (b.getD i 0).toNat)=0↔a.take (i+1)=b.take (i+1)
   rw[take_snocD a 0 hi,take_snocD b 0 hib,snoc_iff,←g3]
   rw[Nat.or_eq_zero_iff,xor_zero_iff,UInt8.toNat_inj]
  ·show a.length-(i+1)<a.length-i
   omega
 ·obtain rfl:i=a.length:=by omega
  have e1:a.take a.length=a:=List.take_length
  have e2:b.take a.length=b:=by rw[h1,List.take_length]
  rw[e1,e2] at g3
  refine splitE (fun h => ?_) (fun h => ?_)
  ·have:a=b:=g3.1 (by omega)
   rw[decide_eq_true this] at hq
   exact hq
  ·have:¬ a=b:=fun h2=>h (by have:=g3.2 h2;omega)
   rw[decide_eq_false this] at hq
   exact hq
def cEqual:Con
 | [.str a,.str b],H,K=>Lf (a.length=b.length∧a.length≤4611686018)∧∀t,Lf (t=decide (a=b))→K (.ret (.bool t)) H
 | _,_,_=>False
theorem equal_ok:ValidF Tryz.prog gl0 128 cEqual:=by
 refine valid_flat (enters_of (by kernel_rfl)) gl0_noY fun args H Q hc => ?_
 unfold cEqual at hc
 split at hc
 ·rename_i a b
  obtain ⟨⟨h1,h2⟩,hq⟩:=hc
  obtain ⟨hv,hb',h⟩:=equal_run a b (Q:=fun o H' _=>H'=[]∧(∃v,o=.ret v∧old 0 v=true∧noY v=true)∧Q o H) h1 h2 ⟨rfl,⟨_,rfl,rfl,rfl⟩,hq _ ⟨rfl⟩⟩
  exact ⟨rfl,rfl,_,1000,envFor04 sm0_ok _ _ _,rfl,h⟩
 ·exact hc.elim

def smO:SM:=lookS [(117,cApply),(165,cBlock),(119,cChecked),(128,cEqual)]
theorem smO_ok:∀f g,smO f=some g→ValidF Tryz.prog gl0 f g:=lookS_ok _ (by simp only[List.mem_cons,List.not_mem_nil,or_false,forall_eq_or_imp,forall_eq];exact ⟨apply_ok,block_ok,checked_ok,equal_ok⟩)
noncomputable def goal_20 (hv:Nat→Option Pa) (hb:Nat→Option Bool) (key nonce extra box:List UInt8) (Q:Out→List Blk→Gh→Prop):Prop:=
 callx (e04 smO (fun _=>none) hv hb) (wpx (e04 smO (fun _=>none) hv hb) 1000) 82 [.str key,.str nonce,.str extra,.str box] [] {} Q
theorem vc_20 (key:List UInt8) (nonce:List UInt8) (extra:List UInt8) (box:List UInt8) (Q:Out→List Blk→Gh→Prop):goal_20 (lookV [(335894,.int .i64),(335895,.int .i64),(335901,.str),(335907,.str),(335915,.str),
 (483351,.int .i64),(483355,.int .i64)]) (lookB []) key nonce extra box Q=(∀s_0:List UInt8,∀e_1:Int,Lf (blockM key nonce 0=Prod.mk s_0 e_1)→bif e_1 !=0 then bif e_1 !=0 then Q (.ret (.tup [.str [],.int .i64 e_1])) [] {}
 else exI .i64 (box.length:Int) fun n_2=>exW .i64 (n_2-16) fun n_3=>bif decide (n_3<0) then Q (.ret (.tup [.str [],.int .i64 7])) [] {} else ckQ (decide (0≤n_3)&&true&&Nat.ble n_3.toNat box.length&&Nat.ble box.length
 box.length) (exS (.str ((box.drop n_3.toNat).take (box.length-n_3.toNat))) fun s_4=>ckQ (decide (0≤n_3)&&true&&Nat.ble n_3.toNat box.length) (exS (.str ((box.drop 0).take (n_3.toNat-0))) fun s_5=>Lf (rightM key nonce 0=true
 ∧ extra.length<65536∧s_5.length<65536)∧∀t_6:List UInt8,Lf (t_6=checkM key nonce extra s_5)→Lf (s_4.length=t_6.length∧s_4.length≤4611686018)∧∀t_7:Bool,Lf (t_7=decide (s_4=t_6))→bif t_7 then ckQ (decide (0 ≤
 n_3)&&true&&Nat.ble n_3.toNat box.length) (exS (.str ((box.drop 0).take (n_3.toNat-0))) fun s_8=>∀t_9:List UInt8,∀e_10:Int,Lf (applyM key nonce 1 s_8=Prod.mk t_9 e_10)→Q (.ret (.tup [.str t_9,.int .i64 e_10])) [] {})
 else Q (.ret (.tup [.str [],.int .i64 9])) [] {})) else exI .i64 (extra.length:Int) fun n_2=>bif decide (n_2>4096) then Q (.ret (.tup [.str [],.int .i64 3])) [] {} else exI .i64 (box.length:Int) fun n_3=>bif decide (n_3>4112)
 then Q (.ret (.tup [.str [],.int .i64 3])) [] {} else exI .i64 (box.length:Int) fun n_4=>exW .i64 (n_4-16) fun n_5=>bif decide (n_5<0) then Q (.ret (.tup [.str [],.int .i64 7])) [] {} else ckQ (decide (0≤n_5)&&true &&
 Nat.ble n_5.toNat box.length&&Nat.ble box.length box.length) (exS (.str ((box.drop n_5.toNat).take (box.length-n_5.toNat))) fun s_6=>ckQ (decide (0≤n_5)&&true&&Nat.ble n_5.toNat box.length) (exS (.str ((box.drop 0).take
 (n_5.toNat-0))) fun s_7=>Lf (rightM key nonce 0=true∧extra.length<65536∧s_7.length<65536)∧∀t_8:List UInt8,Lf (t_8=checkM key nonce extra s_7)→Lf (s_6.length=t_8.length∧s_6.length≤4611686018)∧∀t_9:Bool,Lf
 (t_9=decide (s_6=t_8))→bif t_9 then ckQ (decide (0≤n_5)&&true&&Nat.ble n_5.toNat box.length) (exS (.str ((box.drop 0).take (n_5.toNat-0))) fun s_10=>∀t_11:List UInt8,∀e_12:Int,Lf (applyM key nonce 1 s_10=Prod.mk
 t_11 e_12)→Q (.ret (.tup [.str t_11,.int .i64 e_12])) [] {}) else Q (.ret (.tup [.str [],.int .i64 9])) [] {}))):=by kernel_rfl

def openM (key nonce extra box:List UInt8):List UInt8×Int:=
 if rightM key nonce 0=false then ([],2) else if 4096<extra.length∨4112<box.length then ([],3) else if box.length<16 then ([],7) else
  if box.drop (box.length-16)=checkM key nonce extra (box.take (box.length-16)) then (appM (firstM key nonce) 1 70 (box.take (box.length-16)),0) else ([],9)
def cOpen:Con
 | [.str key,.str nonce,.str extra,.str box],H,K=>∀t e,Lf (openM key nonce extra box=(t,e))→K (.ret (.tup [.str t,.int .i64 e])) H
 | _,_,_=>False
theorem open_ok:ValidF Tryz.prog gl0 82 cOpen:=by
 refine valid_flat (enters_of (by kernel_rfl)) gl0_noY fun args H Q hc => ?_
 unfold cOpen at hc
 split at hc
 ·rename_i key nonce extra box
  refine ⟨rfl,rfl,_,1000,⟨mixed04,names04,tabA_ok,smO_ok⟩,rfl,(vc_20 key nonce extra box _).mpr ?_⟩
  intro s e ⟨hs⟩
  rcases block_err hs with ⟨hr,rfl⟩ | ⟨hr,rfl⟩
  ·refine splitNE (fun h=>splitNE (fun _ => ?_) (fun h2=>absurd h2 h)) (fun h=>by cases h)
   exact ⟨rfl,⟨_,rfl,rfl,rfl⟩,hc _ _ ⟨by rw[openM,if_pos hr]⟩⟩
  ·refine splitNE (fun h=>absurd rfl h) (fun _=>⟨_,rfl,splitD (fun h2 => ?_) (fun h2=>⟨_,rfl,splitD (fun h3 => ?_) (fun h3 => ?_)⟩)⟩)
   ·exact ⟨rfl,⟨_,rfl,rfl,rfl⟩,hc _ _ ⟨by rw[openM,if_neg (by simp[hr]),if_pos (by omega)]⟩⟩
   ·exact ⟨rfl,⟨_,rfl,rfl,rfl⟩,hc _ _ ⟨by rw[openM,if_neg (by simp[hr]),if_pos (by omega)]⟩⟩
   ·refine ⟨_,rfl,wrapI (by omega) (by omega) (splitD (fun h4 => ?_) (fun h4 => ?_))⟩
    ·exact ⟨rfl,⟨_,rfl,rfl,rfl⟩,hc _ _ ⟨by rw[openM,if_neg (by simp[hr]),if_neg (by omega),if_pos (by omega)]⟩⟩
    ·have en:((box.length:Int)-16).toNat=box.length-16:=by omega
     rw[en]
     have e1:List.take (box.length-(box.length-16)) (List.drop (box.length-16) box)=box.drop (box.length-16):=List.take_of_length_le (by rw[List.length_drop];omega)
     have e2:List.take (box.length-16-0) (List.drop 0 box)=box.take (box.length-16):=by rw[Nat.sub_zero,List.drop_zero]
     rw[e1,e2]
     have hdl:(box.drop (box.length-16)).length=16:=by rw[List.length_drop];omega
     have htl:(box.take (box.length-16)).length=box.length-16:=by rw[List.length_take];omega
     refine ckI (by first | (simp only[Bool.and_eq_true,Bool.and_true,Bool.true_and,decide_eq_true_eq,blt_iff,Nat.ble_eq,nbeq,cellsI_len,List.length_append,List.length_cons,List.length_nil,Int.toNat_natCast,and_true,true_and,Bool.or_eq_true,Bool.not_eq_true',bne_iff_ne,ne_eq];done) | (simp only[Bool.and_eq_true,Bool.and_true,Bool.true_and,decide_eq_true_eq,blt_iff,Nat.ble_eq,nbeq,cellsI_len,List.length_append,List.length_cons,List.length_nil,Int.toNat_natCast,and_true,true_and,Bool.or_eq_true,Bool.not_eq_true',bne_iff_ne,ne_eq];omega) | rfl | (simp;done) | (simp;omega)) ⟨_,rfl,ckI (by first | (simp only[Bool.and_eq_true,Bool.and_true,Bool.true_and,decide_eq_true_eq,blt_iff,Nat.ble_eq,nbeq,cellsI_len,List.length_append,List.length_cons,List.length_nil,Int.toNat_natCast,and_true,true_and,Bool.or_eq_true,Bool.not_eq_true',bne_iff_ne,ne_eq];done) | (simp only[Bool.and_eq_true,Bool.and_true,Bool.true_and,decide_eq_true_eq,blt_iff,Nat.ble_eq,nbeq,cellsI_len,List.length_append,List.length_cons,List.length_nil,Int.toNat_natCast,and_true,true_and,Bool.or_eq_true,Bool.not_eq_true',bne_iff_ne,ne_eq];omega) | rfl | (simp;done) | (simp;omega)) ⟨_,rfl,⟨hr,by omega,by omega⟩,fun u hu=>⟨⟨by rw[hdl,hu.h,check_len],by omega⟩,fun b hb => ?_⟩⟩⟩
     by_cases heq:box.drop (box.length-16)=checkM key nonce extra (box.take (box.length-16))
     ·have hbt:b=true:=by rw[hb.h,hu.h];exact decide_eq_true heq
      rw[hbt]
      refine ckI (by first | (simp only[Bool.and_eq_true,Bool.and_true,Bool.true_and,decide_eq_true_eq,blt_iff,Nat.ble_eq,nbeq,cellsI_len,List.length_append,List.length_cons,List.length_nil,Int.toNat_natCast,and_true,true_and,Bool.or_eq_true,Bool.not_eq_true',bne_iff_ne,ne_eq];done) | (simp only[Bool.and_eq_true,Bool.and_true,Bool.true_and,decide_eq_true_eq,blt_iff,Nat.ble_eq,nbeq,cellsI_len,List.length_append,List.length_cons,List.length_nil,Int.toNat_natCast,and_true,true_and,Bool.or_eq_true,Bool.not_eq_true',bne_iff_ne,ne_eq];omega) | rfl | (simp;done) | (simp;omega)) ⟨_,rfl,fun t e ht => ?_⟩
      rw[apply_one hr (by omega)] at ht
      exact ⟨rfl,⟨_,rfl,rfl,rfl⟩,hc _ _ ⟨by rw[openM,if_neg (by simp[hr]),if_neg (by omega),if_neg (by omega),if_pos heq];exact ht.h⟩⟩
     ·have hbt:b=false:=by rw[hb.h,hu.h];exact decide_eq_false heq
      rw[hbt]
      exact ⟨rfl,⟨_,rfl,rfl,rfl⟩,hc _ _ ⟨by rw[openM,if_neg (by simp[hr]),if_neg (by omega),if_neg (by omega),if_neg heq]⟩⟩
 ·exact hc.elim
end Go.Proofs.YtnhechnaemmdiaaGreatDoor

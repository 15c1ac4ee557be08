/-
  Chapter 21: the reference's code: a key with an octet: residual.
-/
import Derived.Test.YtjenieljapmehaaGreatDoorG21DO
import Derived.Test.YtjenieljapmehaaGreatDoorG21ZA
set_option linter.unusedSimpArgs false
set_option linter.unusedVariables false
set_option linter.unusedSectionVars false
namespace Go.Proofs.YtjenieljapmehaaGreatDoor
open Go.RowKit
set_option maxRecDepth 1000000

def inv_113 (key:List UInt8) (c:Nat) (s:S):List (List LInv):=match s.hp with
 | [⟨k,f,_⟩]=>[[{ α:=Nat,pre:=fun i=>Lf (i≤64),st:=fun i=>⟨mkT [(1,s.tm.get 1),(5,s.tm.get 5),(6,.int .i64 (i:Nat))],[⟨k,f,ofBytes (wthM c (padKM key) i)⟩]⟩,mu:=fun i=>64-i }]]
 | _=>[]
noncomputable def env_113 (hv:Nat→Option Pa) (hb:Nat→Option Bool) (key:List UInt8) (c:Nat):Env:=e18 sm0 (fun i=>bif Nat.beq i 113000 then some (inv_113 key c) else none) hv hb
noncomputable def goal_113 (hv:Nat→Option Pa) (hb:Nat→Option Bool) (key:List UInt8) (c:Nat) (Q:Out→List Blk→Gh→Prop):Prop:=
 callx (env_113 hv hb key c) (wpx (env_113 hv hb key c) 1000) 113 [.str key,.int .i64 (c:Nat)] [] {} Q
theorem vc_113 (key:List UInt8) (c:Nat) (Q:Out→List Blk→Gh→Prop):goal_113 (lookV [(462858,.int .i64),(462859,.int .i64),(462864,.int .i64),(462866,.int .i64),(462868,.int .u8),(462869,.int .i64),(462870,.int .u8),
 (462871,.int .u8),(462861,.int .i64),(462862,.int .i64),(462874,.str)]) (lookB [(1462848000,true)]) key c Q=(ckQ (oneL (ofBytes key)) (exI .i64 (minN key.length 64:Int) fun n_0=>(∃x_1:Nat,Lf (x_1≤64)∧ckQ (oldL 0
 ((ofBytes key).take (minN key.length 64*1))==oldL 0 ((ofBytes key).take (minN key.length 64*1))) (setRange zer64 0 ((ofBytes key).take (minN key.length 64*1))=ofBytes (wthM c (padKM key) x_1)∧eqqQ (AV.int .i64 (c:Int))∧eqqQ
 (AV.sl 0 64 0 64 1)∧AV.int .i64 0=AV.int .i64 (x_1:Int)∧True))∧∀x_1:Nat,Lf (x_1≤64)→exI .i64 (x_1:Int) fun n_2=>bif decide (n_2<64) then exI .i64 (x_1:Int) fun n_3=>exI .i64 (x_1:Int) fun n_4=>ckQ (decide (0
 ≤ n_4)&&Nat.blt n_4.toNat 64&&Nat.beq (ofBytes (wthM c (padKM key) x_1)).length 64&&true) (ckQ (Nat.beq (ofBytes (wthM c (padKM key) x_1)).length 64&&Nat.blt (0+n_4.toNat*1) 64) (exV .u8 ((((ofBytes (wthM c (padKM key)
 x_1)).drop (0+n_4.toNat*1)).take 1).getD 0 AV.undef) fun n_5=>exI .i64 (c:Int) fun n_6=>exW .u8 n_6 fun n_7=>exW .u8 (((n_5%256).toNat ^^^ (n_7%256).toNat:Nat):Int) fun n_8=>ckQ (decide (0≤n_3)&&Nat.blt n_3.toNat
 64&&Nat.beq (ofBytes (wthM c (padKM key) x_1)).length 64&&true) (ckQ (Nat.beq (ofBytes (wthM c (padKM key) x_1)).length 64&&Nat.ble (0+n_3.toNat*1+1) 64&&true&&true&&true) (exI .i64 (x_1:Int) fun n_9=>exW .i64 (n_9 +
 1) fun n_10=>((oldL 0 ((ofBytes key).take (minN key.length 64*1))&&true||oldL 1 (setRange (ofBytes (wthM c (padKM key) x_1)) (0+n_3.toNat*1) [.int .u8 n_8]))&&true)=true∧(True∧(0:Nat)=(0:Nat))∧∃y_11:Nat,Lf
 (y_11≤64)∧64-y_11<64-x_1∧ckQ ((oldL 0 ((ofBytes key).take (minN key.length 64*1))&&true)==oldL 0 ((ofBytes key).take (minN key.length 64*1))) (setRange (ofBytes (wthM c (padKM key) x_1)) (0+n_3.toNat*1) [.int .u8
 n_8]=ofBytes (wthM c (padKM key) y_11)∧eqqQ (AV.int .i64 (c:Int))∧eqqQ (AV.sl 0 64 0 64 1)∧AV.int .i64 n_10=AV.int .i64 (y_11:Int)∧True))))) else ckQ (Nat.beq (ofBytes (wthM c (padKM key) x_1)).length 64&&true&&true &&
 allU8 (((ofBytes (wthM c (padKM key) x_1)).drop 0).take 64)) (exS (.str (List.map toB (((ofBytes (wthM c (padKM key) x_1)).drop 0).take 64))) fun s_3=>Q (.ret (.str s_3)) [] {}))):=by kernel_rfl

end Go.Proofs.YtjenieljapmehaaGreatDoor

set_option linter.unusedSimpArgs false
set_option linter.unusedVariables false
set_option linter.unusedSectionVars false
namespace Go.Proofs.YtjenieljapmehaaGreatDoor
open Go.RowKit
set_option maxRecDepth 1000000

theorem drop_app {α:Type} (x y:List α) (n m:Nat) (h:x.length=n):(x++y).drop (n+m)=y.drop m:=by
 subst h
 rw[List.drop_append,List.drop_eq_nil_of_le (by omega)]
 simp
theorem add_add (kk:List Nat) (v:W8) (t:List UInt8) (n:Nat) (a b:List UInt8):addM kk (addM kk (v,t,n) a) b=addM kk (v,t,n) (a++b):=by
 simp only[addM]
 have htk:((t++a).take (64*((t++a).length/64))).length=64*((t++a).length/64):=by rw[List.length_take];omega
 have hsp:t++(a++b)=(t++a).take (64*((t++a).length/64))++((t++a).drop ((t++a).length/64*64)++b):=by
  rw[show (t++a).length/64*64=64*((t++a).length/64) by omega,←List.append_assoc,←List.append_assoc,List.take_append_drop]
 generalize hX:(t++a).take (64*((t++a).length/64))=X at htk hsp
 generalize hY:(t++a).drop ((t++a).length/64*64)++b=Y at hsp ⊢
 have hXm:mixM kk ((t++a).length/64) v (t++a)=mixM kk ((t++a).length/64) v X:=by rw[←hX,mix_take kk _ _ _ (by omega)]
 rw[hXm,hsp]
 generalize (t++a).length/64=q at htk ⊢
 have hq:(X++Y).length/64=q+Y.length/64:=by rw[List.length_append,htk];omega
 rw[hq,mix_app kk _ _ _ _ _ htk,show (q+Y.length/64)*64=64*q+Y.length/64*64 by omega,drop_app X Y _ _ htk,List.length_append,Nat.add_assoc]
theorem add_nil (kk:List Nat) (v:W8) (t:List UInt8) (n:Nat) (h:t.length<64):addM kk (v,t,n) []=(v,t,n):=by
 have:t.length/64=0:=by omega
 simp[addM,this,mixM]
theorem add_lt (kk:List Nat) (x:W8×List UInt8×Nat) (s:List UInt8):(addM kk x s).2.1.length<64:=by
 simp only[addM]
 rw[List.length_drop]
 omega
theorem fold_flat (kk:List Nat):∀ (l:List (List UInt8)) (x:W8×List UInt8×Nat),x.2.1.length<64→l.foldl (addM kk) x=addM kk x l.flatten
 | [],(v,t,n),h=>by rw[List.flatten_nil,add_nil kk v t n h];rfl
 | a::l,(v,t,n),h=>by
  rw[List.foldl_cons,fold_flat kk l _ (add_lt kk _ _),List.flatten_cons,add_add]
theorem sum_flat (l:List (List UInt8)):sumSM l=sumSM [l.flatten]:=by
 simp only[sumSM,sumLM,fold_flat kkM l (startW,[],0) (by simp),List.foldl_cons,List.foldl_nil]
theorem mac_flat (key:List UInt8) (l:List (List UInt8)):macSM key l=macSM key [l.flatten]:=by
 unfold macSM
 rw[sum_flat (withM 54 (if 64<key.length then sumSM [key] else key)::l),sum_flat [withM 54 (if 64<key.length then sumSM [key] else key),l.flatten]]
 simp
theorem chg_run (key:List UInt8) (c:Nat) (h:key.length≤64) (hc:c<256) (Q:Out→List Blk→Gh→Prop) (hq:Q (.ret (.str (withM c key))) [] {}):∃hv hb,goal_113 hv hb key c Q:=by
 obtain ⟨hv',hb',e'⟩:∃hv hb,goal_113 hv hb key c Q=_:=⟨_,_,vc_113 key c Q⟩
 refine ⟨hv',hb',e'.mpr ?_⟩
 clear e'
 have hp:=pad_len h
 have hO:(oldL 0 (List.take (min key.length 64*1) (ofBytes key)))=true:=by
  rw[List.take_of_length_le (by rw[ofB_len];omega),oldL_ofB]
 refine ckI (oneL_ofB key) ⟨_,rfl, ?_⟩
 rw[pad_zero h,hO]
 refine ⟨⟨0,⟨by omega⟩,ckI rfl ⟨by rw[wth_zero],rfl,rfl,rfl,trivial⟩⟩, ?_⟩
 rintro i ⟨hi⟩
 have hw:=wth_len c hp i hi
 refine ⟨_,rfl,splitD (fun hlt => ?_) (fun hge => ?_)⟩
 ·have hi':i<64:=by omega
  refine ⟨_,rfl,_,rfl,ckI (by rw[ofB_len,hw];simp;omega) (ckI (by rw[ofB_len,hw];simp;omega) (ldB (j:=i) (by rw[hw];exact hi') (by simp) ⟨_,rfl,_,rfl,_,rfl,ckI (by rw[ofB_len,hw];simp;omega) (ckI (by rw[ofB_len,hw];simp;omega) ⟨_,rfl,wrapI (by omega) (by omega) ⟨?_,⟨trivial,rfl⟩,i+1,⟨by omega⟩,by omega,ckI rfl ⟨?_,rfl,rfl,rfl,trivial⟩⟩⟩)⟩))⟩
  ·rfl
  ·have ew:IntKind.wrap .u8 ((c:Nat):Int)=(c:Int):=by rw[u8_wrap,Nat.mod_eq_of_lt hc]
   rw[ew,xor8,wth_get c hp hi',stB (j:=i) (by rw[hw];exact hi') (by simp),wth_set c hp hi']
 ·obtain rfl:i=64:=by omega
  rw[wth_all c key h] at hw ⊢
  have e:List.take 64 (List.drop 0 (ofBytes (withM c key)))=ofBytes (withM c key):=by
   rw[List.drop_zero,List.take_of_length_le (by rw[ofB_len,hw];omega)]
  refine ckI (by rw[e,ofB_len,hw,allU8_ofB];rfl) ⟨_,rfl, ?_⟩
  rw[e,toB_ofB]
  exact hq
def cChg:Con
 | [.str key,.int .i64 c],H,K=>∃n:Nat,Lf (c=(n:Int)∧n<256∧key.length≤64)∧∀x,Lf (x=withM n key)→K (.ret (.str x)) H
 | _,_,_=>False
theorem chg_ok:ValidF Tryz.prog gl0 113 cChg:=by
 refine valid_flat (enters_of (by kernel_rfl)) gl0_noY fun args H Q hc => ?_
 unfold cChg at hc
 split at hc
 ·rename_i key c
  obtain ⟨n,⟨rfl,h1,h2⟩,hq⟩:=hc
  obtain ⟨hv,hb',h⟩:=chg_run key n h2 h1 (Q:=fun o H' _=>H'=[]∧(∃v,o=.ret v∧old 0 v=true∧noY v=true)∧Q o H) ⟨rfl,⟨_,rfl,rfl,rfl⟩,hq _ ⟨rfl⟩⟩
  exact ⟨rfl,rfl,_,1000,envFor18 sm0_ok _ hv hb',rfl,h⟩
 ·exact hc.elim
def smE1:SM:=lookS [(113,cChg),(112,cSum58)]
theorem smE1_ok:∀f g,smE1 f=some g→ValidF Tryz.prog gl0 f g:=lookS_ok _ (by simp only[List.mem_cons,List.not_mem_nil,or_false,forall_eq_or_imp,forall_eq];exact ⟨chg_ok,sum58_ok⟩)
abbrev tabA2 (sc kc:List AV):AV:=.agg [.lst 0 sc 8 1,.lst 0 kc 64 1]
noncomputable def goal_m86 (hv:Nat→Option Pa) (hb:Nat→Option Bool) (sc kc:List AV) (key s:List UInt8) (Q:Out→List Blk→Gh→Prop):Prop:=
 callx (e18 smE1 (fun _=>none) hv hb) (wpx (e18 smE1 (fun _=>none) hv hb) 1000) 86 [.agg [.lst 0 sc 8 1,.lst 0 kc 64 1],.str key,.str s] [] {} Q
theorem vc_m86 (sc:List AV) (kc:List AV) (key:List UInt8) (s:List UInt8) (Q:Out→List Blk→Gh→Prop):goal_m86 (lookV [(352264,.int .i64),(352276,.str),(352278,.str)]) (lookB []) sc kc key s Q=(exI .i64 (key.length :
 Int) fun n_0=>bif decide (n_0>64) then Lf (sc=cells6M startM∧kc=cells6M kkM∧key.length≤100000)∧∀x_1:List UInt8,Lf (x_1=sum1M key)→∃n_2:Nat,Lf (92=(n_2:Int)∧n_2<256∧x_1.length≤64)∧∀x_3:List
 UInt8,Lf (x_3=withM n_2 x_1)→ckQ (eqAVL [.lst 0 sc 8 1,.lst 0 kc 64 1] [.lst 0 sc 8 1,.lst 0 kc 64 1]&&true) (ckQ (eqAVL [.lst 0 sc 8 1,.lst 0 kc 64 1] [.lst 0 sc 8 1,.lst 0 kc 64 1]&&true) (∃n_4:Nat,Lf (54=(n_4:Int) ∧
 n_4<256∧x_1.length≤64)∧∀x_5:List UInt8,Lf (x_5=withM n_4 x_1)→ckQ (eqAVL [.lst 0 sc 8 1,.lst 0 kc 64 1] [.lst 0 sc 8 1,.lst 0 kc 64 1]&&true) (ckQ (eqAVL [.lst 0 sc 8 1,.lst 0 kc 64 1] [.lst 0 sc 8 1,.lst 0 kc 64 1]
 && true) (ckQ (decide (x_5.length+s.length≤9223372036854775807)&&true) (exS (.str (x_5++s)) fun s_6=>Lf (sc=cells6M startM∧kc=cells6M kkM∧s_6.length≤100000)∧∀x_7:List UInt8,Lf (x_7=sum1M s_6)→ckQ (eqAVL [.lst
 0 sc 8 1,.lst 0 kc 64 1] [.lst 0 sc 8 1,.lst 0 kc 64 1]&&true) (ckQ (decide (x_3.length+x_7.length≤9223372036854775807)&&true) (exS (.str (x_3++x_7)) fun s_8=>Lf (sc=cells6M startM∧kc=cells6M kkM∧s_8.length≤100000)
 ∧ ∀x_9:List UInt8,Lf (x_9=sum1M s_8)→Q (.ret (.str x_9)) [] {}))))))) else ∃n_1:Nat,Lf (92=(n_1:Int)∧n_1<256∧key.length≤64)∧∀x_2:List UInt8,Lf (x_2=withM n_1 key)→ckQ (eqAVL [.lst 0 sc 8 1,.lst 0 kc 64 1]
 [.lst 0 sc 8 1,.lst 0 kc 64 1]&&true) (ckQ (eqAVL [.lst 0 sc 8 1,.lst 0 kc 64 1] [.lst 0 sc 8 1,.lst 0 kc 64 1]&&true) (∃n_3:Nat,Lf (54=(n_3:Int)∧n_3<256∧key.length≤64)∧∀x_4:List UInt8,Lf (x_4=withM n_3 key)
 → ckQ (eqAVL [.lst 0 sc 8 1,.lst 0 kc 64 1] [.lst 0 sc 8 1,.lst 0 kc 64 1]&&true) (ckQ (eqAVL [.lst 0 sc 8 1,.lst 0 kc 64 1] [.lst 0 sc 8 1,.lst 0 kc 64 1]&&true) (ckQ (decide (x_4.length+s.length≤9223372036854775807)&&true)
 (exS (.str (x_4++s)) fun s_5=>Lf (sc=cells6M startM∧kc=cells6M kkM∧s_5.length≤100000)∧∀x_6:List UInt8,Lf (x_6=sum1M s_5)→ckQ (eqAVL [.lst 0 sc 8 1,.lst 0 kc 64 1] [.lst 0 sc 8 1,.lst 0 kc 64 1]&&true) (ckQ
 (decide (x_2.length+x_6.length≤9223372036854775807)&&true) (exS (.str (x_2++x_6)) fun s_7=>Lf (sc=cells6M startM∧kc=cells6M kkM∧s_7.length≤100000)∧∀x_8:List UInt8,Lf (x_8=sum1M s_7)→Q (.ret (.str x_8)) []
 {})))))))):=by kernel_rfl

def labB (s:List UInt8):Bool:=s.all isDot
def inv_m28 (s:List UInt8) (_:S):List (List LInv):=[[{ α:=Nat,pre:=fun i=>Lf (i≤s.length∧labB (s.take i)=true),st:=fun i=>⟨mkT [(0,.str s),(3,.int .i64 (i:Nat))],[]⟩,mu:=fun i=>s.length-i }]]
noncomputable def env_m28 (hv:Nat→Option Pa) (hb:Nat→Option Bool) (s:List UInt8):Env:=e18 sm0 (fun i=>bif Nat.beq i 28000 then some (inv_m28 s) else none) hv hb
noncomputable def goal_m28 (hv:Nat→Option Pa) (hb:Nat→Option Bool) (s:List UInt8) (Q:Out→List Blk→Gh→Prop):Prop:=
 callx (env_m28 hv hb s) (wpx (env_m28 hv hb s) 1000) 28 [.str s] [] {} Q
theorem vc_m28 (s:List UInt8) (Q:Out→List Blk→Gh→Prop):goal_m28 (lookV [(114692,.int .i64),(114694,.int .i64),(114699,.int .i64),(114700,.int .u8),(114704,.int .i64),(114705,.int .u8),(114696,.int .i64),(114697,
 .int .i64),(114710,.int .i64),(114711,.int .u8),(114715,.int .i64),(114716,.int .u8),(114722,.int .i64),(114723,.int .u8),(114728,.int .i64),(114732,.int .i64)]) (lookB []) s Q=((∃x_0:Nat,Lf (x_0≤s.length∧labB
 (s.take x_0)=true)∧eqqQ (AV.str s)∧AV.int .i64 0=AV.int .i64 (x_0:Int)∧True)∧∀x_0:Nat,Lf (x_0≤s.length∧labB (s.take x_0)=true)→exI .i64 (x_0:Int) fun n_1=>exI .i64 (s.length:Int) fun n_2=>bif decide (n_1 <
 n_2) then exI .i64 (x_0:Int) fun n_3=>ckQ (decide (0≤n_3)&&Nat.blt n_3.toNat s.length) (exI .u8 (UInt8.toNat (s.getD n_3.toNat (UInt8.ofNat 0)):Int) fun n_4=>bif decide (n_4≥97) then exI .i64 (x_0:Int) fun n_5=>ckQ
 (decide (0≤n_5)&&Nat.blt n_5.toNat s.length) (exI .u8 (UInt8.toNat (s.getD n_5.toNat (UInt8.ofNat 0)):Int) fun n_6=>bif decide (n_6≤122) then exI .i64 (x_0:Int) fun n_7=>exW .i64 (n_7+1) fun n_8=>(True∧(0:Nat)=(0 :
 Nat))∧∃y_9:Nat,Lf (y_9≤s.length∧labB (s.take y_9)=true)∧s.length-y_9<s.length-x_0∧eqqQ (AV.str s)∧AV.int .i64 n_8=AV.int .i64 (y_9:Int)∧True else exI .i64 (x_0:Int) fun n_7=>ckQ (decide (0≤n_7) &&
 Nat.blt n_7.toNat s.length) (exI .u8 (UInt8.toNat (s.getD n_7.toNat (UInt8.ofNat 0)):Int) fun n_8=>bif decide (n_8≥48) then exI .i64 (x_0:Int) fun n_9=>ckQ (decide (0≤n_9)&&Nat.blt n_9.toNat s.length) (exI .u8 (UInt8.toNat
 (s.getD n_9.toNat (UInt8.ofNat 0)):Int) fun n_10=>bif decide (n_10≤57) then exI .i64 (x_0:Int) fun n_11=>exW .i64 (n_11+1) fun n_12=>(True∧(0:Nat)=(0:Nat))∧∃y_13:Nat,Lf (y_13≤s.length∧labB (s.take y_13) =
 true)∧s.length-y_13<s.length-x_0∧eqqQ (AV.str s)∧AV.int .i64 n_12=AV.int .i64 (y_13:Int)∧True else exI .i64 (x_0:Int) fun n_11=>ckQ (decide (0≤n_11)&&Nat.blt n_11.toNat s.length) (exI .u8 (UInt8.toNat (s.getD
 n_11.toNat (UInt8.ofNat 0)):Int) fun n_12=>bif n_12==32 then exI .i64 (x_0:Int) fun n_13=>exW .i64 (n_13+1) fun n_14=>(True∧(0:Nat)=(0:Nat))∧∃y_15:Nat,Lf (y_15≤s.length∧labB (s.take y_15)=true)∧s.length
 - y_15<s.length-x_0∧eqqQ (AV.str s)∧AV.int .i64 n_14=AV.int .i64 (y_15:Int)∧True else Q (.ret (.bool false)) [] {})) else exI .i64 (x_0:Int) fun n_9=>ckQ (decide (0≤n_9)&&Nat.blt n_9.toNat s.length) (exI .u8
 (UInt8.toNat (s.getD n_9.toNat (UInt8.ofNat 0)):Int) fun n_10=>bif n_10==32 then exI .i64 (x_0:Int) fun n_11=>exW .i64 (n_11+1) fun n_12=>(True∧(0:Nat)=(0:Nat))∧∃y_13:Nat,Lf (y_13≤s.length∧labB (s.take y_13)
 = true)∧s.length-y_13<s.length-x_0∧eqqQ (AV.str s)∧AV.int .i64 n_12=AV.int .i64 (y_13:Int)∧True else Q (.ret (.bool false)) [] {}))) else exI .i64 (x_0:Int) fun n_5=>ckQ (decide (0≤n_5)&&Nat.blt n_5.toNat
 s.length) (exI .u8 (UInt8.toNat (s.getD n_5.toNat (UInt8.ofNat 0)):Int) fun n_6=>bif decide (n_6≥48) then exI .i64 (x_0:Int) fun n_7=>ckQ (decide (0≤n_7)&&Nat.blt n_7.toNat s.length) (exI .u8 (UInt8.toNat (s.getD n_7.toNat
 (UInt8.ofNat 0)):Int) fun n_8=>bif decide (n_8≤57) then exI .i64 (x_0:Int) fun n_9=>exW .i64 (n_9+1) fun n_10=>(True∧(0:Nat)=(0:Nat))∧∃y_11:Nat,Lf (y_11≤s.length∧labB (s.take y_11)=true)∧s.length-y_11
 < s.length-x_0∧eqqQ (AV.str s)∧AV.int .i64 n_10=AV.int .i64 (y_11:Int)∧True else exI .i64 (x_0:Int) fun n_9=>ckQ (decide (0≤n_9)&&Nat.blt n_9.toNat s.length) (exI .u8 (UInt8.toNat (s.getD n_9.toNat (UInt8.ofNat 0)) :
 Int) fun n_10=>bif n_10==32 then exI .i64 (x_0:Int) fun n_11=>exW .i64 (n_11+1) fun n_12=>(True∧(0:Nat)=(0:Nat))∧∃y_13:Nat,Lf (y_13≤s.length∧labB (s.take y_13)=true)∧s.length-y_13<s.length-x_0∧eqqQ
 (AV.str s)∧AV.int .i64 n_12=AV.int .i64 (y_13:Int)∧True else Q (.ret (.bool false)) [] {})) else exI .i64 (x_0:Int) fun n_7=>ckQ (decide (0≤n_7)&&Nat.blt n_7.toNat s.length) (exI .u8 (UInt8.toNat (s.getD n_7.toNat
 (UInt8.ofNat 0)):Int) fun n_8=>bif n_8==32 then exI .i64 (x_0:Int) fun n_9=>exW .i64 (n_9+1) fun n_10=>(True∧(0:Nat)=(0:Nat))∧∃y_11:Nat,Lf (y_11≤s.length∧labB (s.take y_11)=true)∧s.length-y_11 <
 s.length-x_0∧eqqQ (AV.str s)∧AV.int .i64 n_10=AV.int .i64 (y_11:Int)∧True else Q (.ret (.bool false)) [] {}))) else exI .i64 (s.length:Int) fun n_3=>bif decide (n_3≥1) then exI .i64 (s.length:Int) fun n_4=>bif decide
 (n_4≤24) then Q (.ret (.bool true)) [] {} else Q (.ret (.bool false)) [] {} else Q (.ret (.bool false)) [] {}):=by kernel_rfl

end Go.Proofs.YtjenieljapmehaaGreatDoor

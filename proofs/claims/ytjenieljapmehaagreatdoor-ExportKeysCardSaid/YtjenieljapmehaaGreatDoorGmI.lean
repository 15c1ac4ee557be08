/-
  Chapter 21: the reference's Mac and Label, proved; Derive: residual.
-/
import Derived.Test.YtjenieljapmehaaGreatDoorGmH
import Derived.Test.YtjenieljapmehaaGreatDoorG21QR
set_option linter.unusedSimpArgs false
set_option linter.unusedVariables false
set_option linter.unusedSectionVars false
namespace Go.Proofs.YtjenieljapmehaaGreatDoor
open Go.RowKit
set_option maxRecDepth 1000000

theorem sum1_eq (s:List UInt8):sum1M s=sumSM [s]:=rfl
theorem sum1_len (s:List UInt8):(sum1M s).length=32:=sumL_len _ _ _
theorem macr_run (sc kc:List AV) (key s:List UInt8) (h1:sc=cells6M startM) (h2:kc=cells6M kkM) (hk:key.length≤10000) (hs:s.length≤10000) (Q:Out→List Blk→Gh→Prop) (hq:Q (.ret (.str (macSM key [s]))) [] {}):∃hv hb,goal_m86 hv hb sc kc key s Q:=by
 obtain ⟨hv',hb',e'⟩:∃hv hb,goal_m86 hv hb sc kc key s Q=_:=⟨_,_,vc_m86 sc kc key s Q⟩
 refine ⟨hv',hb',e'.mpr ?_⟩
 clear e'
 refine ⟨_,rfl,splitD (fun h => ?_) (fun h => ?_)⟩
 ·have hq':Q (.ret (.str (sum1M (withM 92 (sum1M key)++sum1M (withM 54 (sum1M key)++s))))) [] {}:=by
   rw[macSM,if_pos (by omega),sum_flat [withM 54 _,s],sum_flat [withM 92 _,_]] at hq
   simpa [sum1_eq] using hq
  refine ⟨⟨h1,h2,by omega⟩, ?_⟩
  rintro k ⟨ek⟩
  rw[←ek] at hq'
  have hk':k.length≤64:=by rw[ek,sum1_len];omega
  have w1:=with_len (c:=92) hk'
  have w2:=with_len (c:=54) hk'
  refine ⟨92,⟨rfl,by omega,hk'⟩, ?_⟩
  rintro x3 ⟨rfl⟩
  refine ckF (ckF ⟨54,⟨rfl,by omega,hk'⟩, ?_⟩)
  rintro x5 ⟨rfl⟩
  refine ckF (ckF (ckI (by simp;omega) ⟨_,rfl,⟨h1,h2,by rw[List.length_append];omega⟩, ?_⟩))
  rintro x7 ⟨e7⟩
  have l7:=sum1_len (withM 54 k++s)
  rw[←e7] at l7 hq'
  refine ckF (ckI (by simp;omega) ⟨_,rfl,⟨h1,h2,by rw[List.length_append];omega⟩, ?_⟩)
  rintro x9 ⟨rfl⟩
  exact hq'
 ·have hq':Q (.ret (.str (sum1M (withM 92 key++sum1M (withM 54 key++s))))) [] {}:=by
   rw[macSM,if_neg (by omega),sum_flat [withM 54 _,s],sum_flat [withM 92 _,_]] at hq
   simpa [sum1_eq] using hq
  have hk':key.length≤64:=by omega
  have w1:=with_len (c:=92) hk'
  have w2:=with_len (c:=54) hk'
  refine ⟨92,⟨rfl,by omega,hk'⟩, ?_⟩
  rintro x3 ⟨rfl⟩
  refine ckF (ckF ⟨54,⟨rfl,by omega,hk'⟩, ?_⟩)
  rintro x5 ⟨rfl⟩
  refine ckF (ckF (ckI (by simp;omega) ⟨_,rfl,⟨h1,h2,by rw[List.length_append];omega⟩, ?_⟩))
  rintro x7 ⟨e7⟩
  have l7:=sum1_len (withM 54 key++s)
  rw[←e7] at l7 hq'
  refine ckF (ckI (by simp;omega) ⟨_,rfl,⟨h1,h2,by rw[List.length_append];omega⟩, ?_⟩)
  rintro x9 ⟨rfl⟩
  exact hq'
abbrev tabO (sc kc:List AV):Prop:=sc=cells6M startM∧kc=cells6M kkM
def cMacR:Con
 | [.agg [.lst 0 sc 8 1,.lst 0 kc 64 1],.str key,.str s],H,K=>Lf (tabO sc kc∧key.length≤10000∧s.length≤10000)∧∀x,Lf (x=macSM key [s])→K (.ret (.str x)) H
 | _,_,_=>False
theorem flat6 (l:List Nat):oldL 0 (cells6M l)=true∧noYL (cells6M l)=true:=by
 induction l with
 | nil=>exact ⟨rfl,rfl⟩
 | cons x l ih=>
  simp only[cells6M,List.map_cons,oldL,noYL,old,noY,Bool.true_and] at ih ⊢
  exact ih
theorem tab_flat (sc kc:List AV) (h:tabO sc kc):old 0 (tabA2 sc kc)=true∧noY (tabA2 sc kc)=true:=by
 obtain ⟨rfl,rfl⟩:=h
 simp[old,noY,oldL,noYL,flat6]
theorem macr_ok:ValidF Tryz.prog gl0 86 cMacR:=by
 refine valid_flat (enters_of (by kernel_rfl)) gl0_noY fun args H Q hc => ?_
 unfold cMacR at hc
 split at hc
 ·rename_i sc kc key s
  obtain ⟨⟨h1,h2,h3⟩,hq⟩:=hc
  obtain ⟨hv,hb',h⟩:=macr_run sc kc key s h1.1 h1.2 h2 h3 (Q:=fun o H' _=>H'=[]∧(∃v,o=.ret v∧old 0 v=true∧noY v=true)∧Q o H) ⟨rfl,⟨_,rfl,rfl,rfl⟩,hq _ ⟨rfl⟩⟩
  have ht:=tab_flat sc kc h1
  exact ⟨by simp only[oldL,ht.1,old,Bool.and_self],by simp only[noYL,ht.2,noY,Bool.and_self],_,1000,envFor18 smE1_ok _ hv hb',rfl,h⟩
 ·exact hc.elim
theorem lab_succ {s:List UInt8} {i:Nat} (h:i<s.length):labB (s.take (i+1))=(labB (s.take i)&&isDot (s.getD i 0)):=by
 rw[labB,List.take_add_one,List.getElem?_eq_getElem h,List.all_append]
 simp[labB,List.getD_eq_getElem?_getD,h]
theorem lab_no {s:List UInt8} {i:Nat} (h:i<s.length) (hn:isDot (s.getD i 0)=false):labB s=false:=by
 rw[labB,List.all_eq_false]
 refine ⟨s[i],List.getElem_mem h, ?_⟩
 rw[List.getD_eq_getElem?_getD,List.getElem?_eq_getElem h] at hn
 simpa using hn
def cLabM (s:List UInt8):Bool:=labB s&&decide (1≤s.length∧s.length≤24)
theorem labr_run (s:List UInt8) (hs:s.length≤9223372036854775807) (Q:Out→List Blk→Gh→Prop) (hq:Q (.ret (.bool (cLabM s))) [] {}):∃hv hb,goal_m28 hv hb s Q:=by
 obtain ⟨hv',hb',e'⟩:∃hv hb,goal_m28 hv hb s Q=_:=⟨_,_,vc_m28 s Q⟩
 refine ⟨hv',hb',e'.mpr ?_⟩
 clear e'
 refine ⟨⟨0,⟨by omega,rfl⟩,rfl,rfl,trivial⟩, ?_⟩
 rintro i ⟨h1,h2⟩
 refine ⟨_,rfl,_,rfl,splitD (fun hlt => ?_) (fun hge => ?_)⟩
 ·have hi:i<s.length:=by omega
  have hx:∀z:Int,z=(i:Int)→(decide (0≤z)&&Nat.blt z.toNat s.length)=true:=fun z hz=>idxOk (by omega) (by omega)
  have hyes:isDot (s.getD i 0)=true→labB (s.take (i+1))=true:=fun h=>by rw[lab_succ hi,h2,h];rfl
  have hno:isDot (s.getD i 0)=false→Q (.ret (.bool false)) [] {}:=fun h=>by
   rw[cLabM,lab_no hi h] at hq
   exact hq
  have hd:isDot (s.getD i 0)=((Nat.ble 97 (s.getD i 0).toNat&&Nat.ble (s.getD i 0).toNat 122)||(Nat.ble 48 (s.getD i 0).toNat&&Nat.ble (s.getD i 0).toNat 57)||Nat.beq (s.getD i 0).toNat 32):=rfl
  have eg:List.getD s (Int.toNat (i:Int)) (UInt8.ofNat 0)=s.getD i 0:=rfl
  generalize hcx:(s.getD i 0).toNat=x at hd
  have hx1:((List.getD s (Int.toNat (i:Int)) (UInt8.ofNat 0)).toNat:Int)=(x:Int):=by rw[eg,hcx]
  have yes:97≤x∧x≤122∨48≤x∧x≤57∨x=32→labB (s.take (i+1))=true:=fun h=>hyes (by
   rw[hd]
   simp only[Bool.or_eq_true,Bool.and_eq_true,Nat.ble_eq,Nat.beq_eq]
   omega)
  have no:¬ (97≤x∧x≤122∨48≤x∧x≤57∨x=32)→Q (.ret (.bool false)) [] {}:=fun h=>hno (by
   rw[hd]
   cases hb:((Nat.ble 97 x&&Nat.ble x 122)||(Nat.ble 48 x&&Nat.ble x 57)||Nat.beq x 32) with
   | false=>rfl
   | true=>
    simp only[Bool.or_eq_true,Bool.and_eq_true,Nat.ble_eq,Nat.beq_eq] at hb
    omega)
  clear hd hyes hno
  repeat' (first
   | (exact wrapI (by omega) (by omega) ⟨⟨trivial,rfl⟩,i+1,⟨by omega,yes (by omega)⟩,by omega,rfl,rfl,trivial⟩)
   | (with_reducible refine ⟨_,rfl, ?_⟩)
   | (refine ckI (hx _ rfl) ?_)
   | (rw[hx1])
   | (refine splitD (fun _ => ?_) (fun _ => ?_))
   | (refine splitE (fun _ => ?_) (fun _ => ?_))
   | (exact no (by omega)))
 ·obtain rfl:i=s.length:=by omega
  rw[List.take_of_length_le (Nat.le_refl _)] at h2
  rw[cLabM,h2] at hq
  refine ⟨_,rfl, ?_⟩
  refine splitD (fun k1=>⟨_,rfl, ?_⟩) (fun k1 => ?_)
  ·rw[show (true&&decide (1≤s.length∧s.length≤24))=decide ((s.length:Int)≤24) by
    rw[Bool.true_and];exact decide_eq_decide.2 (by omega)] at hq
   first
    | exact hq
    | exact splitD (fun k=>by rwa [decide_eq_true k] at hq) (fun k=>by rwa [decide_eq_false k] at hq)
  ·rwa [show (true&&decide (1≤s.length∧s.length≤24))=false by rw[Bool.true_and];exact decide_eq_false (by omega)] at hq
def cLabR:Con
 | [.str s],H,K=>Lf (s.length≤9223372036854775807)∧∀b,Lf (b=cLabM s)→K (.ret (.bool b)) H
 | _,_,_=>False
theorem labr_ok:ValidF Tryz.prog gl0 28 cLabR:=by
 refine valid_flat (enters_of (by kernel_rfl)) gl0_noY fun args H Q hc => ?_
 unfold cLabR at hc
 split at hc
 ·rename_i s
  obtain ⟨⟨h1⟩,hq⟩:=hc
  obtain ⟨hv,hb',h⟩:=labr_run s h1 (Q:=fun o H' _=>H'=[]∧(∃v,o=.ret v∧old 0 v=true∧noY v=true)∧Q o H) ⟨rfl,⟨_,rfl,rfl,rfl⟩,hq _ ⟨rfl⟩⟩
  exact ⟨rfl,rfl,_,1000,envFor18 sm0_ok _ hv hb',rfl,h⟩
 ·exact hc.elim
def smE2:SM:=lookS [(86,cMacR)]
theorem smE2_ok:∀f g,smE2 f=some g→ValidF Tryz.prog gl0 f g:=lookS_ok _ (by simp only[List.mem_cons,List.not_mem_nil,or_false,forall_eq_or_imp,forall_eq];exact macr_ok)
def inv_m59 (key label:List UInt8) (s:S):List (List LInv):=[[{ α:=Nat,pre:=fun i=>Lf (i≤8),st:=fun i=>⟨mkT [(3,s.tm.get 3),(4,s.tm.get 4),(5,s.tm.get 5),(11,s.tm.get 11),(12,.str (stepM key label i).2),(13,.str (stepM key label i).1),(14,.int .i64 ((i+1:Nat):Int))],s.hp⟩,mu:=fun i=>8-i }]]
noncomputable def env_m59 (hv:Nat→Option Pa) (hb:Nat→Option Bool) (key label:List UInt8):Env:=e18 smE2 (fun i=>bif Nat.beq i 59000 then some (inv_m59 key label) else none) hv hb
noncomputable def goal_m59 (hv:Nat→Option Pa) (hb:Nat→Option Bool) (key:List UInt8) (sc kc:List AV) (secret salt label:List UInt8) (n:Int) (Q:Out→List Blk→Gh→Prop):Prop:=
 callx (env_m59 hv hb key label) (wpx (env_m59 hv hb key label) 1000) 59 [.agg [.lst 0 sc 8 1,.lst 0 kc 64 1],.str secret,.str salt,.str label,.int .i64 n] [] {} Q
theorem vc_m59 (key:List UInt8) (sc:List AV) (kc:List AV) (secret:List UInt8) (salt:List UInt8) (label:List UInt8) (n:Int) (Q:Out→List Blk→Gh→Prop):goal_m59 (lookV [(241684,.int .i64),(241693,.str),(241694,.int
 .i64),(241695,.int .u8),(241697,.str),(241698,.str),(241702,.str),(241687,.int .i64),(241688,.int .i64),(241705,.str)]) (lookB []) key sc kc secret salt label n Q=(Lf (tabO sc kc∧salt.length≤10000∧secret.length ≤
 10000)∧∀x_0:List UInt8,Lf (x_0=macSM salt [secret])→(∃x_1:Nat,Lf (x_1≤8)∧eqqQ [AV.lst 0 sc 8 1,.lst 0 kc 64 1]∧eqqQ (AV.str label)∧eqqQ (AV.str x_0)∧eqqQ (AV.ptr 0 2 0)∧AV.str []=AV.str (stepM key label x_1).1
 ∧ eqqQ (AV.int .i64 n)∧AV.str []=AV.str (stepM key label x_1).2∧AV.int .i64 1=AV.int .i64 ((x_1+1:Nat):Int)∧True)∧∀x_1:Nat,Lf (x_1≤8)→exI .i64 ((stepM key label x_1).2.length:Int) fun n_2=>bif decide (n_2<n)
 then ckQ (decide ((stepM key label x_1).1.length+label.length≤9223372036854775807)&&true) (exS (.str ((stepM key label x_1).1++label)) fun s_3=>exI .i64 ((x_1+1:Nat):Int) fun n_4=>exW .u8 n_4 fun n_5=>exS (.str [toB
 (.int .u8 n_5)]) fun s_6=>ckQ (decide (s_3.length+s_6.length≤9223372036854775807)&&true) (exS (.str (s_3++s_6)) fun s_7=>Lf (tabO sc kc∧x_0.length≤10000∧s_7.length≤10000)∧∀x_8:List UInt8,Lf (x_8=macSM x_0 [s_7])
 → ckQ (decide ((stepM key label x_1).2.length+x_8.length≤9223372036854775807)&&true) (exS (.str ((stepM key label x_1).2++x_8)) fun s_9=>exI .i64 ((x_1+1:Nat):Int) fun n_10=>exW .i64 (n_10+1) fun n_11=>(True∧(0 :
 Nat)=(0:Nat))∧∃y_12:Nat,Lf (y_12≤8)∧8-y_12<8-x_1∧eqqQ [AV.lst 0 sc 8 1,.lst 0 kc 64 1]∧eqqQ (AV.str label)∧eqqQ (AV.str x_0)∧eqqQ (AV.ptr 0 2 0)∧AV.str x_8=AV.str (stepM key label y_12).1∧eqqQ (AV.int
 .i64 n)∧AV.str s_9=AV.str (stepM key label y_12).2∧AV.int .i64 n_11=AV.int .i64 ((y_12+1:Nat):Int)∧True))) else ckQ (decide (0≤n)&&true&&Nat.ble n.toNat (stepM key label x_1).2.length) (exS (.str (((stepM key label
 x_1).2.drop 0).take (n.toNat-0))) fun s_3=>Q (.ret (.str s_3)) [] {})):=by kernel_rfl

end Go.Proofs.YtjenieljapmehaaGreatDoor

set_option linter.unusedSimpArgs false
set_option linter.unusedVariables false
set_option linter.unusedSectionVars false
namespace Go.Proofs.YtjenieljapmehaaGreatDoor
open Go.RowKit
set_option maxRecDepth 1000000

theorem deriver_run (sc kc:List AV) (secret salt label:List UInt8) (n:Int) (ht:tabO sc kc) (h1:secret.length≤4096) (h2:salt.length≤4096) (h3:label.length≤4096) (h4:0≤n) (h5:n≤255) (Q:Out→List Blk→Gh→Prop)
  (hq:Q (.ret (.str (deriveSM secret salt label n.toNat))) [] {}):∃hv hb,goal_m59 hv hb (macSM salt [secret]) sc kc secret salt label n Q:=by
 obtain ⟨hv',hb',e'⟩:∃hv hb,goal_m59 hv hb (macSM salt [secret]) sc kc secret salt label n Q=_:=⟨_,_,vc_m59 (macSM salt [secret]) sc kc secret salt label n Q⟩
 refine ⟨hv',hb',e'.mpr ?_⟩
 clear e'
 refine ⟨⟨ht,by omega,by omega⟩, ?_⟩
 rintro key ⟨ek⟩
 rw[←ek]
 rw[deriveSM,←ek] at hq
 have hk:key.length=32:=by rw[ek,mac_len]
 clear ek
 refine ⟨⟨0,⟨by omega⟩,rfl,rfl,rfl,rfl,rfl,rfl,rfl,rfl,trivial⟩, ?_⟩
 rintro i ⟨hi⟩
 have hl:=step_len key label i
 have hl1:=step_le1 key label i
 refine ⟨_,rfl,splitD (fun h => ?_) (fun h => ?_)⟩
 ·have hi8:i<8:=by omega
  refine ckI (by simp;omega) ⟨_,rfl,_,rfl,_,rfl,_,rfl,ckI (by simp;omega) ⟨_,rfl,⟨ht,by omega,by simp;omega⟩, ?_⟩⟩
  rintro o ⟨eo⟩
  have e2:[toB (AV.int .u8 (IntKind.wrap .u8 ((i+1:Nat):Int)))]=[UInt8.ofNat (i+1)]:=by
   rw[u8_wrap]
   simp only[toB,Int.toNat_natCast]
   rw[Nat.mod_eq_of_lt (by omega)]
  rw[e2] at eo
  have eo:o=macSM key [(stepM key label i).1,label,[UInt8.ofNat (i+1)]]:=by
   rw[eo,mac_flat key [_,_,_]]
   simp
  have e3:stepM key label (i+1)=(o,(stepM key label i).2++o):=by rw[stepM,eo]
  have ho:o.length=32:=by rw[eo,mac_len]
  refine ckI (by simp;omega) ⟨_,rfl,_,rfl,wrapI (by omega) (by omega) ⟨⟨trivial,rfl⟩,i+1,⟨by omega⟩,by omega,rfl,rfl,rfl,rfl, ?_,rfl, ?_,rfl,trivial⟩⟩
  ·rw[e3]
  ·rw[e3]
 ·refine ckI (by simp;omega) ⟨_,rfl, ?_⟩
  have hp:=step_pre key label i (8-i)
  rw[show i+(8-i)=8 by omega] at hp
  obtain ⟨t,ht⟩:=hp
  rw[←ht,List.take_append_of_le_length (by omega)] at hq
  exact hq
def cDerR:Con
 | [.agg [.lst 0 sc 8 1,.lst 0 kc 64 1],.str secret,.str salt,.str label,.int .i64 n],H,K=>Lf (tabO sc kc∧secret.length≤4096∧salt.length≤4096∧label.length≤4096∧0≤n∧n≤255)∧∀o,Lf (o=deriveSM secret salt label n.toNat)→K (.ret (.str o)) H
 | _,_,_=>False
theorem derr_ok:ValidF Tryz.prog gl0 59 cDerR:=by
 refine valid_flat (enters_of (by kernel_rfl)) gl0_noY fun args H Q hc => ?_
 unfold cDerR at hc
 split at hc
 ·rename_i sc kc secret salt label n
  obtain ⟨⟨h1,h2,h3,h4,h5,h6⟩,hq⟩:=hc
  obtain ⟨hv,hb',h⟩:=deriver_run sc kc secret salt label n h1 h2 h3 h4 h5 h6 (Q:=fun o H' _=>H'=[]∧(∃v,o=.ret v∧old 0 v=true∧noY v=true)∧Q o H) ⟨rfl,⟨_,rfl,rfl,rfl⟩,hq _ ⟨rfl⟩⟩
  have ht:=tab_flat sc kc h1
  exact ⟨by simp only[oldL,ht.1,old,Bool.and_self],by simp only[noYL,ht.2,noY,Bool.and_self],_,1000,envFor18 smE2_ok _ hv hb',rfl,h⟩
 ·exact hc.elim
def smE3:SM:=lookS [(59,cDerR)]
theorem smE3_ok:∀f g,smE3 f=some g→ValidF Tryz.prog gl0 f g:=lookS_ok _ (by simp only[List.mem_cons,List.not_mem_nil,or_false,forall_eq_or_imp,forall_eq];exact derr_ok)
noncomputable def goal_m29 (hv:Nat→Option Pa) (hb:Nat→Option Bool) (sc kc:List AV) (m c l:List UInt8) (n:Int) (Q:Out→List Blk→Gh→Prop):Prop:=
 callx (e18 smE3 (fun _=>none) hv hb) (wpx (e18 smE3 (fun _=>none) hv hb) 1000) 29 [.agg [.lst 0 sc 8 1,.lst 0 kc 64 1],.str m,.str c,.str l,.int .i64 n] [] {} Q
theorem vc_m29 (sc:List AV) (kc:List AV) (m:List UInt8) (c:List UInt8) (l:List UInt8) (n:Int) (Q:Out→List Blk→Gh→Prop):goal_m29 (lookV [(118799,.str)]) (lookB []) sc kc m c l n Q=(
(bif ((decide (((7:Nat)+(List.length l))≤(9223372036854775807:Nat)))&&true) then (∃s_0:(List UInt8),(((AV.str (((UInt8.ofNat (116:Nat))::((UInt8.ofNat (97:Nat))::((UInt8.ofNat (110:Nat))::((UInt8.ofNat (110:Nat))::((UInt8.ofNat (111:Nat))::((UInt8.ofNat (121:Nat))::((UInt8.ofNat (32:Nat))::[])))))))++l))=(AV.str s_0)) ∧
 ((Lf ((tabO sc kc) ∧
 (((List.length m)≤(4096:Nat)) ∧
 (((List.length c)≤(4096:Nat)) ∧
 (((List.length s_0)≤(4096:Nat)) ∧
 (((0:Int)≤n) ∧
 (n≤(255:Int)))))))) ∧
 (∀o_1:(List UInt8),((Lf (o_1=(deriveSM m c s_0 (Int.toNat n)))) →
(Q (Out.ret (AV.str o_1)) [] (Gh.mk (0:Nat) (0:Nat) [])))))))
else False)):=by kernel_rfl

def cOctR:Con
 | [.agg [.lst 0 sc 8 1,.lst 0 kc 64 1],.str m,.str c,.str l,.int .i64 n],H,K=>Lf (tabO sc kc∧m.length≤4096∧c.length≤4096∧l.length≤4000∧0≤n∧n≤255)∧∀o,Lf (o=octSM m c l n)→K (.ret (.str o)) H
 | _,_,_=>False
theorem octr_ok:ValidF Tryz.prog gl0 29 cOctR:=by
 refine valid_flat (enters_of (by kernel_rfl)) gl0_noY fun args H Q hc => ?_
 unfold cOctR at hc
 split at hc
 ·rename_i sc kc m c l n
  obtain ⟨⟨h1,h2,h3,h4,h5,h6⟩,hq⟩:=hc
  obtain ⟨hv',hb',e'⟩:∃hv hb,goal_m29 hv hb sc kc m c l n (fun o H' _=>H'=[]∧(∃v,o=.ret v∧old 0 v=true∧noY v=true)∧Q o H)=_:=⟨_,_,vc_m29 sc kc m c l n _⟩
  have ht:=tab_flat sc kc h1
  refine ⟨by simp only[oldL,ht.1,old,Bool.and_self],by simp only[noYL,ht.2,noY,Bool.and_self],_,1000,envFor18 smE3_ok _ hv' hb',rfl,e'.mpr ?_⟩
  clear e'
  refine ckI (by simp;omega) ⟨_,rfl,⟨h1,h2,h3,by simp;omega,h5,h6⟩, ?_⟩
  rintro o ⟨rfl⟩
  exact ⟨rfl,⟨_,rfl,rfl,rfl⟩,hq _ ⟨rfl⟩⟩
 ·exact hc.elim
def smE4:SM:=lookS [(29,cOctR)]
theorem smE4_ok:∀f g,smE4 f=some g→ValidF Tryz.prog gl0 f g:=lookS_ok _ (by simp only[List.mem_cons,List.not_mem_nil,or_false,forall_eq_or_imp,forall_eq];exact octr_ok)
def inv_m35 (m:List UInt8) (r:Int) (s:S):List (List LInv):=[[{ α:=Nat,pre:=fun i=>Lf ((i:Int)≤r),st:=fun i=>⟨mkT [(1,.str (ofSM m i)),(2,s.tm.get 2),(3,s.tm.get 3),(7,.int .i64 (i:Nat))],s.hp⟩,mu:=fun i=>r.toNat-i }]]
noncomputable def env_m35 (hv:Nat→Option Pa) (hb:Nat→Option Bool) (m:List UInt8) (r:Int):Env:=e18 smE4 (fun i=>bif Nat.beq i 35000 then some (inv_m35 m r) else none) hv hb
noncomputable def goal_m35 (hv:Nat→Option Pa) (hb:Nat→Option Bool) (sc kc:List AV) (m:List UInt8) (r:Int) (Q:Out→List Blk→Gh→Prop):Prop:=
 callx (env_m35 hv hb m r) (wpx (env_m35 hv hb m r) 1000) 35 [.agg [.lst 0 sc 8 1,.lst 0 kc 64 1],.str m,.int .i64 r] [] {} Q
theorem vc_m35 (sc:List AV) (kc:List AV) (m:List UInt8) (r:Int) (Q:Out→List Blk→Gh→Prop):goal_m35 (lookV [(143368,.int .i64),(143374,.str),(143371,.int .i64),(143372,.int .i64),(143376,.str)]) (lookB []) sc kc m r
 Q=((∃x_0:Nat,Lf ((x_0:Int)≤r)∧eqqQ [AV.lst 0 sc 8 1,.lst 0 kc 64 1]∧AV.str m=AV.str (ofSM m x_0)∧eqqQ (AV.ptr 0 2 0)∧AV.int .i64 0=AV.int .i64 (x_0:Int)∧eqqQ (AV.int .i64 r)∧True)∧∀x_0:Nat,Lf ((x_0:Int)
 ≤ r)→exI .i64 (x_0:Int) fun n_1=>bif decide (n_1<r) then exS (.str (ofSM m x_0)) fun s_2=>Lf (tabO sc kc∧s_2.length≤4096∧([]:List UInt8).length≤4096∧List.length [110,101,120,116]≤4000∧(0:Int)≤(32:Int) ∧
 (32:Int)≤(255:Int))∧∀o_3:List UInt8,Lf (o_3=octSM s_2 [] [110,101,120,116] 32)→exI .i64 (x_0:Int) fun n_4=>exW .i64 (n_4+1) fun n_5=>(True∧(0:Nat)=(0:Nat))∧∃y_6:Nat,Lf ((y_6:Int)≤r)∧r.toNat -
 y_6<r.toNat-x_0∧eqqQ [AV.lst 0 sc 8 1,.lst 0 kc 64 1]∧AV.str o_3=AV.str (ofSM m y_6)∧eqqQ (AV.ptr 0 2 0)∧AV.int .i64 n_5=AV.int .i64 (y_6:Int)∧eqqQ (AV.int .i64 r)∧True else exS (.str (ofSM m x_0)) fun s_2=>Q (.ret
 (.str s_2)) [] {}):=by kernel_rfl

end Go.Proofs.YtjenieljapmehaaGreatDoor

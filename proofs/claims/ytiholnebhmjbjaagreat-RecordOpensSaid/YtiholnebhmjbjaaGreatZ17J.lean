/-
  Chapter 17: Decode of the reference, which calls itself.
-/
import Derived.Test.YtiholnebhmjbjaaGreatZ17I
set_option linter.unusedSimpArgs false
set_option linter.unusedVariables false
set_option linter.unusedSectionVars false
namespace Go.Proofs.YtiholnebhmjbjaaGreat
open Go.RowKit
set_option maxRecDepth 1000000

theorem call_rec {P:Program} {E E0:Env} (hE:EnvFor P E) (h0:EnvFor P E0) (hg:E0.gl=E.gl) {n:Nat} {f:FuncId} {args:List AV} {H:List Blk} {Q:Out→List Blk→Gh→Prop} (h:callx E0 (wpx E n) f args H {} Q) {m:M} {vs:Array Value} {w:World} (hv:VRL m args vs.toList) (hH:HR E0.gl m H w) (hl:m.lp=fun _=>none) :
  Calls P f vs w (CallPost P E0.gl [] m H w Q):=by
 have hr:RecOk P E0 (wpx E n):=by
  have:=rec_ok hE.ok n
  unfold RecOk at this ⊢
  rw[hg]
  exact this
 exact (callx_ok h0.ok hr h hv hH (X:=[]) ⟨trivial,fun u l hu=>(by rw[hl] at hu;cases hu),List.nodup_nil,List.nodup_nil⟩).2
theorem valid_frzR {P:Program} {gl:Nat→Option (List AV)} {f:FuncId} {c:List AV→List Blk→(Out→List Blk→Prop)→Prop} (he:Enters P f) (hgl:∀g cs,gl g=some cs→noYL cs=true) (depth:Nat) (k:AV→AV) (hk:∀a,wk a (k a))
  (h:∀args H Q,c args H Q→oldL 0 args=true∧noYL args=true∧∃ (E E0:Env) (n:Nat),EnvFor P E∧EnvFor P E0∧E0.gl=E.gl∧E0.gl=gl∧callx E0 (wpx E n) f args [] {} fun o H' _=>∃v,o=.ret v∧Q (.ret (k (frzV 0 H' depth v))) H):ValidF P gl f c:=by
 refine valid_frzC he hgl depth k hk fun args H Q hc => ?_
 obtain ⟨h1,h2,E,E0,n,hE,hE0,hg,rfl,h5⟩:=h args H Q hc
 exact ⟨h1,h2,fun m vs w hv hH hl=>call_rec hE hE0 hg h5 hv hH hl⟩

def cDecN (n:Nat):Con
 | [.str s],H,K=>Lf (s.length<n)∧∀l e,Lf (decM s=(l,e))→K (.ret (.tup [.lst 0 (cellsRM l) l.length 4,.int .i64 e])) H
 | _,_,_=>False
def smJ0:SM:=lookS [(68,cNumb)]
def smJ (n:Nat):SM:=lookS [(45,cDecN n),(68,cNumb)]
noncomputable def goal_17q (hv:Nat→Option Pa) (hb:Nat→Option Bool) (n:Nat) (s:List UInt8) (Q:Out→List Blk→Gh→Prop):Prop:=
 callx (e04 smJ0 (fun _=>none) hv hb) (wpx (e04 (smJ n) (fun _=>none) hv hb) 1000) 45 [.str s] [] {} Q
abbrev z7J0 (n_7 n_12 n_13:Int) (s_11:List UInt8):Blk:=Blk.mk BK.exact true [.int .i64 n_7,.int .i64 n_12,.int .i64 n_13,.str s_11]
theorem vc_17q (n:Nat) (s:List UInt8) (Q:Out→List Blk→Gh→Prop):goal_17q (lookV [(184329,.int .i64),(184332,.int .i64),(184335,.str),(184340,.int .i64),(184342,.int .i64),(184345,.int .u8),(184346,.int .i64),
 (184348,.str),(184351,.str),(184355,.int .i64),(184356,.str),(184360,.int .i64),(184362,.int .i64),(184368,.int .i64),(184369,.str)]) (lookB []) n s Q=(exI .i64 (s.length:Int) (fun n_0=>bif decide (n_0>1200) then Q
 (.ret (.tup [.nils,.int .i64 3])) [] {} else exI .i64 (s.length:Int) (fun n_1=>bif decide (n_1<11) then Q (.ret (.tup [.nils,.int .i64 7])) [] {} else ckQ (Nat.ble 11 s.length) (exS (.str ((s.drop 9).take 2)) (fun s_2=>Lf
 (s_2.length≤6)∧∀n_3:Int,Lf (n_3=beM s_2)→bif decide (n_3>1000) then Q (.ret (.tup [.nils,.int .i64 170])) [] {} else exI .i64 (s.length:Int) (fun n_4=>exW .i64 (11+n_3) (fun n_5=>bif decide (n_4<n_5) then Q (.ret
 (.tup [.nils,.int .i64 7])) [] {} else ckQ (Nat.blt 0 s.length) (exI .u8 (UInt8.toNat (s.getD 0 (UInt8.ofNat 0)):Int) (fun n_6=>exW .i64 n_6 (fun n_7=>ckQ (Nat.ble 3 s.length) (exS (.str ((s.drop 1).take 2)) (fun s_8=>ckQ (Nat.ble
 9 s.length) (exS (.str ((s.drop 3).take 6)) (fun s_9=>exW .i64 (11+n_3) (fun n_10=>ckQ (decide (0≤n_10)&&Nat.ble 11 n_10.toNat&&Nat.ble n_10.toNat s.length) (exS (.str ((s.drop 11).take (n_10.toNat-11))) (fun s_11=>Lf
 (s_8.length≤6)∧∀n_12:Int,Lf (n_12=beM s_8)→Lf (s_9.length≤6)∧∀n_13:Int,Lf (n_13=beM s_9)→exI .i64 (s.length:Int) (fun n_14=>exW .i64 (11+n_3) (fun n_15=>bif n_14==n_15 then Q (.ret (.tup [.sl 0 4 0 1 4,
 .int .i64 0])) [z7J0 n_7 n_12 n_13 s_11] {} else exW .i64 (11+n_3) (fun n_16=>ckQ (decide (0≤n_16)&&true&&Nat.ble n_16.toNat s.length&&Nat.ble s.length s.length) (exS (.str ((s.drop n_16.toNat).take (s.length-n_16.toNat)))
 (fun s_17=>Lf (s_17.length<n)∧∀l_18:List Rc,∀e_19:Int,Lf (decM s_17=Prod.mk l_18 e_19)→bif e_19 !=0 then Q (.ret (.tup [.nils,.int .i64 e_19])) [] {} else ckQ (Nat.beq (cellsRM l_18).length (l_18.length*4)&&oneL
 (cellsRM l_18)&&true&&Nat.ble (l_18.length*40) 1099511627776) (bif Nat.beq l_18.length 0 then ckQ (Nat.beq l_18.length 0) (Q (.ret (.tup [.sl 0 4 0 1 4,.int .i64 0])) [z7J0 n_7 n_12 n_13 s_11] {}) else ckQ (Nat.blt 0 l_18.length)
 (ckQ (Nat.ble (1+l_18.length) 1099511627776&&Nat.ble ((1+l_18.length)*40) 1099511627776) (Q (.ret (.tup [.sl 1 (4+(cellsRM l_18).length) 0 (1+l_18.length) 4,.int .i64 0])) [z7J0 n_7 n_12 n_13 s_11,Blk.mk BK.grow (oldL 0
 ([AV.int .i64 n_7,.int .i64 n_12,.int .i64 n_13,.str s_11]++cellsRM l_18)) ([AV.int .i64 n_7,.int .i64 n_12,.int .i64 n_13,.str s_11]++cellsRM l_18)] {}))))))))))))))))))))))))):=by kernel_rfl

theorem recs_len:∀ (f:Nat) (s:List UInt8),(recsM f s).1.length≤f
 | 0,_=>Nat.le_refl _
 | f+1,s=>by
  rw[recsM]
  have ih:=recs_len f (restRM s)
  split
  ·simp
  ·split
   ·simp
   ·split
    ·simp
    ·simp only[List.length_cons];omega
theorem dec_len (s:List UInt8):(decM s).1.length≤s.length:=by
 rw[decM]
 split
 ·simp
 ·split
  ·simp
  ·exact recs_len _ _
theorem dec_bad {s:List UInt8} (h1:¬ 1200<s.length) (hh:headEM s≠0):decM s=([],headEM s):=by
 by_cases h2:s=[]
 ·subst h2;rfl
 ·rw[dec_cont h1 h2,cont_err h2 hh]
theorem dec_last {s:List UInt8} (h1:¬ 1200<s.length) (h2:s≠[]) (hh:headEM s=0) (hr:restRM s=[]):decM s=([firstRM s],0):=by
 rw[dec_cont h1 h2,cont_step h2 hh,hr,cont_end]
 rfl
theorem dec_more {s:List UInt8} {l:List Rc} {e:Int} (h1:¬ 1200<s.length) (h2:s≠[]) (hh:headEM s=0) (hr:restRM s≠[]) (hd:decM (restRM s)=(l,e)):decM s=if e≠0 then ([],e) else (firstRM s::l,0):=by
 have hl:=rest_lt h2
 rw[decM,if_neg (by omega),if_neg hr] at hd
 rw[dec_cont h1 h2,cont_step h2 hh,contM,hd]
 rfl
theorem be_one {s:List UInt8} (h:0<s.length):beM (s.take 1)=((s.getD 0 (UInt8.ofNat 0)).toNat:Int):=by
 cases s with
 | nil=>simp at h
 | cons c s=>simp[beM,natM]
theorem be_hi {s:List UInt8} {k:Nat} (h:s.length≤k):beM s<(256:Int)^k:=by
 have h1:=nat_lt s.length s rfl
 have h2:256^s.length≤256^k:=Nat.pow_le_pow_right (by omega) h
 have h3:natM s<256^k:=by omega
 unfold beM
 exact_mod_cast h3
theorem cellsR_one:∀l,oneL (cellsRM l)=true
 | []=>rfl
 | r::l=>by simp[cellsRM,rcM,oneL,one,cellsR_one l]
theorem rdecode_run (n:Nat) (s:List UInt8) (hn:s.length<n+1) (Q:Out→List Blk→Gh→Prop) (hq0:∀e,decM s=([],e)→Q (.ret (.tup [.nils,.int .i64 e])) [] {})
  (hq1:∀ (l:List Rc) id (H:List Blk) b,decM s=(l,0)→H[id]? = some b→b.cs=cellsRM l→b.k≠.ro→Q (.ret (.tup [.sl id (l.length*4) 0 l.length 4,.int .i64 0])) H {}):∃hv hb,goal_17q hv hb n s Q:=by
 obtain ⟨hv,hb',e⟩:∃hv hb,goal_17q hv hb n s Q=_:=⟨_,_,vc_17q n s Q⟩
 refine ⟨hv,hb',e.mpr ?_⟩
 delta z7J0
 clear e
 refine ⟨_,rfl,splitD (fun h=>hq0 3 (by rw[decM,if_pos (by omega)])) (fun h1=>⟨_,rfl,splitD (fun h => ?_) (fun h2 => ?_)⟩)⟩
 ·refine hq0 7 ?_
  have:=dec_bad (s:=s) (by omega) (by rw[headEM,if_pos (by omega)];omega)
  rwa [headEM,if_pos (by omega)] at this
 have hne:s≠[]:=by rintro rfl;simp at h2
 refine ckI (by simp;omega) ⟨_,rfl,⟨by rw[List.length_take];omega⟩, ?_⟩
 rintro n3 ⟨e3⟩
 have hsz:n3=sizeRM s:=e3
 have hs0:0≤n3:=by rw[e3];exact be_nn _
 subst hsz
 clear e3
 refine splitD (fun h3 => ?_) (fun h3=>⟨_,rfl,wrapI (by omega) (by omega) (splitD (fun h4 => ?_) (fun h4 => ?_))⟩)
 ·have hE:headEM s=170:=by rw[headEM,if_neg (by omega),if_pos h3]
  have:=dec_bad (s:=s) (by omega) (by omega)
  rw[hE] at this
  exact hq0 _ this
 ·have hE:headEM s=7:=by rw[headEM,if_neg (by omega),if_neg h3,if_pos h4]
  have:=dec_bad (s:=s) (by omega) (by omega)
  rw[hE] at this
  exact hq0 _ this
 have hE:headEM s=0:=by rw[headEM,if_neg (by omega),if_neg h3,if_neg h4]
 refine ckI (by simp;omega) ⟨_,rfl, ?_⟩
 rw[←be_one (by omega)]
 have hb1:beM (s.take 1)<(256:Int)^1:=be_hi (by rw[List.length_take];omega)
 have hb0:=be_nn (s.take 1)
 refine wrapI (by omega) (by omega) (ckI (by simp;omega) ⟨_,rfl,ckI (by simp;omega) ⟨_,rfl,wrapI (by omega) (by omega) (ckI (by simp;omega) ⟨_,rfl,⟨by rw[List.length_take];omega⟩, ?_⟩)⟩⟩)
 rintro n12 ⟨e12⟩
 refine ⟨⟨by rw[List.length_take];omega⟩, ?_⟩
 rintro n13 ⟨e13⟩
 have hfst:(AV.int .i64 (beM (s.take 1))::AV.int .i64 n12::AV.int .i64 n13::[AV.str (List.take (Int.toNat (11+sizeRM s)-11) (List.drop 11 s))])=cellsRM [firstRM s]:=by
  rw[e12,e13,show Int.toNat (11+sizeRM s)-11=(sizeRM s).toNat by omega]
  rfl
 rw[hfst]
 have hrest:List.take (s.length-Int.toNat (11+sizeRM s)) (List.drop (Int.toNat (11+sizeRM s)) s)=restRM s:=by
  rw[List.take_of_length_le (by rw[List.length_drop];omega),restRM,show Int.toNat (11+sizeRM s)=11+(sizeRM s).toNat by omega]
 have hrl:(restRM s).length=s.length-(11+(sizeRM s).toNat):=by rw[restRM,List.length_drop]
 refine ⟨_,rfl,wrapI (by omega) (by omega) (splitE (fun h5 => ?_) (fun h5=>wrapI (by omega) (by omega) (ckI (by simp;omega) ⟨_,rfl, ?_⟩)))⟩
 ·exact hq1 [firstRM s] 0 _ _ (dec_last (by omega) hne hE (List.length_eq_zero_iff.1 (by omega))) rfl rfl (by simp)
 rw[hrest]
 refine ⟨⟨by omega⟩, ?_⟩
 rintro l e ⟨hd⟩
 have hm:=dec_more (by omega) hne hE (by intro h;rw[h] at hrl;simp at hrl;omega) hd
 have hll:=dec_len (restRM s)
 rw[hd] at hll
 dsimp only at hll
 have hcl:=cellsR_len l
 refine splitNE (fun h6=>hq0 e (by rw[hm,if_pos h6])) (fun h6 => ?_)
 rw[if_neg (by simp[h6])] at hm
 have hone:=cellsR_one l
 refine ckI (by rw[hcl,hone];simp;omega) ?_
 cases hz:Nat.beq l.length 0 with
 | true=>
  have hl0:l=[]:=List.length_eq_zero_iff.1 (Nat.eq_of_beq_eq_true hz)
  subst hl0
  exact hq1 [firstRM s] 0 _ _ hm rfl rfl (by simp)
 | false=>
  rw[cond_false]
  have hl0:l.length≠0:=fun h=>by rw[h] at hz;cases hz
  refine ckI (by simp;omega) (ckI (by simp;omega) ?_)
  have q:=hq1 (firstRM s::l) 1 [⟨.exact,true,cellsRM [firstRM s]⟩,⟨.grow,oldL 0 (cellsRM [firstRM s]++cellsRM l),cellsRM [firstRM s]++cellsRM l⟩] _ hm rfl (by rw[←cellsR_app];rfl) (by simp)
  rw[show (firstRM s::l).length*4=4+(cellsRM l).length by rw[hcl,List.length_cons];omega,show (firstRM s::l).length=1+l.length by rw[List.length_cons];omega] at q
  exact q
theorem frz_rec2 {H:List Blk} {id:Nat} {l:List Rc} {e:Int} {b:Blk} (hb:H[id]? = some b) (hc:b.cs=cellsRM l) (hk:b.k≠.ro):nlR [4] (frzV 0 H 9 (.tup [.sl id (l.length*4) 0 l.length 4,.int .i64 e]))=.tup [.lst 0 (cellsRM l) l.length 4,.int .i64 e]:=by
 have h:=frz_sl (τ:=0) (d:=6) (cs:=cellsRM l) (off:=0) (tot:=l.length*4) (len:=l.length) (sz:=4) hb (by rw[hc];exact cellsR_len l) (by omega) hk (by rw[hc,List.drop_zero];exact List.take_of_length_le (by rw[cellsR_len];omega)) (cellsR_plain l)
 have e1:frzV 0 H 9 (.tup [.sl id (l.length*4) 0 l.length 4,.int .i64 e])=.tup [frzV 0 H 8 (.sl id (l.length*4) 0 l.length 4),.int .i64 e]:=rfl
 rw[e1,h]
 rfl
theorem smJ0_ok:∀f g,smJ0 f=some g→ValidF Tryz.prog gl0 f g:=lookS_ok _ (by simp only[List.mem_cons,List.not_mem_nil,or_false,forall_eq];exact numb_ok)
theorem rdecN_ok:∀n,ValidF Tryz.prog gl0 45 (cDecN n)
 | 0=>valid_frzR (enters_of (by kernel_rfl)) gl0_noY 9 (nlR [4]) (wk_nlR _) fun args H Q hc=>by
  unfold cDecN at hc
  split at hc
  ·exact absurd hc.1.h (by omega)
  ·exact hc.elim
 | n+1=>by
  have ih:=rdecN_ok n
  have hS:∀f g,smJ n f=some g→ValidF Tryz.prog gl0 f g:=lookS_ok _ (by simp only[List.mem_cons,List.not_mem_nil,or_false,forall_eq_or_imp,forall_eq];exact ⟨ih,numb_ok⟩)
  refine valid_frzR (enters_of (by kernel_rfl)) gl0_noY 9 (nlR [4]) (wk_nlR _) fun args H Q hc => ?_
  unfold cDecN at hc
  split at hc
  ·rename_i s
   obtain ⟨⟨h1⟩,hq⟩:=hc
   obtain ⟨hv,hb',h⟩:=rdecode_run n s h1 (Q:=fun o H' _=>∃v,o=.ret v∧Q (.ret (nlR [4] (frzV 0 H' 9 v))) H) (fun e hd=>⟨_,rfl,hq [] e ⟨hd⟩⟩) (fun l id H' b hd k1 k2 k3=>⟨_,rfl,by
    rw[frz_rec2 k1 k2 k3]
    exact hq l 0 ⟨hd⟩⟩)
   exact ⟨rfl,rfl,_,_,1000,envFor04 hS _ _ _,envFor04 smJ0_ok _ _ _,rfl,rfl,h⟩
  ·exact hc.elim
theorem rdec_ok:ValidF Tryz.prog gl0 45 cDec:=by
 refine ⟨enters_of (by kernel_rfl),fun args H Q hc m w vs hv hH => ?_⟩
 unfold cDec at hc
 split at hc
 ·rename_i s
  have hc':cDecN (s.length+1) [.str s] H Q:=⟨⟨by omega⟩,hc.2⟩
  exact (rdecN_ok (s.length+1)).2 _ H Q hc' m w vs hv hH
 ·exact hc.elim
end Go.Proofs.YtiholnebhmjbjaaGreat

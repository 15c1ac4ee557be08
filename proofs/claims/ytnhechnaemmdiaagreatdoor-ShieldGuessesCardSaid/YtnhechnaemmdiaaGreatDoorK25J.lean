/-
  Chapter 25: new shields (program's and reference's); equal shields.
-/
import Derived.Test.YtnhechnaemmdiaaGreatDoorK25U
set_option linter.unusedSimpArgs false
set_option linter.unusedVariables false
set_option linter.unusedSectionVars false
namespace Go.Proofs.YtnhechnaemmdiaaGreatDoor
open Go.RowKit
set_option maxRecDepth 1000000

def smNw:SM:=lookS [(51,cNames),(56,cNames)]
theorem smNw_ok:∀f g,smNw f=some g→ValidF Tryz.prog gl0 f g:=lookS_ok _ (by simp only[List.mem_cons,List.not_mem_nil,or_false,forall_eq_or_imp,forall_eq];exact ⟨names_ok,rnames_ok⟩)
noncomputable def env_15 (hv:Nat→Option Pa) (hb:Nat→Option Bool):Env := { e04 smNw (fun _=>none) hv hb with hz:=fun k=>Nat.beq k 237575 }
noncomputable def goal_15 (hv:Nat→Option Pa) (hb:Nat→Option Bool) (tg:Nat) (a b c:List UInt8) (xs:List Int) (Q:Out→List Blk→Gh→Prop):Prop:=
 callx (env_15 hv hb) (wpx (env_15 hv hb) 1000) 15 [.agg [.str a,.str b,.str c],.lst tg (cellsI xs) xs.length 1] [] {} Q
theorem vc_15 (tg:Nat) (a:List UInt8) (b:List UInt8) (c:List UInt8) (xs:List Int) (Q:Out→List Blk→Gh→Prop):goal_15 (lookV []) (lookB [(241662,true)]) tg a b c xs Q=(∃xs_0:List Int,Lf (cellsI xs=cellsI xs_0 ∧
 xs.length=xs_0.length∧xs_0.length≤9223372036854775807)∧∀r_1:Bool,Lf (r_1=namesM a b c xs_0)→bif r_1 then ckQ (Nat.beq (cellsI xs).length (xs.length*1)&&oneL (cellsI xs)&&true&&Nat.ble (xs.length*8) 1099511627776)
 (bif Nat.beq xs.length 0 then ckQ (Nat.beq xs.length 0) (true=true∧ckQ (eqAVL [.str a,.str b,.str c] [.str a,.str b,.str c]&&true) (Q (.ret (.tup [.agg [.str a,.str b,.str c,.lst 0 [] 0 1,.nils,.int .i64 0,.int .i64 0,.int
 .i64 (-1),.int .u64 0],.int .i64 0])) [] {})) else ckQ (Nat.blt 0 xs.length) (ckQ (Nat.ble (0+xs.length) 1099511627776&&Nat.ble ((0+xs.length)*8) 1099511627776) (ckQ (Nat.beq ([]++cellsI xs).length (0+(cellsI xs).length) &&
 Nat.ble (0+(0+xs.length)*1) (0+(cellsI xs).length)&&true&&oldL 0 ([]++cellsI xs)&&noYL ([]++cellsI xs)&&true&&true) (true=true∧ckQ (eqAVL [.str a,.str b,.str c] [.str a,.str b,.str c]&&true) (Q (.ret (.tup
 [.agg [.str a,.str b,.str c,.lst 0 ((([]++cellsI xs).drop 0).take ((0+xs.length)*1)) (0+xs.length) 1,.nils,.int .i64 0,.int .i64 0,.int .i64 (-1),.int .u64 0],.int .i64 0])) [] {})))))∧bif Nat.beq xs.length 0 then true =
 true∧ckQ (eqAVL [.str a,.str b,.str c] [.str a,.str b,.str c]&&true) (Q (.ret (.tup [.agg [.str a,.str b,.str c,.nils,.nils,.int .i64 0,.int .i64 0,.int .i64 (-1),.int .u64 0],.int .i64 0])) [] {}) else True else Q (.ret
 (.tup [.agg [.str [],.str [],.str [],.nils,.nils,.int .i64 0,.int .i64 0,.int .i64 0,.int .u64 0],.int .i64 2])) [] {}):=by kernel_rfl

noncomputable def goal_16 (hv:Nat→Option Pa) (hb:Nat→Option Bool) (tg:Nat) (a b c:List UInt8) (xs:List Int) (Q:Out→List Blk→Gh→Prop):Prop:=
 callx (e04 smNw (fun _=>none) hv hb) (wpx (e04 smNw (fun _=>none) hv hb) 1000) 16 [.agg [.str a,.str b,.str c],.lst tg (cellsI xs) xs.length 1] [] {} Q
theorem vc_16 (tg:Nat) (a:List UInt8) (b:List UInt8) (c:List UInt8) (xs:List Int) (Q:Out→List Blk→Gh→Prop):goal_16 (lookV []) (lookB []) tg a b c xs Q=(∃xs_0:List Int,Lf (cellsI xs=cellsI xs_0∧xs.length =
 xs_0.length∧xs_0.length≤9223372036854775807)∧∀r_1:Bool,Lf (r_1=namesM a b c xs_0)→bif r_1 then ckQ (Nat.beq (cellsI xs).length (xs.length*1)&&oneL (cellsI xs)&&true&&Nat.ble (xs.length*8) 1099511627776) (bif Nat.beq
 xs.length 0 then ckQ (Nat.beq xs.length 0) (ckQ (eqAVL [.str a,.str b,.str c] [.str a,.str b,.str c]&&true) (Q (.ret (.tup [.agg [.str a,.str b,.str c,.sl 2 0 0 0 1,.nils,.int .i64 0,.int .i64 0,.int .i64 (-1),.int .u64 0],
 .int .i64 0])) [Blk.mk BK.exact true [.str a,.str b,.str c],Blk.mk BK.exact false [.str a,.str b,.str c,.sl 2 0 0 0 1,.nils,.int .i64 0,.int .i64 0,.int .i64 (-1),.int .u64 0],Blk.mk BK.exact true []] {})) else ckQ (Nat.blt 0
 xs.length) (ckQ (Nat.ble (0+xs.length) 1099511627776&&Nat.ble ((0+xs.length)*8) 1099511627776) (ckQ (eqAVL [.str a,.str b,.str c] [.str a,.str b,.str c]&&true) (Q (.ret (.tup [.agg [.str a,.str b,.str c,.sl 3 (0+(cellsI
 xs).length) 0 (0+xs.length) 1,.nils,.int .i64 0,.int .i64 0,.int .i64 (-1),.int .u64 0],.int .i64 0])) [Blk.mk BK.exact true [.str a,.str b,.str c],Blk.mk BK.exact false [.str a,.str b,.str c,.sl 3 (0+(cellsI xs).length) 0
 (0+xs.length) 1,.nils,.int .i64 0,.int .i64 0,.int .i64 (-1),.int .u64 0],Blk.mk BK.exact true [],Blk.mk BK.grow (oldL 0 ([]++cellsI xs)) ([]++cellsI xs)] {})))) else Q (.ret (.tup [.agg [.str [],.str [],.str [],.nils,
 .nils,.int .i64 0,.int .i64 0,.int .i64 0,.int .u64 0],.int .i64 2])) [] {}):=by kernel_rfl

def newM (a b c:List UInt8) (xs:List Int):List UInt8×List UInt8×List UInt8×List Int×Int×Int:=if namesM a b c xs=true then (a,b,c,xs, -1,0) else ([],[],[],[],0,2)
theorem nm_len {a b c:List UInt8} {xs:List Int} (h:namesM a b c xs=true):xs.length≤16:=by
 rw[namesM,Bool.and_eq_true] at h
 have h1:=h.1
 unfold lensM at h1
 rw[Bool.and_eq_true,Nat.ble_eq] at h1
 exact h1.2
theorem new_run (tg:Nat) (a b c:List UInt8) (xs:List Int) (hx:xs.length≤9223372036854775807) (Q:Out→List Blk→Gh→Prop)
  (h0:namesM a b c xs=false→Q (.ret (.tup [.agg [.str [],.str [],.str [],.nils,.nils,.int .i64 0,.int .i64 0,.int .i64 0,.int .u64 0],.int .i64 2])) [] {})
  (h1:namesM a b c xs=true→∀v,(v=.lst 0 (cellsI xs) xs.length 1∨(v=.nils∧xs=[]))→Q (.ret (.tup [.agg [.str a,.str b,.str c,v,.nils,.int .i64 0,.int .i64 0,.int .i64 (-1),.int .u64 0],.int .i64 0])) [] {}):∃hv hb,goal_15 hv hb tg a b c xs Q:=by
 obtain ⟨hv,hb',e⟩:∃hv hb,goal_15 hv hb tg a b c xs Q=_:=⟨_,_,vc_15 tg a b c xs Q⟩
 refine ⟨hv,hb',e.mpr ?_⟩
 clear e
 refine ⟨xs,⟨rfl,rfl,hx⟩, ?_⟩
 rintro r ⟨rfl⟩
 cases hn:namesM a b c xs
 ·exact h0 hn
 rw[cond_true]
 have h1:=h1 hn
 have hl:=nm_len hn
 have hcl:=cellsI_len xs
 obtain ⟨f1,f2,f3⟩:=fl_I5 xs
 have ck:∀ {A:Prop},A→bif eqAVL [AV.str a,AV.str b,AV.str c] [AV.str a,AV.str b,AV.str c]&&true then A else False:=fun h=>ckI (by simp[eqAVL,eqAV,eqB_rf5]) h
 refine ⟨ckI (by rw[f3];simp[hcl,nbeq];omega) (splitI (fun h => ?_) (fun h => ?_)),splitI (fun h=>⟨rfl,ck (h1 _ (.inr ⟨rfl,List.eq_nil_of_length_eq_zero (by rwa [nbeq] at h)⟩))⟩) (fun _=>trivial)⟩
 ·have hn0:xs=[]:=List.eq_nil_of_length_eq_zero (by rwa [nbeq] at h)
  subst hn0
  exact ckI rfl ⟨rfl,ck (h1 _ (.inl rfl))⟩
 ·have hn0:xs.length≠0:=fun h'=>by rw[h'] at h;cases h
  refine ckI (blt_t (by omega)) (ckI (by simp;omega) (ckI ?_ ⟨rfl,ck ?_⟩))
  ·rw[List.nil_append,f1,f2]
   simp[hcl,nbeq]
  ·refine h1 _ (.inl ?_)
   rw[List.nil_append,List.drop_zero,List.take_of_length_le (by rw[hcl];omega),Nat.zero_add]
theorem rnew_run (tg:Nat) (a b c:List UInt8) (xs:List Int) (hx:xs.length≤9223372036854775807) (Q:Out→List Blk→Gh→Prop)
  (h0:namesM a b c xs=false→Q (.ret (.tup [.agg [.str [],.str [],.str [],.nils,.nils,.int .i64 0,.int .i64 0,.int .i64 0,.int .u64 0],.int .i64 2])) [] {})
  (h1:namesM a b c xs=true→∀i tot n H b',H[i]? = some b'→b'.cs.length=tot→b'.cs=cellsI xs→n=xs.length→b'.k≠.ro→Q (.ret (.tup [.agg [.str a,.str b,.str c,.sl i tot 0 n 1,.nils,.int .i64 0,.int .i64 0,.int .i64 (-1),.int .u64 0],.int .i64 0])) H {}):∃hv hb,goal_16 hv hb tg a b c xs Q:=by
 obtain ⟨hv,hb',e⟩:∃hv hb,goal_16 hv hb tg a b c xs Q=_:=⟨_,_,vc_16 tg a b c xs Q⟩
 refine ⟨hv,hb',e.mpr ?_⟩
 clear e
 refine ⟨xs,⟨rfl,rfl,hx⟩, ?_⟩
 rintro r ⟨rfl⟩
 cases hn:namesM a b c xs
 ·exact h0 hn
 rw[cond_true]
 have h1:=h1 hn
 have hl:=nm_len hn
 have hcl:=cellsI_len xs
 obtain ⟨f1,f2,f3⟩:=fl_I5 xs
 have ck:∀ {A:Prop},A→bif eqAVL [AV.str a,AV.str b,AV.str c] [AV.str a,AV.str b,AV.str c]&&true then A else False:=fun h=>ckI (by simp[eqAVL,eqAV,eqB_rf5]) h
 refine ckI (by rw[f3];simp[hcl,nbeq];omega) (splitI (fun h => ?_) (fun h => ?_))
 ·have hn0:xs=[]:=List.eq_nil_of_length_eq_zero (by rwa [nbeq] at h)
  subst hn0
  exact ckI rfl (ck (h1 2 0 _ _ _ rfl rfl rfl rfl (by simp)))
 ·have hn0:xs.length≠0:=fun h'=>by rw[h'] at h;cases h
  exact ckI (blt_t (by omega)) (ckI (by simp;omega) (ck (h1 3 _ _ _ _ rfl (by simp) rfl (by omega) (by simp))))
def cNew:Con
 | [.agg [.str a,.str b,.str c],.lst _ h n 1],H,K=>∃xs:List Int,Lf (h=cellsI xs∧n=xs.length∧xs.length≤9223372036854775807) ∧
   ∀ (a' b' c':List UInt8) (xs':List Int) (rt e:Int),Lf (newM a b c xs=(a',b',c',xs',rt,e))→K (.ret (.tup [shV 0 0 a' b' c' xs' [] 0 0 rt 0,.int .i64 e])) H
 | _,_,_=>False
theorem new_ok:ValidF Tryz.prog gl0 15 cNew:=valid_frz (enters_of (by kernel_rfl)) gl0_noY 9 shK wk_shK fun args H Q hc=>by
 unfold cNew at hc
 split at hc
 ·rename_i a b c tg h n
  obtain ⟨xs,⟨rfl,rfl,h1⟩,hq⟩:=hc
  obtain ⟨hv,hb',h⟩:=new_run tg a b c xs h1 (Q:=fun o H' _=>∃v,o=.ret v∧Q (.ret (shK (frzV 0 H' 9 v))) H)
   (fun hn=>⟨_,rfl,hq [] [] [] [] 0 2 ⟨by rw[newM,if_neg (by rw[hn];decide)]⟩⟩)
   (fun hn v hv=>⟨_,rfl,by
    have:=hq a b c xs (-1) 0 ⟨by rw[newM,if_pos hn]⟩
    rcases hv with rfl | ⟨rfl,rfl⟩
    ·have e:frzV 0 [] 9 (AV.tup [.agg [.str a,.str b,.str c,.lst 0 (cellsI xs) xs.length 1,.nils,.int .i64 0,.int .i64 0,.int .i64 (-1),.int .u64 0],.int .i64 0])=AV.tup [.agg [.str a,.str b,.str c,.lst 0 (cellsI xs) xs.length 1,.nils,.int .i64 0,.int .i64 0,.int .i64 (-1),.int .u64 0],.int .i64 0]:=rfl
     rw[e];exact this
    ·exact this⟩)
  exact ⟨by simp[oldL,old,(fl_I5 xs).1],by simp[noYL,noY,(fl_I5 xs).2.1],_,1000,⟨mixed04,names04,tabA_ok,smNw_ok⟩,rfl,h⟩
 ·exact hc.elim
theorem rnew_ok:ValidF Tryz.prog gl0 16 cNew:=valid_frz (enters_of (by kernel_rfl)) gl0_noY 9 shK wk_shK fun args H Q hc=>by
 unfold cNew at hc
 split at hc
 ·rename_i a b c tg h n
  obtain ⟨xs,⟨rfl,rfl,h1⟩,hq⟩:=hc
  obtain ⟨hv,hb',h⟩:=rnew_run tg a b c xs h1 (Q:=fun o H' _=>∃v,o=.ret v∧Q (.ret (shK (frzV 0 H' 9 v))) H)
   (fun hn=>⟨_,rfl,hq [] [] [] [] 0 2 ⟨by rw[newM,if_neg (by rw[hn];decide)]⟩⟩)
   (fun hn i tot n H' b' g1 g2 g3 g4 g5=>⟨_,rfl,by
    have:=hq a b c xs (-1) 0 ⟨by rw[newM,if_pos hn]⟩
    have hcl:=cellsI_len xs
    have e:frzV 0 H' 9 (AV.tup [.agg [.str a,.str b,.str c,.sl i tot 0 n 1,.nils,.int .i64 0,.int .i64 0,.int .i64 (-1),.int .u64 0],.int .i64 0])=AV.tup [.agg [.str a,.str b,.str c,frzV 0 H' 7 (.sl i tot 0 n 1),.nils,.int .i64 0,.int .i64 0,.int .i64 (-1),.int .u64 0],.int .i64 0]:=rfl
    rw[e,frz_sl5 (d:=5) g1 g2 (by rw[←g2,g3,hcl];omega) g5 (by rw[g3,List.drop_zero,List.take_of_length_le (by rw[hcl];omega)]) (pl_I5 xs),g4]
    exact this⟩)
  exact ⟨by simp[oldL,old,(fl_I5 xs).1],by simp[noYL,noY,(fl_I5 xs).2.1],_,1000,envFor04 smNw_ok _ _ _,rfl,h⟩
 ·exact hc.elim
end Go.Proofs.YtnhechnaemmdiaaGreatDoor

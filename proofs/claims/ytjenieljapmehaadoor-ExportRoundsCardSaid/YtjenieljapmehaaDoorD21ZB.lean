/-
  Chapter 21: ExportRounds' run.
-/
import Derived.Test.YtjenieljapmehaaDoorD21ZA
set_option linter.unusedSimpArgs false
set_option linter.unusedVariables false
set_option linter.unusedSectionVars false
namespace Go.Proofs.YtjenieljapmehaaDoor
open Go.RowKit
set_option maxRecDepth 1000000

theorem lab_trim:trimM [108,97,98,101,108]=[]:=by kernel_rfl
theorem lab_at {m:List UInt8} {n:Int} (h:m.length=32) (h1:1≤n) (h2:n≤255):expoM m [99] [108,97,98,101,108] n=(octSM m [99] [108,97,98,101,108] n,0):=
 expo_at h (by simp) (by simp) lab_trim (by simp) h1 h2
theorem beqI {a b:Int} (h:a=b):(a==b)=true:=by simp[h]
theorem rounds_run (a b c d x y n0 n1:Int) (hx:0≤x∧x≤255) (hy:0≤y∧y≤255) (hn0:0≤n0∧n0≤255) (hn1:0≤n1∧n1≤255) (Q:Out→List Blk→Gh→Prop) (hq:Q (.ret (.bool true)) [] {}):∃hv hb,goal_3 hv hb a b c d x y n0 n1 Q:=by
 obtain ⟨hv',hb',e'⟩:∃hv hb,goal_3 hv hb a b c d x y n0 n1 Q=_:=⟨_,_,vc_3 a b c d x y n0 n1 Q⟩
 refine ⟨hv',hb',e'.mpr ?_⟩
 clear e'
 have tx:Int.tmod x 21=x%21:=Int.tmod_eq_emod_of_nonneg hx.1
 have ty:Int.tmod y 21=y%21:=Int.tmod_eq_emod_of_nonneg hy.1
 have hmn:0≤imin n0 n1∧imin n0 n1≤imax n0 n1∧imax n0 n1≤255:=by
  unfold imin imax
  split<;>split<;>omega
 rw[tx,ty]
 rintro s0 ⟨h0⟩
 refine ⟨_,rfl,wrapI (by omega) (by omega) ⟨_,rfl,wrapI (by omega) (by omega) ?_⟩⟩
 rintro s5 e6 ⟨h⟩
 rw[mast_at h0 (by omega) (by omega)] at h
 cases h
 have h5:=of_len h0 (x%21).toNat
 rintro s7 e8 ⟨h⟩
 rw[mast_at h5 (by omega) (by omega)] at h
 cases h
 refine wrapI (by omega) (by omega) ?_
 rintro s10 e11 ⟨h⟩
 rw[mast_at h0 (by omega) (by omega)] at h
 cases h
 have hadd:eqB (ofSM (ofSM s0 (x%21).toNat) (y%21).toNat) (ofSM s0 (x%21+y%21).toNat)=true:=by
  rw[eqB_t,of_add]
  congr 1
  omega
 obtain ⟨lo,hlo⟩:∃lo,imin n0 n1=lo:=⟨_,rfl⟩
 obtain ⟨hi,hhi⟩:∃hi,imax n0 n1=hi:=⟨_,rfl⟩
 rw[hlo,hhi] at hmn ⊢
 generalize ofSM s0 (x%21).toNat=m at h5 hadd ⊢
 refine ⟨_,rfl,wrapI (by omega) (by omega) (wrapI (by omega) (by omega) ⟨_,rfl,wrapI (by omega) (by omega) (wrapI (by omega) (by omega) (splitD (fun hbig => ?_) (fun hsm => ?_)))⟩)⟩
 ·have hf:1≤imin (1+lo) 255∧imin (1+lo) 255≤255:=by unfold imin;split<;>omega
  generalize imin (1+lo) 255=few at hf ⊢
  refine ⟨_,rfl,⟨by simp⟩, ?_⟩
  rintro s19 e20 ⟨h⟩
  rw[lab_at h5 hf.1 hf.2] at h
  cases h
  refine ⟨⟨by simp⟩, ?_⟩
  rintro s21 e22 ⟨h⟩
  rw[lab_at h5 (by omega) (by omega)] at h
  cases h
  have l1:(octSM m [99] [108,97,98,101,108] few).length=few.toNat:=oct_len hf.1 hf.2
  have l2:(octSM m [99] [108,97,98,101,108] 255).length=255:=oct_len (by omega) (by omega)
  have hp:(octSM m [99] [108,97,98,101,108] 255).take few.toNat=octSM m [99] [108,97,98,101,108] few:=derive_take _ _ _ (by omega)
  refine ckT rfl (ckT rfl (ckT rfl (ckT hadd (ckT rfl (ckT rfl ⟨_,rfl,ckT (beqI (by omega)) ⟨_,rfl,ckT (beqI (by omega)) ⟨_,rfl,_,rfl,ckT (decide_eq_true (by omega)) ⟨_,rfl,ckI (by simp;omega) ⟨_,rfl,ckT ?_ hq⟩⟩⟩⟩⟩)))))
  rw[eqB_t,l1,Int.toNat_natCast,Nat.sub_zero,List.drop_zero]
  exact hp
 ·refine ⟨⟨by simp⟩, ?_⟩
  rintro s19 e20 ⟨h⟩
  rw[lab_at h5 (by omega) (by omega)] at h
  cases h
  refine ⟨⟨by simp⟩, ?_⟩
  rintro s21 e22 ⟨h⟩
  rw[lab_at h5 (by omega) (by omega)] at h
  cases h
  have l1:(octSM m [99] [108,97,98,101,108] (1+lo)).length=(1+lo).toNat:=oct_len (by omega) (by omega)
  have l2:(octSM m [99] [108,97,98,101,108] (1+hi)).length=(1+hi).toNat:=oct_len (by omega) (by omega)
  have hp:(octSM m [99] [108,97,98,101,108] (1+hi)).take (1+lo).toNat=octSM m [99] [108,97,98,101,108] (1+lo):=derive_take _ _ _ (by omega)
  refine ckT rfl (ckT rfl (ckT rfl (ckT hadd (ckT rfl (ckT rfl ⟨_,rfl,ckT (beqI (by omega)) ⟨_,rfl,ckT (beqI (by omega)) ⟨_,rfl,_,rfl,ckT (decide_eq_true (by omega)) ⟨_,rfl,ckI (by simp;omega) ⟨_,rfl,ckT ?_ hq⟩⟩⟩⟩⟩)))))
  rw[eqB_t,l1,Int.toNat_natCast,Nat.sub_zero,List.drop_zero]
  exact hp
end Go.Proofs.YtjenieljapmehaaDoor

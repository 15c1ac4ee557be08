/-
  Chapter 21: ExportKnown's run.
-/
import Derived.Test.YtjenieljapmehaaDoorD21ZA
set_option linter.unusedSimpArgs false
set_option linter.unusedVariables false
set_option linter.unusedSectionVars false
namespace Go.Proofs.YtjenieljapmehaaDoor
open Go.RowKit
set_option maxRecDepth 1000000

theorem wrI {m c l:List UInt8} {n:Int} {A B:Prop} (hl:l.length≤9223372036854775807) (h:¬ (l≠[]∧trimM l=[]∧l.length≤24∧okOctM m c n=true)) (hA:A) :
  Lf (l.length≤9223372036854775807)∧∀ (s:List UInt8) (e:Int),Lf (expoM m c l n=(s,e))→bif eqB s [] then (bif e==2 then A else B) else B:=by
 refine ⟨⟨hl⟩, ?_⟩
 rintro s e ⟨k⟩
 rw[expoM,if_neg h] at k
 cases k
 exact ckT rfl (ckT rfl hA)
theorem riI {m c l:List UInt8} {n:Int} {A B:Prop} (hm:m.length=32) (hc:c.length≤64) (hl:l≠[]) (ht:trimM l=[]) (hl2:l.length≤24) (h1:1≤n) (h2:n≤255) (hA:A) :
  Lf (l.length≤9223372036854775807)∧∀ (s:List UInt8) (e:Int),Lf (expoM m c l n=(s,e))→∃k:Int,AV.int .i64 (s.length:Int)=AV.int .i64 k∧bif k==n then (bif e==0 then A else B) else B:=by
 refine ⟨⟨by omega⟩, ?_⟩
 rintro s e ⟨k⟩
 rw[expo_at hm hc hl ht hl2 h1 h2] at k
 cases k
 refine ⟨_,rfl,ckT ?_ (ckT rfl hA)⟩
 rw[oct_len h1 h2]
 simp
 omega
theorem no_oct {m c:List UInt8} {n:Int} (h:¬ (m.length=32∧c.length≤64∧1≤n∧n≤255)):¬ okOctM m c n=true:=fun k=>h (of_decide_eq_true k)
theorem known_run (Q:Out→List Blk→Gh→Prop) (hq:Q (.ret (.bool true)) [] {}):∃hv hb,goal_4 hv hb Q:=by
 obtain ⟨hv',hb',e'⟩:∃hv hb,goal_4 hv hb Q=_:=⟨_,_,vc_4 Q⟩
 refine ⟨hv',hb',e'.mpr ?_⟩
 clear e'
 have hm:(repM [UInt8.ofNat 7] 32).length=32:=by kernel_rfl
 have hm0:(repM [UInt8.ofNat 7] 32).length=32:=hm
 obtain ⟨m,hM⟩:∃m,repM [UInt8.ofNat 7] 32=m:=⟨_,rfl⟩
 have t1:eqB (trimM [UInt8.ofNat 88]) []=false:=by kernel_rfl
 have t2:eqB (trimM [UInt8.ofNat 97,UInt8.ofNat 45,UInt8.ofNat 98]) []=false:=by kernel_rfl
 have t3:eqB (trimM [UInt8.ofNat 97,UInt8.ofNat 0]) []=false:=by kernel_rfl
 have l1:(repM [UInt8.ofNat 255] 64).length=64:=by kernel_rfl
 have l2:(repM [UInt8.ofNat 122] 24).length=24:=by kernel_rfl
 have t4:trimM (repM [UInt8.ofNat 122] 24)=[]:=by kernel_rfl
 have t5:trimM [UInt8.ofNat 32]=[]:=by kernel_rfl
 have t6:trimM [UInt8.ofNat 48,UInt8.ofNat 32,UInt8.ofNat 57,UInt8.ofNat 32,UInt8.ofNat 97,UInt8.ofNat 32,UInt8.ofNat 122]=[]:=by kernel_rfl
 rw[hM]
 rw[hM] at hm
 clear hM
 refine wrI (by simp) (fun h=>eqB_f.1 t1 h.2.1) ?_
 refine wrI (by simp) (fun h=>no_oct (by omega) h.2.2.2) ?_
 refine wrI (by simp) (fun h=>no_oct (by omega) h.2.2.2) ?_
 refine wrI (by simp) (fun h=>h.1 rfl) ?_
 refine wrI (by simp) (fun h=>no_oct (by simp) h.2.2.2) ?_
 refine wrI (by simp) (fun h=>no_oct (by simp) h.2.2.2) ?_
 refine wrI (by simp) (fun h=>absurd h.2.2.1 (by simp)) ?_
 refine wrI (by simp) (fun h=>no_oct (fun k=>absurd k.2.1 (by simp)) h.2.2.2) ?_
 refine wrI (by simp) (fun h=>eqB_f.1 t2 h.2.1) ?_
 refine wrI (by simp) (fun h=>eqB_f.1 t3 h.2.1) ?_
 refine wrI (by simp) (fun h=>no_oct (by omega) h.2.2.2) ?_
 refine riI hm (by omega) (fun h=>by rw[h] at l2;cases l2) t4 (by omega) (by omega) (by omega) ?_
 refine riI hm (by simp) (by simp) t5 (by simp) (by omega) (by omega) ?_
 refine riI hm (by simp) (by simp) t6 (by simp) (by omega) (by omega) ?_
 rintro s31 e32 ⟨h⟩
 rw[mastM,if_neg (fun k=>by have:=(of_decide_eq_true k).2.2;omega)] at h
 cases h
 rintro s33 e34 ⟨h⟩
 rw[mast_at hm (by omega) (by omega),show (1000:Int).toNat=999+1 from rfl,←of_add] at h
 rintro s35 e36 ⟨h'⟩
 rw[mast_at hm (by omega) (by omega),show (999:Int).toNat=999 from rfl] at h'
 have hl:=of_len hm 999
 generalize ofSM m 999=m2 at hl h h'
 cases h
 cases h'
 rintro s37 e38 ⟨h⟩
 rw[mast_at hl (by omega) (by omega),show (1:Int).toNat=1 from rfl] at h
 cases h
 rintro k1 s1 x1 k2 s2 x2 ⟨h⟩
 rw[medM,if_neg (by simp)] at h
 cases h
 refine ⟨⟨by rw[hm0];omega,by simp,by simp,by omega,by omega⟩, ?_⟩
 rintro o ⟨eo⟩
 have eo:o=medSM m 0:=eo
 have lo:o.length=152:=by rw[eo];exact oct_len (by omega) (by omega)
 rw[←eo]
 have e3:List.take (o.length-120) (List.drop 120 o)=List.take 32 (List.drop 120 o):=by rw[lo]
 refine ⟨_,rfl,ckN (by rw[lo];rfl) (ckI (by rw[lo];rfl) ⟨_,rfl,ckI (by rw[lo];rfl) ⟨_,rfl,ckI (by rw[lo];rfl) ⟨_,rfl,ckT (by simp[eqB_t]) (ckI (by rw[lo];rfl) ⟨_,rfl,ckI (by rw[lo];rfl) ⟨_,rfl,ckI (by rw[lo];rfl) ⟨_,rfl,ckT (by simp[eqB_t,e3]) (ckT rfl (ckT rfl (ckT rfl (ckT rfl (ckT (eqB_t.2 rfl) hq)))))⟩⟩⟩)⟩⟩⟩)⟩
end Go.Proofs.YtjenieljapmehaaDoor

/-
  Chapter 17: what the cells of a draft and of a list of strings look like.
-/
import Derived.Test.YtiholnebhmjbjaaGreatZ17O
set_option linter.unusedSimpArgs false
set_option linter.unusedVariables false
namespace Go.Proofs.YtiholnebhmjbjaaGreat
open Go.RowKit
set_option maxRecDepth 1000000

theorem und_61:Tryz.prog.underlying 44=some (.slice 9):=by kernel_rfl
theorem sh_draft {k:Nat} {l:List AV} (h:shP Tryz.prog (k+3) 25 l):∃ (ep st kk sk:Int) (sn:List UInt8),l=[.int .u16 ep,.int .u16 st,.int .u8 kk,.int .u8 sk,.lst 0 (ofBytes sn) sn.length 1]∧(0≤ep∧ep≤65535)∧(0≤st∧st≤65535)∧(0≤kk∧kk≤255)∧(0≤sk∧sk≤255)∧sn.length≤9223372036854775807:=by
 have h:=struct_of (by kernel_rfl) h
 rw[show fldsOf 25=[22,22,5,5,23] by kernel_rfl] at h
 obtain ⟨_,_,h1,⟨_,_,h2,⟨_,_,h3,⟨_,_,h4,⟨_,_,h5,rfl,rfl⟩,rfl⟩,rfl⟩,rfl⟩,rfl⟩:=h
 obtain ⟨a,rfl,ha⟩:=sh_u16 h1
 obtain ⟨b,rfl,hb⟩:=sh_u16 h2
 obtain ⟨c,rfl,hc⟩:=sh_u8 h3
 obtain ⟨d,rfl,hd⟩:=sh_u8 h4
 obtain ⟨s,rfl,hs⟩:=sh_u8s h5
 exact ⟨a,b,c,d,s,rfl,ha,hb,hc,hd,hs⟩
theorem draft_open {H:Type} {enc:TypeId×Value→H} {w:World} {v:Value} {d:DataW H} {p:List MemPlace} {base:Nat} (hval:Value.okWide Tryz.prog w .any base 25 v) (h:DataW.Trod enc Tryz.prog w 0 (fun _=>true) true 25 v d p) :
  ∃ (ep st kk sk:Int) (sn:List UInt8),VR (mAll w) (.agg [.int .u16 ep,.int .u16 st,.int .u8 kk,.int .u8 sk,.lst 0 (ofBytes sn) sn.length 1]) v∧(0≤ep∧ep≤65535)∧(0≤st∧st≤65535)∧(0≤kk∧kk≤255)∧(0≤sk∧sk≤255)∧sn.length≤9223372036854775807:=by
 obtain ⟨cs,hv⟩:=okWide_st (by kernel_rfl) hval
 obtain ⟨l,h1,h2⟩:=open_agg (k:=4) hv (by kernel_rfl) h
 obtain ⟨ep,st,kk,sk,sn,rfl,hr⟩:=sh_draft (k:=1) h2
 exact ⟨ep,st,kk,sk,sn,h1,hr⟩
theorem strs_of {k:Nat}:∀ (ls:List (List AV)),(∀x∈ls,shP Tryz.prog (k+1) 9 x)→∃ts:List (List UInt8),ls.flatten=ts.map AV.str∧ls.length=ts.length∧∀t∈ts,t.length≤9223372036854775807
 | [],_=>⟨[],rfl,rfl,fun t h=>by cases h⟩
 | x::ls,h=>by
  obtain ⟨s,rfl,hs⟩:=sh_str (h x (by simp))
  obtain ⟨ts,h1,h2,h3⟩:=strs_of ls fun y hy=>h y (by simp[hy])
  refine ⟨s::ts, ?_,by simp[h2],fun t ht => ?_⟩
  ·rw[List.flatten_cons,h1]
   rfl
  ·rcases List.mem_cons.1 ht with rfl | ht
   ·exact hs
   ·exact h3 t ht
theorem strs_open {H:Type} {enc:TypeId×Value→H} {w:World} {v:Value} {d:DataW H} {p:List MemPlace} {base:Nat} (hval:Value.okWide Tryz.prog w .any base 44 v) (h:DataW.Trod enc Tryz.prog w 0 (fun _=>true) true 44 v d p) :
  ∃ts:List (List UInt8),VR (mAll w) (.lst 0 (ts.map AV.str) ts.length 1) v∧∀t∈ts,t.length≤9223372036854775807:=by
 obtain ⟨l,h1,h2⟩:=open_sl (k:=3) und_61 (by kernel_rfl) hval h
 rw[shP] at h2
 simp only[und_61,show Tryz.prog.cellsOf 9=1 by kernel_rfl] at h2
 obtain ⟨ls,k1,k2,rfl⟩:=h2
 obtain ⟨ts,q1,q2,q3⟩:=strs_of (k:=1) ls fun x hx=>(k1 x hx).1
 rw[VRL_cons,q1,q2] at h1
 exact ⟨ts,h1.1,q3⟩
end Go.Proofs.YtiholnebhmjbjaaGreat

/-
  Chapter 17, second seat: the walk of RecordOpens.
-/
import Derived.Test.YtiholnebhmjbjaaGreatZOD
import Derived.Test.YtiholnebhmjbjaaGreatZ17O2
import Derived.ProofKit
set_option linter.unusedSimpArgs false
set_option linter.unusedVariables false
namespace Go.Proofs.YtiholnebhmjbjaaGreat
open Go.RowKit
set_option maxRecDepth 1000000

theorem bend_open {H:Type} {enc:TypeId×Value→H} {w:World} {v:Value} {d:DataW H} {p:List MemPlace} {base:Nat} (hval:Value.okWide Tryz.prog w .any base 30 v) (h:DataW.Trod enc Tryz.prog w 0 (fun _=>true) true 30 v d p) :
  ∃ (wh n:Int) (s:List UInt8) (t:Int) (k:Nat),VR (mAll w) (.agg [.int .u8 wh,.int .i64 n,.str s,.int .i64 t,.int .u64 (k:Nat)]) v∧(0≤wh∧wh≤255)∧k<18446744073709551616:=by
 obtain ⟨cs,hv⟩:=okWide_st (by kernel_rfl) hval
 obtain ⟨l,h1,h2⟩:=open_agg (k:=4) hv (by kernel_rfl) h
 have h:=struct_of (by kernel_rfl) h2
 rw[show fldsOf 30=[5,3,9,28] by kernel_rfl] at h
 obtain ⟨_,_,h3,⟨_,_,h4,⟨_,_,h5,⟨_,_,h6,rfl,rfl⟩,rfl⟩,rfl⟩,rfl⟩:=h
 obtain ⟨a,rfl,ha⟩:=sh_u8 h3
 obtain ⟨b,rfl,hb⟩:=sh_i64 h4
 obtain ⟨s,rfl,hs⟩:=sh_str h5
 obtain ⟨t,k,rfl,ht,hk⟩:=sh_win h6
 exact ⟨a,b,s,t,k,h1,ha,hk⟩
theorem edit_open {H:Type} {enc:TypeId×Value→H} {w:World} {v:Value} {d:DataW H} {p:List MemPlace} {base:Nat} (hval:Value.okWide Tryz.prog w .any base 46 v) (h:DataW.Trod enc Tryz.prog w 0 (fun _=>true) true 46 v d p) :
  ∃ (a b:Int) (s:List UInt8),VR (mAll w) (.agg [.int .u16 a,.int .u16 b,.str s]) v∧(0≤a∧a≤65535)∧(0≤b∧b≤65535):=by
 obtain ⟨cs,hv⟩:=okWide_st (by kernel_rfl) hval
 obtain ⟨l,h1,h2⟩:=open_agg (k:=4) hv (by kernel_rfl) h
 have h:=struct_of (by kernel_rfl) h2
 rw[show fldsOf 46=[22,22,9] by kernel_rfl] at h
 obtain ⟨_,_,h3,⟨_,_,h4,⟨_,_,h5,rfl,rfl⟩,rfl⟩,rfl⟩:=h
 obtain ⟨a,rfl,ha⟩:=sh_u16 h3
 obtain ⟨b,rfl,hb⟩:=sh_u16 h4
 obtain ⟨s,rfl,hs⟩:=sh_str h5
 exact ⟨a,b,s,h1,ha,hb⟩
theorem recordOpens_walk (v0 v1 v2 v3:Value) (text:ByteArray) (w:World) {H:Type} {enc:TypeId×Value→H} {base:Nat} {d0:DataW H} {p0:List MemPlace} {d1:DataW H} {p1:List MemPlace} {d2:DataW H} {p2:List MemPlace} {d3:DataW H} {p3:List MemPlace}
  (hval0:Value.okWide Tryz.prog w .any base 25 v0) (h0:DataW.Trod enc Tryz.prog w 0 (fun _=>true) true 25 v0 d0 p0) (_:∀x∈p0,x.block<w.heap.size)
  (hval1:Value.okWide Tryz.prog w .any base 30 v1) (h1:DataW.Trod enc Tryz.prog w 0 (fun _=>true) true 30 v1 d1 p1) (_:∀x∈p1,x.block<w.heap.size)
  (hval2:Value.okWide Tryz.prog w .any base 44 v2) (h2:DataW.Trod enc Tryz.prog w 0 (fun _=>true) true 44 v2 d2 p2) (_:∀x∈p2,x.block<w.heap.size)
  (hval3:Value.okWide Tryz.prog w .any base 46 v3) (h3:DataW.Trod enc Tryz.prog w 0 (fun _=>true) true 46 v3 d3 p3) (_:∀x∈p3,x.block<w.heap.size) (_:text.size≤maxLen) :
  Calls Tryz.prog 4 #[v0,v1,v2,v3,.string text] w fun e w'=>e=.returned (.bool true)∧Below w.heap.size w w':=by
 obtain ⟨ep,st,kk,sk,sn,g0,hep,hst,hkk,hsk,hsn⟩:=draft_open hval0 h0
 obtain ⟨wh,n,s,t,k,g1,hwh,hk⟩:=bend_open hval1 h1
 obtain ⟨ts,g2,hts⟩:=strs_open hval2 h2
 obtain ⟨x,y,tx,g3,hx,hy⟩:=edit_open hval3 h3
 obtain ⟨hv,hb,h⟩:=opens_run ep st kk sk sn wh n s t k ts x y tx text.data.toList hsn hep hst hwh hk hx hy isT trivial
 exact call_all (envFor04 smOl_ok _ hv hb) h w (glob0 w) (by
  simp only[VRL_cons,VRL_nil,and_true]
  exact ⟨g0,g1,g2,g3,by simp[VR]⟩)
end Go.Proofs.YtiholnebhmjbjaaGreat

/-
  Chapter 17: what the cells of the arguments look like.
-/
import Derived.Test.YtiholnebhmjbjaaM17E
import Derived.ProofKit
set_option linter.unusedSimpArgs false
set_option linter.unusedVariables false
namespace Go.Proofs.Ytiholnebhmjbjaa
open Go.RowKit
set_option maxRecDepth 1000000

theorem und_5:Try.prog.underlying 5=some (.int .u8):=by kernel_rfl
theorem und_41:Try.prog.underlying 41=some (.slice 5):=by kernel_rfl
theorem wf8 {n:Int} (h:(Lit.int .u8 n).wf=true):0≤n∧n≤255:=by
 simp[Lit.wf,IntKind.min,IntKind.max,IntKind.signed,IntKind.bits] at h
 omega
theorem wf16 {n:Int} (h:(Lit.int .u16 n).wf=true):0≤n∧n≤65535:=by
 simp[Lit.wf,IntKind.min,IntKind.max,IntKind.signed,IntKind.bits] at h
 omega
theorem sh_u8 {k:Nat} {l:List AV} (h:shP Try.prog (k+1) 5 l):∃n,l=[.int .u8 n]∧0≤n∧n≤255:=by
 rw[shP] at h
 simp only[und_5] at h
 obtain ⟨n,h1,h2⟩:=h
 exact ⟨n,h1,wf8 h2⟩
theorem u8s_of {k:Nat}:∀ (ls:List (List AV)),(∀x∈ls,shP Try.prog (k+1) 5 x)→∃s:List UInt8,ls.flatten=ofBytes s∧ls.length=s.length
 | [],_=>⟨[],rfl,rfl⟩
 | x::ls,h=>by
  obtain ⟨n,rfl,hn⟩:=sh_u8 (h x (by simp))
  obtain ⟨s,h1,h2⟩:=u8s_of ls fun y hy=>h y (by simp[hy])
  refine ⟨UInt8.ofNat n.toNat::s, ?_,by simp[h2]⟩
  rw[List.flatten_cons,h1]
  simp only[ofBytes,List.map_cons,List.singleton_append]
  congr 2
  rw[UInt8.toNat_ofNat']
  omega
theorem sh_u8s {k:Nat} {l:List AV} (h:shP Try.prog (k+2) 41 l):∃s:List UInt8,l=[.lst 0 (ofBytes s) s.length 1]∧s.length≤9223372036854775807:=by
 rw[shP] at h
 simp only[und_41,show Try.prog.cellsOf 5=1 by kernel_rfl] at h
 obtain ⟨ls,h1,h2,h3⟩:=h
 obtain ⟨s,k1,k2⟩:=u8s_of ls fun x hx=>(h1 x hx).1
 unfold maxLen at h2
 exact ⟨s,by rw[h3,k1,k2],by omega⟩
theorem open_sl {H:Type} {enc:TypeId×Value→H} {w:World} {v:Value} {d:DataW H} {p:List MemPlace} {base k:Nat} {t e:TypeId} (ht:Try.prog.underlying t=some (.slice e)) (hg:goodT Try.prog k t=true) (hval:Value.okWide Try.prog w .any base t v)
  (h:DataW.Trod enc Try.prog w 0 (fun _=>true) true t v d p):∃l,VRL (mAll w) l [v]∧shP Try.prog k t l:=by
 obtain ⟨a,len,cap,rfl⟩:=Go.WideShapes.okWide_slice ht hval
 obtain ⟨m,hm⟩:=h
 obtain ⟨_,l,hl,hs⟩:=deep_ok k t m [.slice a len cap] (d,p) hg (by simpa [Value.cells] using hm)
 exact ⟨l,hl,hs⟩
theorem u8s_open {H:Type} {enc:TypeId×Value→H} {w:World} {v:Value} {d:DataW H} {p:List MemPlace} {base:Nat} (hval:Value.okWide Try.prog w .any base 41 v) (h:DataW.Trod enc Try.prog w 0 (fun _=>true) true 41 v d p) :
  ∃s:List UInt8,VR (mAll w) (.lst 0 (ofBytes s) s.length 1) v∧s.length≤9223372036854775807:=by
 obtain ⟨l,h1,h2⟩:=open_sl (k:=3) und_41 (by kernel_rfl) hval h
 obtain ⟨s,rfl,hs⟩:=sh_u8s h2
 rw[VRL_cons] at h1
 exact ⟨s,h1.1,hs⟩
theorem glob0 (w:World):Glob gl0 w:=fun g cs h=>by cases h
end Go.Proofs.Ytiholnebhmjbjaa

/-
  Chapter 17: the walk of RecordOnce.
-/
import Derived.Test.YtiholnebhmjbjaaM17R1
import Derived.Test.YtiholnebhmjbjaaM17O
set_option linter.unusedSimpArgs false
set_option linter.unusedVariables false
namespace Go.Proofs.Ytiholnebhmjbjaa
open Go.RowKit
set_option maxRecDepth 1000000

theorem und_i8:Try.prog.underlying 57=some (.int .i8):=by kernel_rfl
theorem und_i8s:Try.prog.underlying 55=some (.slice 57):=by kernel_rfl
theorem wfi8 {n:Int} (h:(Lit.int .i8 n).wf=true) : -128≤n∧n≤127:=by
 simp[Lit.wf,IntKind.min,IntKind.max,IntKind.signed,IntKind.bits] at h
 omega
theorem sh_i8 {k:Nat} {l:List AV} (h:shP Try.prog (k+1) 57 l):∃n,l=[.int .i8 n] ∧ -128≤n∧n≤127:=by
 rw[shP] at h
 simp only[und_i8] at h
 obtain ⟨n,h1,h2⟩:=h
 exact ⟨n,h1,wfi8 h2⟩
theorem i8s_of {k:Nat}:∀ (ls:List (List AV)),(∀x∈ls,shP Try.prog (k+1) 57 x)→∃s:List Int,ls.flatten=c8M s∧ls.length=s.length∧∀n∈s, -128≤n∧n≤127
 | [],_=>⟨[],rfl,rfl,fun n h=>by cases h⟩
 | x::ls,h=>by
  obtain ⟨n,rfl,hn⟩:=sh_i8 (h x (by simp))
  obtain ⟨s,h1,h2,h3⟩:=i8s_of ls fun y hy=>h y (by simp[hy])
  refine ⟨n::s, ?_,by simp[h2],fun m hm => ?_⟩
  ·rw[List.flatten_cons,h1]
   rfl
  ·rcases List.mem_cons.1 hm with rfl | hm
   ·exact hn
   ·exact h3 m hm
theorem i8s_open {H:Type} {enc:TypeId×Value→H} {w:World} {v:Value} {d:DataW H} {p:List MemPlace} {base:Nat} (hval:Value.okWide Try.prog w .any base 55 v) (h:DataW.Trod enc Try.prog w 0 (fun _=>true) true 55 v d p) :
  ∃s:List Int,VR (mAll w) (.lst 0 (c8M s) s.length 1) v∧∀n∈s, -128≤n∧n≤127:=by
 obtain ⟨l,h1,h2⟩:=open_sl (k:=3) und_i8s (by kernel_rfl) hval h
 rw[shP] at h2
 simp only[und_i8s,show Try.prog.cellsOf 57=1 by kernel_rfl] at h2
 obtain ⟨ls,k1,k2,rfl⟩:=h2
 obtain ⟨s,q1,q2,q3⟩:=i8s_of (k:=1) ls fun x hx=>(k1 x hx).1
 rw[VRL_cons,q1,q2] at h1
 exact ⟨s,h1.1,q3⟩
theorem recordOnce_walk (st:Int) (v1 v2:Value) (w:World) (w0:(Lit.int .u16 st).wf=true) {H:Type} {enc:TypeId×Value→H} {base:Nat} {d1 d2:DataW H} {p1 p2:List MemPlace}
  (hval1:Value.okWide Try.prog w .any base 41 v1) (h1:DataW.Trod enc Try.prog w 0 (fun _=>true) true 41 v1 d1 p1) (_:∀x∈p1,x.block<w.heap.size)
  (hval2:Value.okWide Try.prog w .any base 55 v2) (h2:DataW.Trod enc Try.prog w 0 (fun _=>true) true 55 v2 d2 p2) (_:∀x∈p2,x.block<w.heap.size) :
  Calls Try.prog 6 #[.int .u16 st,v1,v2] w fun e w'=>e=.returned (.bool true)∧Below w.heap.size w w':=by
 obtain ⟨s,hs,hl⟩:=u8s_open hval1 h1
 obtain ⟨n,hn,hr⟩:=i8s_open hval2 h2
 obtain ⟨hv,hb,h⟩:=once6_run st s n (wf16 w0) hl hr isT trivial
 exact call_all (envFor04 smK6_ok _ _ _) h w (glob0 w) (by
  simp only[VRL_cons,VRL_nil,and_true]
  exact ⟨by simp[VR],hs,hn⟩)
end Go.Proofs.Ytiholnebhmjbjaa

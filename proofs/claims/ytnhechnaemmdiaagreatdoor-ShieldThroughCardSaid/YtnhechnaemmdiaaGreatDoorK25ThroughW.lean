/-
  Chapter 25: the walk of ShieldThrough.
-/
import Derived.Test.YtnhechnaemmdiaaGreatDoorK25TN
import Derived.Test.YtnhechnaemmdiaaGreatDoorKnU
import Derived.Test.YtnhechnaemmdiaaGreatDoorK25L
set_option linter.unusedSimpArgs false
set_option linter.unusedVariables false
namespace Go.Proofs.YtnhechnaemmdiaaGreatDoor
open Go.RowKit
set_option maxRecDepth 1000000

theorem bFw:Tryz.prog.underlying 80=some (.slice 5):=by kernel_rfl
theorem aV0:∀s:List UInt8,s.flatMap (fun b=>[AV.int .u8 (b.toNat:Int)])=ofBytes s
 | []=>rfl
 | b::s=>by rw[List.flatMap_cons,aV0 s];rfl
theorem aCr {H:Type} {enc:TypeId×Value→H} {w:World} {v:Value} {d:DataW H} {p:List MemPlace} {base:Nat} (hval:Value.okWide Tryz.prog w .any base 80 v) (h:DataW.Trod enc Tryz.prog w 0 (fun _=>true) true 80 v d p) :
  ∃s:List UInt8,VRL (aE7 w) [.lst 0 (ofBytes s) s.length 1] [v]∧s.length≤9223372036854775807:=by
 obtain ⟨a,len,cap,rfl⟩:=Go.WideShapes.okWide_slice bFw hval
 obtain ⟨m,hm⟩:=h
 obtain ⟨_,l,hl,hs⟩:=nP 3 80 m [.slice a len cap] (d,p) (by kernel_rfl) (by simpa [Value.cells] using hm)
 obtain ⟨s,rfl,h1,_⟩:=aO8 (f:=fun b:UInt8=>[AV.int .u8 (b.toNat:Int)]) (g:=fun _=>True) bFw (show Tryz.prog.cellsOf 5=1 by kernel_rfl) (fun l h=>by
  obtain ⟨n,rfl,hn⟩:=bLq h
  exact ⟨UInt8.ofNat n,by rw[UInt8.toNat_ofNat_of_lt' (by show n<256;omega)],trivial⟩) hs
 rw[aV0] at hl
 exact ⟨s,hl,h1⟩
theorem bDb (key:List UInt8) (u:Int) (hv:Nat→Option Pa) (hb:Nat→Option Bool):EnvOk Tryz.prog (e6T key u hv hb):=by
 refine ⟨iB,fun f g hf => ?_,aZy⟩
 show Enters Tryz.prog f∧_
 have hf':(bif Nat.beq f 6 then aUi Tryz.prog gT 6 else none)=some g:=hf
 cases h6:Nat.beq f 6 with
 | false=>rw[h6] at hf';cases hf'
 | true=>
  rw[h6,bO3] at hf'
  obtain rfl:=bPl h6
  exact aTb iZ (fun id ops ho=>by
   rw[aZv,bOy] at ho
   rw[ho,ntT]
   exact bMs id) hf'
theorem mI (v0 v1 v2:Value) (w:World) (hL:laidMetH Tryz.prog L25 w) {H:Type} {enc:TypeId×Value→H} {base:Nat} {d0 d1 d2:DataW H} {p0 p1 p2:List MemPlace}
  (hval0:Value.okWide Tryz.prog w .any base 26 v0) (h0:DataW.Trod enc Tryz.prog w 0 (fun _=>true) true 26 v0 d0 p0) (_:∀x∈p0,x.block<w.heap.size) (hz:∀n∈d0.weights Tryz.prog 26,n≤reachBytes)
  (hval1:Value.okWide Tryz.prog w .any base 80 v1) (h1:DataW.Trod enc Tryz.prog w 0 (fun _=>true) true 80 v1 d1 p1) (_:∀x∈p1,x.block<w.heap.size)
  (hval2:Value.okWide Tryz.prog w .any base 80 v2) (h2:DataW.Trod enc Tryz.prog w 0 (fun _=>true) true 80 v2 d2 p2) (_:∀x∈p2,x.block<w.heap.size) :
  Calls Tryz.prog 6 #[v0,v1,v2] w fun e w'=>e=.returned (.bool true)∧Below w.heap.size w w':=by
 obtain ⟨key,hd,fi,ks,ss,g0,a1,a2,a3,a4,a5,_⟩:=aAy hval0 h0 hz
 obtain ⟨st,g1,b1⟩:=aCr hval1 h1
 obtain ⟨od,g2,b2⟩:=aCr hval2 h2
 obtain ⟨hv',hb',h⟩:=aDo (key:=key) (u:=(hd:Int)) (fi:=(fi:Int)) (l:=aU9 ks) (n:=ks.length) (ss:=(ss:Int)) (ks:=st) (od:=od) (Q:=isT) ⟨ks,by omega,rfl,rfl,a1⟩ (by omega) b1 b2 (fun _=>trivial)
 exact aKp (bDb _ _ _ _) h w (bD1 hL) (by
  simp only[bB,fG,bOo] at g1 g2 ⊢
  exact ⟨g0,g1,g2⟩)
end Go.Proofs.YtnhechnaemmdiaaGreatDoor

/-
  Chapter 24: the walk of ControlDecodes.
-/
import Derived.Test.YtafchcmemeinlaaDoorCmD
import Derived.Test.YtafchcmemeinlaaDoorCrC
import Derived.Test.YtafchcmemeinlaaDoorC24C
set_option linter.unusedSimpArgs false
set_option linter.unusedVariables false
namespace Go.Proofs.YtafchcmemeinlaaDoor
open Go.RowKit
set_option maxRecDepth 1000000

theorem oO (v0 v1 v2:Value) (raw:ByteArray) (w:World) (hL:laidMetH Tryd.prog L24 w) {H:Type} {enc:TypeId×Value→H} {base:Nat} {d0:DataW H} {p0:List MemPlace}
  (hval0:Value.okWide Tryd.prog w .any base 24 v0) (h0:DataW.Trod enc Tryd.prog w 0 (fun _=>true) true 24 v0 d0 p0) (_:∀x∈p0,x.block<w.heap.size) {d1:DataW H} {p1:List MemPlace}
  (hval1:Value.okWide Tryd.prog w .any base 27 v1) (h1:DataW.Trod enc Tryd.prog w 0 (fun _=>true) true 27 v1 d1 p1) (_:∀x∈p1,x.block<w.heap.size) {d2:DataW H} {p2:List MemPlace}
  (hval2:Value.okWide Tryd.prog w .any base 27 v2) (h2:DataW.Trod enc Tryd.prog w 0 (fun _=>true) true 27 v2 d2 p2) (_:∀x∈p2,x.block<w.heap.size) (wr:raw.size≤maxLen) :
  Calls Tryd.prog 3 #[v0,v1,v2,.string raw] w fun e w'=>e=.returned (.bool true)∧Below w.heap.size w w':=by
 obtain ⟨b,ps,hv0,hps⟩:=aMs hval0 h0
 obtain ⟨x1,y1,t1,hv1,hx1,hy1⟩:=aD7 hval1 h1
 obtain ⟨x2,y2,t2,hv2,hx2,hy2⟩:=aD7 hval2 h2
 obtain ⟨hv',hb',h⟩:=aG9 b 0 ps x1 y1 x2 y2 t1 t2 raw.data.toList hps hx1 hy1 hx2 hy2 isT trivial
 exact aWe (aS bAh _ _ _) h w (bKh hL) (by
  simp only[bL,jL,and_true]
  exact ⟨hv0,hv1,hv2,by simp[VR]⟩)
end Go.Proofs.YtafchcmemeinlaaDoor

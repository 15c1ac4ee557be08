/-
  Chapter 25: the walk of ShieldHides.
-/
import Derived.Test.YtnhechnaemmdiaaGreatDoorK25NP
import Derived.Test.YtnhechnaemmdiaaGreatDoorKnU
import Derived.Test.YtnhechnaemmdiaaGreatDoorK25L
set_option linter.unusedSimpArgs false
set_option linter.unusedVariables false
namespace Go.Proofs.YtnhechnaemmdiaaGreatDoor
open Go.RowKit
set_option maxRecDepth 1000000

theorem qG (v0:Value) (seq:Int) (v2:Value) (w:World) (hL:laidMetH Tryz.prog L25 w) {H:Type} {enc:TypeId×Value→H} {base:Nat} {d0 d2:DataW H} {p0 p2:List MemPlace}
  (hval0:Value.okWide Tryz.prog w .any base 9 v0) (h0:DataW.Trod enc Tryz.prog w 0 (fun _=>true) true 9 v0 d0 p0) (_:∀x∈p0,x.block<w.heap.size) (hz:∀n∈d0.weights Tryz.prog 9,n≤reachBytes)
  (hs:(Lit.int .u16 seq).wf=true)
  (hval2:Value.okWide Tryz.prog w .any base 87 v2) (h2:DataW.Trod enc Tryz.prog w 0 (fun _=>true) true 87 v2 d2 p2) (_:∀x∈p2,x.block<w.heap.size) :
  Calls Tryz.prog 7 #[v0,.int .u16 seq,v2] w fun e w'=>e=.returned (.bool true)∧Below w.heap.size w w':=by
 obtain ⟨key,g0,a0⟩:=aTt hval0 h0 hz
 obtain ⟨d0,d1,g2,b0,b1⟩:=aLl hval2 h2
 have hs':0≤seq∧seq≤65535:=bPd hs
 obtain ⟨hv',hb',h⟩:=aOt key d0 d1 seq a0 hs' b0 b1 isT trivial
 exact aSj (aY bBo _ _ _) h w (bGl hL) (by
  simp only[bE,gI,and_true]
  exact ⟨g0,by simp[VR],g2⟩)
end Go.Proofs.YtnhechnaemmdiaaGreatDoor

/-
  Chapter 25: the walk of ShieldSends.
-/
import Derived.Test.YtnhechnaemmdiaaGreatDoorUnB
import Derived.Test.YtnhechnaemmdiaaGreatDoorK25UO
import Derived.Test.YtnhechnaemmdiaaGreatDoorK25L
set_option linter.unusedSimpArgs false
set_option linter.unusedVariables false
namespace Go.Proofs.YtnhechnaemmdiaaGreatDoor
open Go.RowKit
set_option maxRecDepth 1000000

theorem sU(v0 v1:Value)(w:World)(hL:laidMetH Tryz.prog L25 w){H:Type}{enc:TypeId×Value->H}{base:Nat}{d0 d1:DataW H}{p0 p1:List MemPlace}
  (hval0:Value.okWide Tryz.prog w .any base 26 v0) (h0:DataW.Trod enc Tryz.prog w 0 (λ_=>true) true 26 v0 d0 p0) (_:∀x∈p0,x.block<w.heap.size) (hz:∀n∈d0.weights Tryz.prog 26,n<=reachBytes)
  (hval1:Value.okWide Tryz.prog w .any base 96 v1) (h1:DataW.Trod enc Tryz.prog w 0 (λ_=>true) true 96 v1 d1 p1) (_:∀x∈p1,x.block<w.heap.size) :
  Calls Tryz.prog 8 #[v0,v1] w λe w'=>e=.returned (.bool true)∧Below w.heap.size w w':=by
 obtain⟨key,hd,fi,ks,ss,g0,a1,a2,a3,a4,a5,_⟩:=aFn hval0 h0 hz
 obtain⟨b,qs,g1,b1⟩:=aEu hval1 h1
 obtain⟨hv',hb',h⟩:=aUv (key:=key) (u:=hd) (fi:=fi) (ks:=ks) (ss:=ss) (b:=b) (tc:=0) (qs:=qs) (Q:=isT) a2 a3 a1 a4 a5 b1 trivial
 exact aX7 (aS bPt _ _ _) h w (bLc hL) (by
  simp only[bH,gL,cA6]
  exact⟨g0,g1⟩)
end Go.Proofs.YtnhechnaemmdiaaGreatDoor

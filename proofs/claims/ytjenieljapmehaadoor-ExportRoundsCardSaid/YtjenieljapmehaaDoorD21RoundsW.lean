/-
  Chapter 21: the walk of ExportRounds.
-/
import Derived.Test.YtjenieljapmehaaDoorD21ZB
import Derived.Test.YtjenieljapmehaaDoorD21O
set_option linter.unusedSimpArgs false
set_option linter.unusedVariables false
namespace Go.Proofs.YtjenieljapmehaaDoor
open Go.RowKit
set_option maxRecDepth 1000000

theorem exportRounds_walk (v0:Value) (x y:Int) (v3:Value) (w:World) (_:laidMetH Tryd.prog L21 w) {H:Type} {enc:TypeId×Value→H} {base:Nat} {d0 d3:DataW H} {p0 p3:List MemPlace}
  (hval0:Value.okWide Tryd.prog w .any base 22 v0) (h0:DataW.Trod enc Tryd.prog w 0 (fun _=>true) true 22 v0 d0 p0) (_:∀x∈p0,x.block<w.heap.size)
  (w1:(Lit.int .u8 x).wf=true) (w2:(Lit.int .u8 y).wf=true)
  (hval3:Value.okWide Tryd.prog w .any base 23 v3) (h3:DataW.Trod enc Tryd.prog w 0 (fun _=>true) true 23 v3 d3 p3) (_:∀x∈p3,x.block<w.heap.size) :
  Calls Tryd.prog 3 #[v0,.int .u8 x,.int .u8 y,v3] w fun e w'=>e=.returned (.bool true)∧Below w.heap.size w w':=by
 obtain ⟨a,b,c,d,g0⟩:=four_open hval0 h0
 obtain ⟨n0,n1,g3,k0,k1⟩:=two_open hval3 h3
 obtain ⟨hv,hb,h⟩:=rounds_run a b c d x y n0 n1 (wf8 w1) (wf8 w2) k0 k1 isT trivial
 exact call_all (envFor18 smL_ok _ hv hb) h w (glob21 w) (by
  simp only[VRL_cons,VRL_nil,and_true]
  exact ⟨g0,by simp[VR],by simp[VR],g3⟩)
end Go.Proofs.YtjenieljapmehaaDoor

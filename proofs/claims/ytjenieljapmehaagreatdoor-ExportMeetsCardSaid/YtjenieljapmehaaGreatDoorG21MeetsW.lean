/-
  Chapter 21: the walk of ExportMeets.
-/
import Derived.Test.YtjenieljapmehaaGreatDoorGrF
import Derived.Test.YtjenieljapmehaaGreatDoorG21O
set_option linter.unusedSimpArgs false
set_option linter.unusedVariables false
namespace Go.Proofs.YtjenieljapmehaaGreatDoor
open Go.RowKit
set_option maxRecDepth 1000000

theorem exportMeets_walk (v0:Value) (x:Int) (cl:Bool) (kind:Int) (body:ByteArray) (w:World) (_:laidMetH Tryz.prog L21 w) {H:Type} {enc:TypeId×Value→H} {base:Nat} {d0:DataW H} {p0:List MemPlace}
  (hval0:Value.okWide Tryz.prog w .any base 22 v0) (h0:DataW.Trod enc Tryz.prog w 0 (fun _=>true) true 22 v0 d0 p0) (_:∀x∈p0,x.block<w.heap.size)
  (w1:(Lit.int .u8 x).wf=true) (w3:(Lit.int .u8 kind).wf=true) (wb:body.size≤maxLen) :
  Calls Tryz.prog 5 #[v0,.int .u8 x,.bool cl,.int .u8 kind,.string body] w fun e w'=>e=.returned (.bool true)∧Below w.heap.size w w':=by
 obtain ⟨a,b,c,d,g0⟩:=four_open hval0 h0
 have hs:body.data.toList.length≤9223372036854775807:=by
  have:body.data.toList.length=body.size:=by rw[Array.length_toList];rfl
  unfold maxLen at wb
  omega
 cases cl with
 | true=>
  obtain ⟨hv,hb,h⟩:=meetsT_run a b c d x kind body.data.toList (wf8 w1) (wf8 w3) hs isT trivial
  exact call_all (envFor18 smMt_ok _ hv hb) h w (glob21 w) (by
   simp only[VRL_cons,VRL_nil,and_true]
   exact ⟨g0,by simp[VR],by simp[VR],by simp[VR],by simp[VR]⟩)
 | false=>
  obtain ⟨hv,hb,h⟩:=meetsF_run a b c d x kind body.data.toList (wf8 w1) (wf8 w3) hs isT trivial
  exact call_all (envFor18 smMt_ok _ hv hb) h w (glob21 w) (by
   simp only[VRL_cons,VRL_nil,and_true]
   exact ⟨g0,by simp[VR],by simp[VR],by simp[VR],by simp[VR]⟩)
end Go.Proofs.YtjenieljapmehaaGreatDoor

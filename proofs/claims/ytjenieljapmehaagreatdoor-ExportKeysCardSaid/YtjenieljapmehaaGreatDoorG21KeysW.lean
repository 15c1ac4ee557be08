/-
  Chapter 21: the walk of ExportKeys.
-/
import Derived.Test.YtjenieljapmehaaGreatDoorGmJ
import Derived.Test.YtjenieljapmehaaGreatDoorG21O
set_option linter.unusedSimpArgs false
set_option linter.unusedVariables false
namespace Go.Proofs.YtjenieljapmehaaGreatDoor
open Go.RowKit
set_option maxRecDepth 1000000

theorem exportKeys_walk (raw:ByteArray) (v1:Value) (r sm:Int) (w:World) (_:laidMetH Tryz.prog L21 w) {H:Type} {enc:TypeId×Value→H} {base:Nat} {d1:DataW H} {p1:List MemPlace}
  (wr:raw.size≤maxLen) (hval1:Value.okWide Tryz.prog w .any base 22 v1) (h1:DataW.Trod enc Tryz.prog w 0 (fun _=>true) true 22 v1 d1 p1) (_:∀x∈p1,x.block<w.heap.size)
  (_:(Lit.int .i64 r).wf=true) (_:(Lit.int .u8 sm).wf=true) :
  Calls Tryz.prog 4 #[.string raw,v1,.int .i64 r,.int .u8 sm] w fun e w'=>e=.returned (.bool true)∧Below w.heap.size w w':=by
 obtain ⟨a,b,c,d,g1⟩:=four_open hval1 h1
 have hs:raw.data.toList.length≤9223372036854775807:=by
  have:raw.data.toList.length=raw.size:=by rw[Array.length_toList];rfl
  unfold maxLen at wr
  omega
 obtain ⟨hv,hb,h⟩:=keys_run raw.data.toList a b c d r sm hs isT trivial
 exact call_all (envFor18 smKy_ok _ hv hb) h w (glob21 w) (by
  simp only[VRL_cons,VRL_nil,and_true]
  exact ⟨by simp[VR],g1,by simp[VR],by simp[VR]⟩)
end Go.Proofs.YtjenieljapmehaaGreatDoor

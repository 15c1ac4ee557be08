/-
  Chapter 21: the walk of ExportGives.
-/
import Derived.Test.YtjenieljapmehaaGreatDoorGmJ
import Derived.Test.YtjenieljapmehaaGreatDoorG21O
set_option linter.unusedSimpArgs false
set_option linter.unusedVariables false
namespace Go.Proofs.YtjenieljapmehaaGreatDoor
open Go.RowKit
set_option maxRecDepth 1000000

theorem exportGives_walk (raw:ByteArray) (v1:Value) (ctx lab:ByteArray) (n:Int) (w:World) (_:laidMetH Tryz.prog L21 w) {H:Type} {enc:TypeId×Value→H} {base:Nat} {d1:DataW H} {p1:List MemPlace}
  (wr:raw.size≤maxLen) (hval1:Value.okWide Tryz.prog w .any base 22 v1) (h1:DataW.Trod enc Tryz.prog w 0 (fun _=>true) true 22 v1 d1 p1) (_:∀x∈p1,x.block<w.heap.size)
  (wc:ctx.size≤maxLen) (wl:lab.size≤maxLen) (_:(Lit.int .i64 n).wf=true) :
  Calls Tryz.prog 3 #[.string raw,v1,.string ctx,.string lab,.int .i64 n] w fun e w'=>e=.returned (.bool true)∧Below w.heap.size w w':=by
 obtain ⟨a,b,c,d,g1⟩:=four_open hval1 h1
 have hs:∀x:ByteArray,x.size≤maxLen→x.data.toList.length≤9223372036854775807:=fun x h=>by
  have:x.data.toList.length=x.size:=by rw[Array.length_toList];rfl
  unfold maxLen at h
  omega
 obtain ⟨hv,hb,h⟩:=gives_run raw.data.toList a b c d ctx.data.toList lab.data.toList n (hs _ wr) (hs _ wc) (hs _ wl) isT trivial
 exact call_all (envFor18 smG_ok _ hv hb) h w (glob21 w) (by
  simp only[VRL_cons,VRL_nil,and_true]
  exact ⟨by simp[VR],g1,by simp[VR],by simp[VR],by simp[VR]⟩)
end Go.Proofs.YtjenieljapmehaaGreatDoor

/-
  Chapter 24: what the statements say of the package variables gives their cells.
-/
import Derived.Test.YtafchcmemeinlaaDoorCmA
import Derived.Test.YtafchcmemeinlaaDoorRows
import Derived.ProofKit
import Derived.LaidMore
import Derived.OpenShut
import Derived.Stop.Joined
set_option linter.unusedSimpArgs false
set_option linter.unusedVariables false
namespace Go.Proofs.YtafchcmemeinlaaDoor
open Go.ChangeShapes Go.WideShapes Go.ChangeAt Go.RowKit
set_option maxRecDepth 1000000

abbrev L24 : List (String × DataW Unit) := [("tannoy/control.has", Rows.laid_tannoy_control_has), ("tannoy/control.wire", Rows.laid_tannoy_control_wire)]
theorem bO7:ownKnob Tryd.prog.godebug=none:=by kernel_rfl
theorem pV:laidOutB Tryd.prog=true:=by kernel_rfl
theorem gHas : Tryd.prog.globalNamed "tannoy/control.has" = some 0 := by kernel_rfl
theorem gWire : Tryd.prog.globalNamed "tannoy/control.wire" = some 1 := by kernel_rfl
theorem bPf:∀t,(Tryd.prog.globals[0]?).map (·.type)=some t→aBz Tryd.prog 8 t=true:=by
 intro t h
 have:((Tryd.prog.globals[0]?).map (·.type)).map (aBz Tryd.prog 8)=some true:=by kernel_rfl
 rw[h] at this
 simpa using this
theorem bO9:∀t,(Tryd.prog.globals[1]?).map (·.type)=some t→aBz Tryd.prog 8 t=true:=by
 intro t h
 have:((Tryd.prog.globals[1]?).map (·.type)).map (aBz Tryd.prog 8)=some true:=by kernel_rfl
 rw[h] at this
 simpa using this

theorem bJo (os:Os) (args:Array Value):laidMetH Tryd.prog L24 ((World.doorLaid Tryd.prog 400 os).forCall (fun _ _=>0) ⟨#[],args,[]⟩).memory:=
 laidMetH_of_parts3 (fuel:=8) (laidMet_of_run' 8 (by kernel_rfl) (by kernel_rfl)) (by kernel_rfl) (by kernel_rfl)

theorem aKu {P:Program} {w:World} {n:String} {g:Nat} {cs:Array Value} (hg:P.globalNamed n=some g) (h:w.var? P n=some cs):∃e fr,w.heap[g]? = some (.cells cs e fr):=by
 simp only[World.var?,hg,Option.bind_some] at h
 split at h
 ·rename_i cs' e fr hh
  cases h
  exact ⟨e,fr,hh⟩
 ·cases h

theorem bKh {W:World} (h:laidMetH Tryd.prog L24 W):bP7 glC W:=by
 rw[MakeChecks.laidMetH_plain _ _ _ (by kernel_rfl)] at h
 obtain ⟨ps,⟨g0,t0,cs0,f0,p0,q0,hg0,ht0,hv0,hd0,⟨g1,t1,cs1,f1,p1,q1,hg1,ht1,hv1,hd1,_,_⟩,_⟩,_,_⟩:=h
 obtain rfl:=Option.some.inj (gHas.symm.trans hg0)
 obtain rfl:=Option.some.inj (gWire.symm.trans hg1)
 have k0:=aDm m00 8 t0 _ _ _ (bPf t0 ht0) hd0
 have k1:=aDm m00 8 t1 _ _ _ (bO9 t1 ht1) hd1
 obtain ⟨e0,fr0,h0⟩:=aKu hg0 hv0
 obtain ⟨e1,fr1,h1⟩:=aKu hg1 hv1
 intro g cs hg
 unfold glC at hg
 split at hg
 ·cases hg
  exact ⟨rfl,_,_,_,h0,k0.1⟩
 ·cases hg
  exact ⟨rfl,_,_,_,h1,k1.1⟩
 ·cases hg
end Go.Proofs.YtafchcmemeinlaaDoor

/-
  Chapter 25: what the statements say of the package variables gives their cells.
-/
import Derived.Test.YtnhechnaemmdiaaGreatDoorKnA
import Derived.Test.YtnhechnaemmdiaaGreatDoorRows
import Derived.ProofKit
import Derived.LaidMore
import Derived.Lay
import Derived.OpenShut
import Derived.Stop.Joined
set_option linter.unusedSimpArgs false
set_option linter.unusedVariables false
namespace Go.Proofs.YtnhechnaemmdiaaGreatDoor
open Go.ChangeShapes Go.WideShapes Go.ChangeAt Go.RowKit
set_option maxRecDepth 1000000

abbrev L25 : List (String × DataW Unit) := [("unicode/utf8.acceptRanges", Rows.laid_unicode_utf8_acceptRanges), ("tannoy/control.has", Rows.laid_tannoy_control_has), ("tannoy/control.wire", Rows.laid_tannoy_control_wire), ("unicode/utf8.first", Rows.laid_unicode_utf8_first)]
theorem bVa:ownKnob Tryz.prog.godebug=none:=by kernel_rfl
theorem aF9:laidOutB Tryz.prog=true:=by kernel_rfl
theorem gHas : Tryz.prog.globalNamed "tannoy/control.has" = some 0 := by kernel_rfl
theorem gWire : Tryz.prog.globalNamed "tannoy/control.wire" = some 1 := by kernel_rfl
theorem bSi:∀t,(Tryz.prog.globals[0]?).map (·.type)=some t->aCc Tryz.prog 8 t=true:=by
 intro t h
 have:((Tryz.prog.globals[0]?).map (·.type)).map (aCc Tryz.prog 8)=some true:=by kernel_rfl
 rw[h]at this
 simpa using this
theorem bS8:∀t,(Tryz.prog.globals[1]?).map (·.type)=some t->aCc Tryz.prog 8 t=true:=by
 intro t h
 have:((Tryz.prog.globals[1]?).map (·.type)).map (aCc Tryz.prog 8)=some true:=by kernel_rfl
 rw[h]at this
 simpa using this
theorem aKp{P:Program}{w:World}{n:String}{g:Nat}{cs:Array Value}(hg:P.globalNamed n=some g)(h:w.var? P n=some cs):∃e fr,w.heap[g]? = some (.cells cs e fr):=by
 simp only[World.var?,hg,cCt]at h
 split at h
 ·rename_i cs' e fr hh
  cases h
  exact⟨e,fr,hh⟩
 ·cases h
theorem bLc{W:World}(h:laidMetH Tryz.prog L25 W):bSy gl0 W:=by
 rw[MakeChecks.laidMetH_plain _ _ _ (by kernel_rfl)]at h
 obtain⟨ps,⟨_,_,_,_,_,_,_,_,_,_,⟨g0,t0,cs0,f0,p0,q0,hg0,ht0,hv0,hd0,⟨g1,t1,cs1,f1,p1,q1,hg1,ht1,hv1,hd1,_,_⟩,_⟩,_⟩,_,_⟩:=h
 obtain rfl:=cBl (gHas.symm.trans hg0)
 obtain rfl:=cBl (gWire.symm.trans hg1)
 have k0:=aB1 m00 8 t0 _ _ _ (bSi t0 ht0) hd0
 have k1:=aB1 m00 8 t1 _ _ _ (bS8 t1 ht1) hd1
 obtain⟨e0,fr0,h0⟩:=aKp hg0 hv0
 obtain⟨e1,fr1,h1⟩:=aKp hg1 hv1
 intro g cs hg
 unfold gl0 at hg
 split at hg
 ·cases hg
  exact⟨rfl,_,_,_,h0,k0.1⟩
 ·cases hg
  exact⟨rfl,_,_,_,h1,k1.1⟩
 ·cases hg
end Go.Proofs.YtnhechnaemmdiaaGreatDoor

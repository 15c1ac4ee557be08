/-
  Chapter 24: what is valid for the reference, the goal.
-/
import Derived.Test.YtafchcmemeinlaaDoorC24XC
set_option linter.unusedSimpArgs false
set_option linter.unusedVariables false
set_option linter.unusedSectionVars false
namespace Go.Proofs.YtafchcmemeinlaaDoor
open Go.RowKit
set_option maxRecDepth 1000000
def bQd:SM:=gH [(45,cIn),(72,aL6),(73,aSe),(19,aDf)]
theorem bAn:∀f g,bQd f=some g→aO Tryd.prog glC f g:=bW _ (by simp only[List.mem_cons,List.not_mem_nil,or_false,forall_eq_or_imp,forall_eq];exact ⟨bJr,aWc,aNp,aHn⟩)
theorem aO2 {rs:List Rc} (h:rs.length=0):dL rs=true:=by
 obtain rfl:=List.eq_nil_of_length_eq_zero h
 rfl
end Go.Proofs.YtafchcmemeinlaaDoor

/-
  Chapter 24: the walk of ControlEncodes.
-/
import Derived.Test.YtafchcmemeinlaaDoorCmD
import Derived.Test.YtafchcmemeinlaaDoorCmE
import Derived.Test.YtafchcmemeinlaaDoorC24C
set_option linter.unusedSimpArgs false
set_option linter.unusedVariables false
namespace Go.Proofs.YtafchcmemeinlaaDoor
open Go.RowKit
set_option maxRecDepth 1000000

theorem controlEncodes_walk (v0 v1 v2 : Value) (w : World) (hL : laidMetH Tryd.prog L24 w) {H : Type} {enc : TypeId × Value → H} {base : Nat} {d0 : DataW H} {p0 : List MemPlace}
  (hval0 : Value.okWide Tryd.prog w .any base 24 v0) (h0 : DataW.Trod enc Tryd.prog w 0 (fun _ => true) true 24 v0 d0 p0) (_ : ∀ x ∈ p0, x.block < w.heap.size) {d1 : DataW H} {p1 : List MemPlace}
  (hval1 : Value.okWide Tryd.prog w .any base 73 v1) (h1 : DataW.Trod enc Tryd.prog w 0 (fun _ => true) true 73 v1 d1 p1) (_ : ∀ x ∈ p1, x.block < w.heap.size) {d2 : DataW H} {p2 : List MemPlace}
  (hval2 : Value.okWide Tryd.prog w .any base 29 v2) (h2 : DataW.Trod enc Tryd.prog w 0 (fun _ => true) true 29 v2 d2 p2) (_ : ∀ x ∈ p2, x.block < w.heap.size) :
  Calls Tryd.prog 9 #[v0, v1, v2] w fun e w' => e = .returned (.bool true) ∧ Below w.heap.size w w' := by
 obtain ⟨b, ps, hv0, hps⟩ := draft_open hval0 h0
 obtain ⟨cs1, hv1, _⟩ := okWide_array und_73 hval1
 obtain ⟨l1, g1, s1⟩ := open_agg (k := 3) hv1 (by kernel_rfl) h1
 rw [shP] at s1
 simp only [und_73] at s1
 obtain ⟨ls, q1, q2, rfl⟩ := s1
 obtain ⟨ms, e1, e2⟩ := open_slice (k := 4) und_29 (by kernel_rfl) hval2 h2
 obtain ⟨rs, f1, f2⟩ := many_of (f := ctC) (fun l h => sh_ctl h) ms fun x hx => (e1 x hx).1
 rw [f1, f2, show Tryd.prog.cellsOf 64 = 13 by kernel_rfl, VRL_cons] at e2
 match ls, q1 with
 | [x, y], _ =>
  obtain ⟨wa, ba, na, rfl, hwa, hba⟩ := sh_bend (k := 0) (q2 x (by simp))
  obtain ⟨wb, bb, nb, rfl, hwb, hbb⟩ := sh_bend (k := 0) (q2 y (by simp))
  obtain ⟨hv', hb', h⟩ := encodes_run b 0 ps wa ba na wb bb nb rs hps hwa hba hwb hbb isT trivial
  exact call_all (envFor24 sm9_ok _ _ _) h w (glob24 hL) (by
   simp only [VRL_cons, VRL_nil, and_true]
   exact ⟨hv0, g1, e2.1⟩)
end Go.Proofs.YtafchcmemeinlaaDoor

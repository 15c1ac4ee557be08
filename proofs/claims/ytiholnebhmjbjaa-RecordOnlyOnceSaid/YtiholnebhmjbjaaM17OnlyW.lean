/-
  Chapter 17: the walk of RecordOnlyOnce.
-/
import Derived.Test.YtiholnebhmjbjaaM17W2
import Derived.Test.YtiholnebhmjbjaaM17O2
set_option linter.unusedSimpArgs false
set_option linter.unusedVariables false
namespace Go.Proofs.Ytiholnebhmjbjaa
open Go.RowKit
set_option maxRecDepth 1000000

theorem recordOnlyOnce_walk (v0 v1 v2 : Value) (w : World) {H : Type} {enc : TypeId × Value → H} {base : Nat} {d0 : DataW H} {p0 : List MemPlace}
    (hval0 : Value.okWide Try.prog w .any base 60 v0) (h0 : DataW.Trod enc Try.prog w 0 (fun _ => true) true 60 v0 d0 p0) (_ : ∀ x ∈ p0, x.block < w.heap.size) {d1 : DataW H} {p1 : List MemPlace}
    (hval1 : Value.okWide Try.prog w .any base 61 v1) (h1 : DataW.Trod enc Try.prog w 0 (fun _ => true) true 61 v1 d1 p1) (_ : ∀ x ∈ p1, x.block < w.heap.size) {d2 : DataW H} {p2 : List MemPlace}
    (hval2 : Value.okWide Try.prog w .any base 41 v2) (h2 : DataW.Trod enc Try.prog w 0 (fun _ => true) true 41 v2 d2 p2) (_ : ∀ x ∈ p2, x.block < w.heap.size) :
    Calls Try.prog 7 #[v0, v1, v2] w fun e w' => e = .returned (.bool true) ∧ Below w.heap.size w w' := by
  obtain ⟨ep, st, kk, sk, sn, g1, a1, a2, a3, a4, a5⟩ := draft_open hval0 h0
  obtain ⟨ts, g2, k2⟩ := strs_open hval1 h1
  obtain ⟨od, g3, k3⟩ := u8s_open hval2 h2
  obtain ⟨hv, hb, h⟩ := once_run ep st kk sk sn ts od a1 a2 isT trivial
  exact call_all (envFor04 smK7_ok _ _ _) h w (glob0 w) (by
    simp only [VRL_cons, VRL_nil, and_true, cellsT_map]
    exact ⟨g1, g2, g3⟩)
end Go.Proofs.Ytiholnebhmjbjaa

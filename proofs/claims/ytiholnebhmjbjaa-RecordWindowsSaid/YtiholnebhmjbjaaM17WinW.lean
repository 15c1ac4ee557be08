/-
  Chapter 17: the walk of RecordWindows.
-/
import Derived.Test.YtiholnebhmjbjaaM17O
set_option linter.unusedSimpArgs false
set_option linter.unusedVariables false
namespace Go.Proofs.Ytiholnebhmjbjaa
open Go.RowKit
set_option maxRecDepth 1000000

theorem recordWindows_walk (st : Int) (v1 v2 : Value) (q near : Int) (w : World) (w0 : (Lit.int .u16 st).wf = true) {H : Type} {enc : TypeId × Value → H} {base : Nat} {d1 d2 : DataW H} {p1 p2 : List MemPlace}
    (hval1 : Value.okWide Try.prog w .any base 41 v1) (h1 : DataW.Trod enc Try.prog w 0 (fun _ => true) true 41 v1 d1 p1) (_ : ∀ x ∈ p1, x.block < w.heap.size)
    (hval2 : Value.okWide Try.prog w .any base 44 v2) (h2 : DataW.Trod enc Try.prog w 0 (fun _ => true) true 44 v2 d2 p2) (_ : ∀ x ∈ p2, x.block < w.heap.size)
    (w3 : (Lit.int .i64 q).wf = true) (w4 : (Lit.int .u8 near).wf = true) :
    Calls Try.prog 4 #[.int .u16 st, v1, v2, .int .i64 q, .int .u8 near] w fun e w' => e = .returned (.bool true) ∧ Below w.heap.size w w' := by
  obtain ⟨s, hs, hl⟩ := u8s_open hval1 h1
  obtain ⟨t, n, ht, htr, hn⟩ := win_open hval2 h2
  obtain ⟨hv, hb, h⟩ := windows_run st s t n q near (wf16 w0) hl htr hn (wf64 w3) (wf8 w4) isT trivial
  exact call_all (envFor04 smR4_ok _ _ _) h w (glob0 w) (by
    simp only [VRL_cons, VRL_nil, and_true]
    exact ⟨by simp [VR], hs, ht, by simp [VR], by simp [VR]⟩)
end Go.Proofs.Ytiholnebhmjbjaa

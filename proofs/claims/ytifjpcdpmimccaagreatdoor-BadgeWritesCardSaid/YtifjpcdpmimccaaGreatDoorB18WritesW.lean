/-
  Chapter 18: the walk of BadgeWrites.
-/
import Derived.Test.YtifjpcdpmimccaaGreatDoorB18O1
import Derived.Test.YtifjpcdpmimccaaGreatDoorBnF
import Derived.Test.YtifjpcdpmimccaaGreatDoorRows
import Derived.ProofKit
import Derived.LaidMore
import Derived.Lay
import Derived.OpenShut
import Derived.Stop.Joined
set_option linter.unusedSimpArgs false
set_option linter.unusedVariables false
namespace Go.Proofs.YtifjpcdpmimccaaGreatDoor
open Go.RowKit
set_option maxRecDepth 1000000

abbrev L18 : List (String × DataW Unit) := [("unicode/utf8.acceptRanges", Rows.laid_unicode_utf8_acceptRanges), ("unicode.CaseRanges", Rows.laid_unicode_CaseRanges), ("unicode/utf8.first", Rows.laid_unicode_utf8_first)]
theorem own18 : ownKnob Tryz.prog.godebug = none := by kernel_rfl
theorem laidOut18 : laidOutB Tryz.prog = true := by kernel_rfl
theorem und_52 : Tryz.prog.underlying 52 = some (.array 2 44) := by kernel_rfl
theorem sh_bend {k : Nat} {l : List AV} (h : shP Tryz.prog (k + 2) 44 l) : ∃ (a n : Int) (s : List UInt8), l = [.int .u8 a, .int .i64 n, .str s] := by
  have h := struct_of (by kernel_rfl) h
  rw [show fldsOf 44 = [5, 3, 9] by kernel_rfl] at h
  obtain ⟨_, _, h3, ⟨_, _, h4, ⟨_, _, h5, rfl, rfl⟩, rfl⟩, rfl⟩ := h
  obtain ⟨a, rfl, ha⟩ := sh_u8 h3
  obtain ⟨n, rfl, _⟩ := sh_i64 h4
  obtain ⟨s, rfl, hs⟩ := sh_str h5
  exact ⟨a, n, s, rfl⟩
theorem okWide_array {P : Program} {w : World} {r : Reach} {base : Nat} {t : TypeId} {v : Value} {n : Nat} {e : TypeId} (ht : P.underlying t = some (.array n e)) (h : Value.okWide P w r base t v) : ∃ cs, v = .agg cs ∧ cs.size = P.cellsOf t := by
  simp only [Value.okWide, ht] at h
  obtain ⟨cs, h1, h2, _⟩ := h
  exact ⟨cs, h1, h2⟩
theorem bends_open {H : Type} {enc : TypeId × Value → H} {w : World} {v : Value} {d : DataW H} {p : List MemPlace} {base : Nat} (hval : Value.okWide Tryz.prog w .any base 52 v) (h : DataW.Trod enc Tryz.prog w 0 (fun _ => true) true 52 v d p) :
    ∃ (a b : Int) (t : List UInt8) (c e : Int) (u : List UInt8), VR (mAll w) (.agg [.int .u8 a, .int .i64 b, .str t, .int .u8 c, .int .i64 e, .str u]) v := by
  obtain ⟨cs, hv, _⟩ := okWide_array und_52 hval
  obtain ⟨l, g1, s1⟩ := open_agg (k := 3) hv (by kernel_rfl) h
  rw [shP] at s1
  simp only [und_52] at s1
  obtain ⟨ls, q1, q2, rfl⟩ := s1
  match ls, q1 with
  | [x, y], _ =>
    obtain ⟨a, b, t, rfl⟩ := sh_bend (k := 0) (q2 x (by simp))
    obtain ⟨c, e, u, rfl⟩ := sh_bend (k := 0) (q2 y (by simp))
    exact ⟨a, b, t, c, e, u, g1⟩
theorem badge_open {H : Type} {enc : TypeId × Value → H} {w : World} {v : Value} {d : DataW H} {p : List MemPlace} {base : Nat} (hval : Value.okWide Tryz.prog w .any base 33 v) (h : DataW.Trod enc Tryz.prog w 0 (fun _ => true) true 33 v d p) :
    ∃ (n k : List UInt8) (f u m : Int), VR (mAll w) (.agg [.str n, .str k, .int .i64 f, .int .i64 u, .int .i64 m]) v := by
  obtain ⟨cs, hv⟩ := okWide_st (by kernel_rfl) hval
  obtain ⟨l, h1, h2⟩ := open_agg (k := 4) hv (by kernel_rfl) h
  have h := struct_of (by kernel_rfl) h2
  rw [show fldsOf 33 = [9, 9, 3, 3, 3] by kernel_rfl] at h
  obtain ⟨_, _, h3, ⟨_, _, h4, ⟨_, _, h5, ⟨_, _, h6, ⟨_, _, h7, rfl, rfl⟩, rfl⟩, rfl⟩, rfl⟩, rfl⟩ := h
  obtain ⟨n, rfl, _⟩ := sh_str h3
  obtain ⟨k, rfl, _⟩ := sh_str h4
  obtain ⟨f, rfl, _⟩ := sh_i64 h5
  obtain ⟨u, rfl, _⟩ := sh_i64 h6
  obtain ⟨m, rfl, _⟩ := sh_i64 h7
  exact ⟨n, k, f, u, m, h1⟩
theorem badgeWrites_walk (v0 v1 v2 : Value) (w : World) (_ : laidMetH Tryz.prog L18 w) {H : Type} {enc : TypeId × Value → H} {base : Nat} {d0 : DataW H} {p0 : List MemPlace} {d1 : DataW H} {p1 : List MemPlace} {d2 : DataW H} {p2 : List MemPlace}
    (hval0 : Value.okWide Tryz.prog w .any base 26 v0) (h0 : DataW.Trod enc Tryz.prog w 0 (fun _ => true) true 26 v0 d0 p0) (_ : ∀ x ∈ p0, x.block < w.heap.size)
    (hval1 : Value.okWide Tryz.prog w .any base 52 v1) (h1 : DataW.Trod enc Tryz.prog w 0 (fun _ => true) true 52 v1 d1 p1) (_ : ∀ x ∈ p1, x.block < w.heap.size)
    (hval2 : Value.okWide Tryz.prog w .any base 33 v2) (h2 : DataW.Trod enc Tryz.prog w 0 (fun _ => true) true 33 v2 d2 p2) (_ : ∀ x ∈ p2, x.block < w.heap.size) :
    Calls Tryz.prog 6 #[v0, v1, v2] w fun e w' => e = .returned (.bool true) ∧ Below w.heap.size w w' := by
  obtain ⟨n, ky, fr, af, nu, g0, hn, hk, hf, haf, hnu⟩ := draft_open hval0 h0
  obtain ⟨a, b, s, c, e, u, g1⟩ := bends_open hval1 h1
  obtain ⟨n2, k2, f2, u2, m2, g2⟩ := badge_open hval2 h2
  obtain ⟨hv, hbb, h⟩ := writes_run n ky fr af nu a b c e s u n2 k2 f2 u2 m2 hn hf haf hnu isT trivial
  exact call_all (envFor18 smWr_ok _ hv hbb) h w (glob0 w) (by
    simp only [VRL_cons, VRL_nil, and_true]
    exact ⟨g0, g1, g2⟩)
end Go.Proofs.YtifjpcdpmimccaaGreatDoor

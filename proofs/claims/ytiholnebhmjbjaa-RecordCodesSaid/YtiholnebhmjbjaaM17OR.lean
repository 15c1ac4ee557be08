/-
  Chapter 17: what the cells of lists of records and of pieces look like.
-/
import Derived.Test.YtiholnebhmjbjaaM17L
import Derived.Test.YtiholnebhmjbjaaM17O
set_option linter.unusedSimpArgs false
set_option linter.unusedVariables false
namespace Go.Proofs.Ytiholnebhmjbjaa
open Go.RowKit
set_option maxRecDepth 1000000

theorem und_22 : Try.prog.underlying 22 = some (.slice 84) := by kernel_rfl
theorem und_23 : Try.prog.underlying 23 = some (.slice 53) := by kernel_rfl
theorem und_27 : Try.prog.underlying 27 = some (.array 2 26) := by kernel_rfl
theorem sh_piece {k : Nat} {l : List AV} (h : shP Try.prog (k + 2) 84 l) : ∃ p : Pc, l = [.int .u8 p.1, .int .u8 p.2.1, .int .u8 p.2.2.1, .int .u16 p.2.2.2.1, .int .u16 p.2.2.2.2] ∧ pcOk p := by
  have h := struct_of (by kernel_rfl) h
  rw [show fldsOf 84 = [5, 5, 5, 24, 24] by kernel_rfl] at h
  obtain ⟨_, _, h1, ⟨_, _, h2, ⟨_, _, h3, ⟨_, _, h4, ⟨_, _, h5, rfl, rfl⟩, rfl⟩, rfl⟩, rfl⟩, rfl⟩ := h
  obtain ⟨a, rfl, ha⟩ := sh_u8 h1
  obtain ⟨b, rfl, hb⟩ := sh_u8 h2
  obtain ⟨c, rfl, hc⟩ := sh_u8 h3
  obtain ⟨d, rfl, hd⟩ := sh_u16 h4
  obtain ⟨e, rfl, he⟩ := sh_u16 h5
  exact ⟨(a, b, c, d, e), rfl, ha, hb, hd, he⟩
theorem pieces_of {k : Nat} : ∀ (ls : List (List AV)), (∀ x ∈ ls, shP Try.prog (k + 2) 84 x) → ∃ ps : List Pc, ls.flatten = cellsPM ps ∧ ls.length = ps.length ∧ ∀ p ∈ ps, pcOk p
  | [], _ => ⟨[], rfl, rfl, fun p h => by cases h⟩
  | x :: ls, h => by
    obtain ⟨p, rfl, hp⟩ := sh_piece (h x (by simp))
    obtain ⟨ps, h1, h2, h3⟩ := pieces_of ls fun y hy => h y (by simp [hy])
    refine ⟨p :: ps, ?_, by simp [h2], fun q hq => ?_⟩
    · rw [List.flatten_cons, h1]
      rfl
    · rcases List.mem_cons.1 hq with rfl | hq
      · exact hp
      · exact h3 q hq
theorem pieces_open {H : Type} {enc : TypeId × Value → H} {w : World} {v : Value} {d : DataW H} {p : List MemPlace} {base : Nat} (hval : Value.okWide Try.prog w .any base 22 v) (h : DataW.Trod enc Try.prog w 0 (fun _ => true) true 22 v d p) :
    ∃ ps : List Pc, VR (mAll w) (.lst 0 (cellsPM ps) ps.length 5) v ∧ ∀ p ∈ ps, pcOk p := by
  obtain ⟨l, h1, h2⟩ := open_sl (k := 4) und_22 (by kernel_rfl) hval h
  rw [shP] at h2
  simp only [und_22, show Try.prog.cellsOf 84 = 5 by kernel_rfl] at h2
  obtain ⟨ls, k1, k2, rfl⟩ := h2
  obtain ⟨ps, q1, q2, q3⟩ := pieces_of (k := 1) ls fun x hx => (k1 x hx).1
  rw [VRL_cons, q1, q2] at h1
  exact ⟨ps, h1.1, q3⟩
theorem sh_rec {k : Nat} {l : List AV} (h : shP Try.prog (k + 2) 53 l) : ∃ r : Rc, l = rcM r := by
  have h := struct_of (by kernel_rfl) h
  rw [show fldsOf 53 = [3, 3, 3, 9] by kernel_rfl] at h
  obtain ⟨_, _, h1, ⟨_, _, h2, ⟨_, _, h3, ⟨_, _, h4, rfl, rfl⟩, rfl⟩, rfl⟩, rfl⟩ := h
  obtain ⟨a, rfl, ha⟩ := sh_i64 h1
  obtain ⟨b, rfl, hb⟩ := sh_i64 h2
  obtain ⟨c, rfl, hc⟩ := sh_i64 h3
  obtain ⟨s, rfl, hs⟩ := sh_str h4
  exact ⟨(a, b, c, s), rfl⟩
theorem recs_of {k : Nat} : ∀ (ls : List (List AV)), (∀ x ∈ ls, shP Try.prog (k + 2) 53 x) → ∃ rs : List Rc, ls.flatten = cellsRM rs ∧ ls.length = rs.length
  | [], _ => ⟨[], rfl, rfl⟩
  | x :: ls, h => by
    obtain ⟨p, rfl⟩ := sh_rec (h x (by simp))
    obtain ⟨ps, h1, h2⟩ := recs_of ls fun y hy => h y (by simp [hy])
    refine ⟨p :: ps, ?_, by simp [h2]⟩
    rw [List.flatten_cons, h1]
    rfl
theorem recs_open {H : Type} {enc : TypeId × Value → H} {w : World} {v : Value} {d : DataW H} {p : List MemPlace} {base : Nat} (hval : Value.okWide Try.prog w .any base 23 v) (h : DataW.Trod enc Try.prog w 0 (fun _ => true) true 23 v d p) :
    ∃ rs : List Rc, VR (mAll w) (.lst 0 (cellsRM rs) rs.length 4) v := by
  obtain ⟨l, h1, h2⟩ := open_sl (k := 4) und_23 (by kernel_rfl) hval h
  rw [shP] at h2
  simp only [und_23, show Try.prog.cellsOf 53 = 4 by kernel_rfl] at h2
  obtain ⟨ls, k1, k2, rfl⟩ := h2
  obtain ⟨rs, q1, q2⟩ := recs_of (k := 1) ls fun x hx => (k1 x hx).1
  rw [VRL_cons, q1, q2] at h1
  exact ⟨rs, h1.1⟩
theorem sh_edit {k : Nat} {l : List AV} (h : shP Try.prog (k + 2) 26 l) : ∃ (a b : Int) (t : List UInt8), l = [.int .u16 a, .int .u16 b, .str t] ∧ (0 ≤ a ∧ a ≤ 65535) ∧ (0 ≤ b ∧ b ≤ 65535) := by
  have h := struct_of (by kernel_rfl) h
  rw [show fldsOf 26 = [24, 24, 9] by kernel_rfl] at h
  obtain ⟨_, _, h1, ⟨_, _, h2, ⟨_, _, h3, rfl, rfl⟩, rfl⟩, rfl⟩ := h
  obtain ⟨a, rfl, ha⟩ := sh_u16 h1
  obtain ⟨b, rfl, hb⟩ := sh_u16 h2
  obtain ⟨s, rfl, hs⟩ := sh_str h3
  exact ⟨a, b, s, rfl, ha, hb⟩
theorem okWide_array {P : Program} {w : World} {r : Reach} {base : Nat} {t : TypeId} {v : Value} {n : Nat} {e : TypeId} (ht : P.underlying t = some (.array n e)) (h : Value.okWide P w r base t v) : ∃ cs, v = .agg cs ∧ cs.size = P.cellsOf t := by
  simp only [Value.okWide, ht] at h
  obtain ⟨cs, h1, h2, _⟩ := h
  exact ⟨cs, h1, h2⟩
theorem edits_open {H : Type} {enc : TypeId × Value → H} {w : World} {v : Value} {d : DataW H} {p : List MemPlace} {base : Nat} (hval : Value.okWide Try.prog w .any base 27 v) (h : DataW.Trod enc Try.prog w 0 (fun _ => true) true 27 v d p) :
    ∃ (a b : Int) (t : List UInt8) (c e : Int) (u : List UInt8), VR (mAll w) (.agg [.int .u16 a, .int .u16 b, .str t, .int .u16 c, .int .u16 e, .str u]) v ∧ (0 ≤ a ∧ a ≤ 65535) ∧ (0 ≤ b ∧ b ≤ 65535) ∧ (0 ≤ c ∧ c ≤ 65535) ∧ (0 ≤ e ∧ e ≤ 65535) := by
  obtain ⟨cs, hv, _⟩ := okWide_array und_27 hval
  obtain ⟨l, g1, s1⟩ := open_agg (k := 3) hv (by kernel_rfl) h
  rw [shP] at s1
  simp only [und_27] at s1
  obtain ⟨ls, q1, q2, rfl⟩ := s1
  match ls, q1 with
  | [x, y], _ =>
    obtain ⟨a, b, t, rfl, ha, hb⟩ := sh_edit (k := 0) (q2 x (by simp))
    obtain ⟨c, e, u, rfl, hc, he⟩ := sh_edit (k := 0) (q2 y (by simp))
    exact ⟨a, b, t, c, e, u, g1, ha, hb, hc, he⟩
end Go.Proofs.Ytiholnebhmjbjaa

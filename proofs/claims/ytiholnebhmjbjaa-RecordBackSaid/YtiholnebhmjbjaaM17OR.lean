/-
  Chapter 17: what the cells of lists of records and of pieces look like.
-/
import Derived.Test.YtiholnebhmjbjaaM17L
import Derived.Test.YtiholnebhmjbjaaM17O
set_option linter.unusedSimpArgs false
set_option linter.unusedVariables false
namespace Go.Proofs.Ytiholnebhmjbjaa
open Go.RowKit
set_option maxRecDepth 1000000

theorem und_22 : Try.prog.underlying 22 = some (.slice 84) := by kernel_rfl
theorem sh_piece {k : Nat} {l : List AV} (h : shP Try.prog (k + 2) 84 l) : ∃ p : Pc, l = [.int .u8 p.1, .int .u8 p.2.1, .int .u8 p.2.2.1, .int .u16 p.2.2.2.1, .int .u16 p.2.2.2.2] ∧ pcOk p := by
  have h := struct_of (by kernel_rfl) h
  rw [show fldsOf 84 = [5, 5, 5, 24, 24] by kernel_rfl] at h
  obtain ⟨_, _, h1, ⟨_, _, h2, ⟨_, _, h3, ⟨_, _, h4, ⟨_, _, h5, rfl, rfl⟩, rfl⟩, rfl⟩, rfl⟩, rfl⟩ := h
  obtain ⟨a, rfl, ha⟩ := sh_u8 h1
  obtain ⟨b, rfl, hb⟩ := sh_u8 h2
  obtain ⟨c, rfl, hc⟩ := sh_u8 h3
  obtain ⟨d, rfl, hd⟩ := sh_u16 h4
  obtain ⟨e, rfl, he⟩ := sh_u16 h5
  exact ⟨(a, b, c, d, e), rfl, ha, hb, hd, he⟩
theorem pieces_of {k : Nat} : ∀ (ls : List (List AV)), (∀ x ∈ ls, shP Try.prog (k + 2) 84 x) → ∃ ps : List Pc, ls.flatten = cellsPM ps ∧ ls.length = ps.length ∧ ∀ p ∈ ps, pcOk p
  | [], _ => ⟨[], rfl, rfl, fun p h => by cases h⟩
  | x :: ls, h => by
    obtain ⟨p, rfl, hp⟩ := sh_piece (h x (by simp))
    obtain ⟨ps, h1, h2, h3⟩ := pieces_of ls fun y hy => h y (by simp [hy])
    refine ⟨p :: ps, ?_, by simp [h2], fun q hq => ?_⟩
    · rw [List.flatten_cons, h1]
      rfl
    · rcases List.mem_cons.1 hq with rfl | hq
      · exact hp
      · exact h3 q hq
theorem pieces_open {H : Type} {enc : TypeId × Value → H} {w : World} {v : Value} {d : DataW H} {p : List MemPlace} {base : Nat} (hval : Value.okWide Try.prog w .any base 22 v) (h : DataW.Trod enc Try.prog w 0 (fun _ => true) true 22 v d p) :
    ∃ ps : List Pc, VR (mAll w) (.lst 0 (cellsPM ps) ps.length 5) v ∧ ∀ p ∈ ps, pcOk p := by
  obtain ⟨l, h1, h2⟩ := open_sl (k := 4) und_22 (by kernel_rfl) hval h
  rw [shP] at h2
  simp only [und_22, show Try.prog.cellsOf 84 = 5 by kernel_rfl] at h2
  obtain ⟨ls, k1, k2, rfl⟩ := h2
  obtain ⟨ps, q1, q2, q3⟩ := pieces_of (k := 1) ls fun x hx => (k1 x hx).1
  rw [VRL_cons, q1, q2] at h1
  exact ⟨ps, h1.1, q3⟩
end Go.Proofs.Ytiholnebhmjbjaa

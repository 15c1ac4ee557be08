/-
  Chapter 23: equal packets; a draft's packet is valid.
-/
import Derived.Test.YtbchmkhliehbfaaDoorM23J
set_option linter.unusedSimpArgs false
set_option linter.unusedVariables false
namespace Go.Proofs.YtbchmkhliehbfaaDoor
open Go.RowKit
set_option maxRecDepth 1000000

theorem eqB_self (s : List UInt8) : eqB s s = true := by
  induction s with
  | nil => rfl
  | cons a s ih => simp [eqB, ih]
theorem eqbI {s : List UInt8} {A B : Prop} (h : B) : bif !(eqB s s) then A else B := by
  rw [eqB_self]
  exact h
theorem pcs_ok : ∀ (l : List Xt) (a : Int) (n : Nat), l.length ≤ n → 0 ≤ a → a + 60 * n ≤ 255 → extsOkM a (pcsM a l) = true
  | [], _, _, _, _, _ => rfl
  | x :: l, a, n, hl, ha, hn => by
    have h1 := Int.emod_nonneg x.1 (b := 60) (by decide)
    have h2 := Int.emod_lt_of_pos x.1 (b := 60) (by decide)
    rw [List.length_cons] at hl
    rw [pcsM, extsOkM, pcs_ok l _ (n - 1) (by omega) (by omega) (by omega), Bool.and_true]
    refine decide_eq_true ⟨by dsimp only; omega, by dsimp only; omega, ?_⟩
    rw [List.length_take]; omega
theorem pcs_data : ∀ (l : List Xt) (a : Int), ∀ x ∈ pcsM a l, x.2.length ≤ 20
  | [], _, x, h => by simp [pcsM] at h
  | y :: l, a, x, h => by
    rw [pcsM] at h
    rcases List.mem_cons.1 h with rfl | h
    · rw [List.length_take]; omega
    · exact pcs_data l _ x h
theorem extB_len2 (sh : Bool) : ∀ (l : List Xt), (∀ x ∈ l, x.2.length ≤ 20) → (extBM sh l).length ≤ 22 * l.length
  | [], _ => by simp [extBM]
  | x :: l, h => by
    have h1 := extB_len2 sh l fun y hy => h y (by simp [hy])
    have h2 := h x (by simp)
    have h3 := piece_len sh x
    have e : extBM sh (x :: l) = pieceM sh x ++ x.2 ++ extBM sh l := rfl
    rw [e, List.length_append, List.length_append, List.length_cons]
    omega
/-- a drafted packet is valid, and not too long -/
theorem draft_right {mk : Bool} {ty seq ti ss : Int} {ks : List Int} {ps : List Xt} {pad : Int} {pl : List UInt8} (hk32 : ∀ x ∈ ks, 0 ≤ x ∧ x ≤ 4294967295) (hty : 0 ≤ ty ∧ ty ≤ 255) (hseq : 0 ≤ seq ∧ seq ≤ 65535) (hti : 0 ≤ ti ∧ ti ≤ 4294967295) (hss : 0 ≤ ss ∧ ss ≤ 4294967295) (hpad : 0 ≤ pad ∧ pad ≤ 255) :
    rightM (ty % 128) seq ti ss (ks.take 3) (pcsM 0 (ps.take 4)) pad = true ∧ totalM mk (ty % 128) seq ti ss (ks.take 3) (pcsM 0 (ps.take 4)) pad (pl.take 60) ≤ 1200 := by
  have hc3 : (ks.take 3).length ≤ 3 := by rw [List.length_take]; omega
  have hp4 : (pcsM 0 (ps.take 4)).length ≤ 4 := by rw [pcs_len, List.length_take]; omega
  have hok := pcs_ok (ps.take 4) 0 4 (by rw [List.length_take]; omega) (by omega) (by omega)
  have hdt := pcs_data (ps.take 4) 0
  have hbl := extB_len2 (shortM (pcsM 0 (ps.take 4))) _ hdt
  have hpl : (pl.take 60).length ≤ 60 := by rw [List.length_take]; omega
  refine ⟨?_, ?_⟩
  · rw [rightM, hok, Bool.and_true]
    refine decide_eq_true ⟨by omega, by omega, by omega, by omega, by omega, by omega, by omega, by omega, fun x hx => ?_, by omega, by omega, by omega, by omega⟩
    have := hk32 x (List.mem_of_mem_take hx)
    omega
  · have hh : (headM mk (ty % 128) seq ti ss (ks.take 3) (pcsM 0 (ps.take 4)) pad).length ≤ 200 := by
      unfold headM
      rw [List.length_append, head_len]
      split
      · simp; omega
      · rw [List.length_append, put_len, extPM, List.length_append, zerosM, List.length_replicate]
        simp
        omega
    unfold totalM
    omega
end Go.Proofs.YtbchmkhliehbfaaDoor

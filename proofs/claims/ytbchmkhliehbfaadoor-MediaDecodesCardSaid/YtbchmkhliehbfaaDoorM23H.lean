/-
  Chapter 23: made, Header, Encode, Demux.
-/
import Derived.Test.YtbchmkhliehbfaaDoorM23G
set_option linter.unusedSimpArgs false
set_option linter.unusedVariables false
namespace Go.Proofs.YtbchmkhliehbfaaDoor
open Go.RowKit
set_option maxRecDepth 1000000

theorem right_of {ty seq ti ss : Int} {cs : List Int} {ex : List Xt} {pad : Int} (h : rightM ty seq ti ss cs ex pad = true) : (0 ≤ ty ∧ ty ≤ 127) ∧ cs.length ≤ 15 ∧ ex.length ≤ 16 ∧ extsOkM 0 ex = true ∧ (0 ≤ pad ∧ pad ≤ 255) := by
  rw [rightM, Bool.and_eq_true] at h
  have := of_decide_eq_true h.1
  obtain ⟨a1, a2, a3, a4, a5, a6, a7, a8, a9, a10, a11, a12, a13⟩ := this
  exact ⟨⟨a1, a2⟩, a12, a13, h.2, a10, a11⟩
def medK (c5 : List AV) (n5 : Nat) (c6 : List AV) (n6 : Nat) (cs : List Int) (ex : List Xt) : Prop := c5 = cellsI cs ∧ n5 = cs.length ∧ c6 = cellsXM ex ∧ n6 = ex.length ∧ cs.length ≤ 1000000 ∧ ex.length ≤ 1000000 ∧ dataM ex
theorem head_bound (mk : Bool) (ty seq ti ss : Int) (cs : List Int) (ex : List Xt) (pad : Int) (h2 : cs.length ≤ 15) (h3 : ex.length ≤ 16) (h4 : extsOkM 0 ex = true) : (headM mk ty seq ti ss cs ex pad).length ≤ 10000 := by
  have h5 := exts_all ex 0 (Int.le_refl _) h4
  have h6 := extB_len (shortM ex) ex fun x hx => (h5 x hx).2.2
  unfold headM
  rw [List.length_append, head_len]
  split
  · simp; omega
  · rw [List.length_append, put_len, extPM, List.length_append, zerosM, List.length_replicate]
    simp
    omega
def totalM (mk : Bool) (ty seq ti ss : Int) (cs : List Int) (ex : List Xt) (pad : Int) (pl : List UInt8) : Int := (headM mk ty seq ti ss cs ex pad).length + pl.length + pad
end Go.Proofs.YtbchmkhliehbfaaDoor

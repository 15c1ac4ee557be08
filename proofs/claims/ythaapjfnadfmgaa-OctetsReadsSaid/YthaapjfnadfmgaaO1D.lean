/-
  Chapter 01 (OctetsReads): one reader and one number.
-/
import Derived.Test.YthaapjfnadfmgaaO1C
set_option linter.unusedSimpArgs false
set_option linter.unusedVariables false
set_option linter.unusedSectionVars false
namespace Go.Proofs.Ythaapjfnadfmgaa
open Go.RowKit
set_option maxRecDepth 1000000

theorem nEq {a b : Int} {A B : Prop} (h : a = b) (k : B) : bif a != b then A else B := by subst h; simpa using k
theorem nStr {a b : List UInt8} {A B : Prop} (h : a = b) (k : B) : bif !eqB a b then A else B := by subst h; rw [eqB_refl]; exact k
theorem nRd {a b : List UInt8} {c d : Int} {A B : Prop} (h : a = b) (h' : c = d) (k : B) : bif !(eqB a b && (c == d && true)) then A else B := by subst h; subst h'; rw [eqB_refl]; simpa using k
theorem uT {b : Bool} {A B : Prop} (h : b = true) (k : A) : bif b then A else B := by rw [h]; exact k
theorem uF {b : Bool} {A B : Prop} (h : b = false) (k : B) : bif b then A else B := by rw [h]; exact k
theorem tCases {s : List UInt8} {a : Int} (n : Int) (h0 : 0 ≤ a) (h1 : a ≤ (s.length : Int)) :
    (n < 0 ∧ takeM s a n = ([], [], 0, 2)) ∨ ((0 ≤ n ∧ (s.length : Int) - a < n) ∧ takeM s a n = ([], [], 0, 7)) ∨ ((0 ≤ n ∧ n ≤ (s.length : Int) - a) ∧ takeM s a n = ((s.drop a.toNat).take n.toNat, s, a + n, 0)) := by
  unfold takeM
  by_cases h : n < 0
  · exact .inl ⟨h, by rw [if_pos (by omega)]⟩
  · by_cases h2 : (s.length : Int) - a < n
    · exact .inr (.inl ⟨by omega, by rw [if_neg (by omega), if_pos h2]⟩)
    · exact .inr (.inr ⟨by omega, by rw [if_neg (by omega), if_neg h2]⟩)
theorem uCases {s : List UInt8} {a : Int} (n : Int) (h0 : 0 ≤ a) (h1 : a ≤ (s.length : Int)) :
    ((n < 1 ∨ 7 < n) ∧ uintM s a n = (0, [], 0, 2)) ∨ ((1 ≤ n ∧ n ≤ 7 ∧ (s.length : Int) - a < n) ∧ uintM s a n = (0, [], 0, 7)) ∨ ((1 ≤ n ∧ n ≤ 7 ∧ n ≤ (s.length : Int) - a) ∧ uintM s a n = (beM ((s.drop a.toNat).take n.toNat), s, a + n, 0)) := by
  unfold uintM
  by_cases h : n < 1 ∨ 7 < n
  · exact .inl ⟨h, by rw [if_pos (by omega)]⟩
  · by_cases h2 : (s.length : Int) - a < n
    · exact .inr (.inl ⟨by omega, by rw [if_neg (by omega), if_pos h2]⟩)
    · exact .inr (.inr ⟨by omega, by rw [if_neg (by omega), if_neg h2]⟩)
theorem kCases {s : List UInt8} {a : Int} (n : Int) (h0 : 0 ≤ a) (h1 : a ≤ (s.length : Int)) :
    ((¬ (n = 1 ∨ n = 2 ∨ n = 4 ∨ n = 8) ∧ unitM n = false) ∧ skipM s a n = ([], 0, 2)) ∨ (((n = 1 ∨ n = 2 ∨ n = 4 ∨ n = 8) ∧ unitM n = true ∧ (s.length : Int) < upM a n) ∧ skipM s a n = ([], 0, 7)) ∨ (((n = 1 ∨ n = 2 ∨ n = 4 ∨ n = 8) ∧ unitM n = true ∧ upM a n ≤ (s.length : Int)) ∧ skipM s a n = (s, upM a n, 0)) := by
  unfold skipM
  by_cases h : n = 1 ∨ n = 2 ∨ n = 4 ∨ n = 8
  · have hu : unitM n = true := decide_eq_true h
    by_cases h2 : (s.length : Int) < upM a n
    · exact .inr (.inl ⟨⟨h, hu, h2⟩, by rw [if_neg (by rw [hu]; simp; omega), if_pos h2]⟩)
    · exact .inr (.inr ⟨⟨h, hu, by omega⟩, by rw [if_neg (by rw [hu]; simp; omega), if_neg h2]⟩)
  · have hu : unitM n = false := decide_eq_false h
    exact .inl ⟨⟨h, hu⟩, by rw [if_pos (.inr (.inr hu))]⟩
theorem bodyT_ok {s : List UInt8} {a n l : Int} {Q : Out → List Blk → Gh → Prop} {R : Prop} (h0 : 0 ≤ a) (h1 : a ≤ (s.length : Int)) (hs : s.length ≤ 300) (hl : l = (s.length : Int) - a) (hR : R) : bodyT s a n Q l R := by
  subst hl
  unfold bodyT
  intro x hx
  clear hx x
  have hX : 0 ≤ n → (a + n).toNat - a.toNat = n.toNat := fun h => by omega
  refine ⟨⟨by omega⟩, ?_⟩
  rcases tCases n h0 h1 with ⟨hT, e⟩ | ⟨hT, e⟩ | ⟨hT, e⟩ <;> rcases uCases n h0 h1 with ⟨hU, e2⟩ | ⟨hU, e2⟩ | ⟨hU, e2⟩ <;> first | (exfalso; omega) | skip
  all_goals rcases kCases n h0 h1 with ⟨hK, e3⟩ | ⟨hK, e3⟩ | ⟨hK, e3⟩ <;> first | (exfalso; omega) | skip
  all_goals
    intro v t b f he
    have he := he.1
    rw [e] at he
    cases he
    refine ⟨⟨by omega⟩, ?_⟩
    intro v t b f he
    have he := he.1
    rw [e2] at he
    cases he
    refine ⟨⟨by omega⟩, ?_⟩
    intro t b f he
    have he := he.1
    rw [e3] at he
    cases he
    clear e e2 e3
  all_goals
    repeat' first
      | exact hR
      | (refine splitD (fun h => ?_) (fun h => ?_) <;> first | (exfalso; omega) | skip)
      | refine nEq rfl ?_
      | refine nStr (by first | rfl | rw [hX (by omega)]) ?_
      | refine nRd rfl rfl ?_
      | (refine uT hK.2.1 ?_)
      | (refine uF hK.2 ?_)
      | refine nEq (by rw [hX (by omega)]) ?_
      | refine wrapI (by omega) (by omega) ?_
      | refine ckI (by rw [eqAVL_s]; rfl) ?_
      | refine ckI (by simp; omega) ?_
      | refine ⟨_, rfl, ?_⟩
      | refine ⟨⟨by omega⟩, ?_⟩
      | refine ⟨⟨by rw [List.length_take]; omega⟩, ?_⟩
      | rintro _ ⟨rfl⟩
end Go.Proofs.Ythaapjfnadfmgaa

/-
  Chapter 24: Draft: pieces are valid: the plain part.
-/
import Derived.Test.YtafchcmemeinlaaDoorC24XU
set_option linter.unusedSimpArgs false
set_option linter.unusedVariables false
namespace Go.Proofs.YtafchcmemeinlaaDoor
open Go.RowKit
set_option maxRecDepth 1000000

theorem words_len (S : List Int) : ∀ m k, (wordsM S k m).length = 2 * m
 | 0, k => rfl
 | m + 1, k => by rw [wordsM, List.length_append, be_len, words_len S m (k + 1)]; omega
theorem one_le272 {c : Ctl} (h : validM c = true) : (oneM c).length ≤ 272 := by
 have h2 := pad_len (bodyM c)
 have h3 : (bodyM c).length ≤ 268 := by
  clear h2
  rcases valid_cases h with ⟨f, s1, s2, s3, s4, s5, rs, rfl, hrs⟩ | ⟨f, rs, rfl, hrs⟩ | ⟨f, rfl⟩ | ⟨f, a, lo, rfl, hlo⟩ | ⟨f, a, rfl⟩ | ⟨f, a, ba, ro, ti, rfl, hti⟩
  all_goals simp only [bodyM, List.length_append, put_len, List.length_cons, List.length_nil, rcsB_len, prsB_len]
  ·simp [pairsM, put_len]; omega
  ·simp [pairsM]; omega
  ·simp [pairsM]
  ·have := pairsM_len lo
   have := (nacks_parts hlo).2.1
   simp [put_len]; omega
  ·simp [pairsM, put_len]
  ·obtain ⟨ref, l, h1, h2, h3⟩ := stepsR_some hti
   have h4 := steps_len h1
   have h5 := cnt_len ti
   have h7 := tail_len l
   have h8 := bits_words (sgsM ti l) ((ti.length + 6) / 7) 0
   rw [Nat.zero_add, Nat.mul_comm 7] at h8
   have h9 := words_len (sgsM ti l) ((ti.length + 6) / 7) 0
   have : (arrM ti ro).length ≤ 200 := by
    simp only [arrM, h1, List.length_append, hdr_len, h8, h9]
    simp [bitsM]
    omega
   simp [pairsM, put_len]; omega
 rw [oneM, oneB_len]; omega
theorem encC_le272 : ∀ l : List Ctl, (∀ c ∈ l, validM c = true) → (encCM l).length ≤ 272 * l.length
 | [], _ => by simp [encCM]
 | c :: l, h => by
  have h1 := one_le272 (h c (by simp))
  have h2 := encC_le272 l (fun d hd => h d (by simp [hd]))
  have e : encCM (c :: l) = oneM c ++ encCM l := rfl
  rw [e, List.length_append, List.length_cons]; omega
def fEnd (b : Int) : Int → List Int → Int
 | far, [] => far
 | _, x :: l => fEnd b ((x - b) % 65536) l
theorem nack_snoc (b n : Int) : ∀ (l : List Int) (far : Int), nackGoM b far l = true → fEnd b far l < (n - b) % 65536 → (n - b) % 65536 ≤ 32767 → nackGoM b far (l ++ [n]) = true ∧ fEnd b far (l ++ [n]) = (n - b) % 65536
 | [], far, _, h2, h3 => by
  rw [fEnd] at h2
  rw [List.nil_append, nackGoM, if_neg (by omega), nackGoM, fEnd, fEnd]
  exact ⟨rfl, rfl⟩
 | x :: l, far, h1, h2, h3 => by
  rw [nackGoM] at h1
  rw [fEnd] at h2
  split at h1
  ·cases h1
  ·rename_i hx
   rw [List.cons_append, nackGoM, if_neg hx, fEnd]
   exact nack_snoc b n l _ h1 h2 h3
def nkP (f at' : Int) (l : List Int) : Prop := (1 ≤ l.length ∧ l.length ≤ 64) ∧ (∀ x ∈ l, 0 ≤ x ∧ x ≤ 65535) ∧ l.getD 0 0 = f ∧ nackGoM f (-1) l = true ∧ fEnd f (-1) l = at' ∧ 0 ≤ at' ∧ at' ≤ 20 * ((l.length : Int) - 1)
theorem nkP_one {f : Int} (h : 0 ≤ f ∧ f ≤ 65535) : nkP f 0 [f] := by
 refine ⟨by simp, by simpa using h, rfl, ?_, ?_, by omega, by simp⟩
 ·rw [nackGoM, if_neg (by omega), nackGoM]
 ·rw [fEnd, fEnd]; omega
theorem nkP_step {f at' d : Int} {l : List Int} (h : nkP f at' l) (hl : l.length < 64) (hd : 1 ≤ d ∧ d ≤ 20) : nkP f (at' + d) (l ++ [(f + (at' + d)) % 65536]) := by
 obtain ⟨⟨h1, h2⟩, h3, h4, h5, h6, h7, h8⟩ := h
 have e : ((f + (at' + d)) % 65536 - f) % 65536 = at' + d := by omega
 have := nack_snoc f ((f + (at' + d)) % 65536) l (-1) h5 (by rw [e, h6]; omega) (by rw [e]; omega)
 rw [e] at this
 refine ⟨by simp; omega, ?_, ?_, this.1, this.2, by omega, by simp; omega⟩
 ·intro x hx
  rw [List.mem_append] at hx
  rcases hx with hx | hx
  ·exact h3 x hx
  ·simp only [List.mem_cons, List.not_mem_nil, or_false] at hx
   omega
 ·cases l with
  | nil => simp at h1
  | cons x l => simpa using h4
theorem nkP_ok {f at' : Int} {l : List Int} (h : nkP f at' l) : nacksM l = true := by
 obtain ⟨⟨h1, h2⟩, h3, h4, h5, h6, h7, h8⟩ := h
 have h9 : l.any (badM 16) = false := by
  rw [List.any_eq_false]
  intro x hx
  have := h3 x hx
  rw [badM16]; omega
 simp only [nacksM, h4, h5, h9, Bool.not_false, Bool.and_true, Bool.and_eq_true, decide_eq_true_eq]
 omega
def tmP (at' : Int) (l : List Int) : Prop := (1 ≤ l.length ∧ l.length ≤ 64) ∧ (0 ≤ at' ∧ at' < 2147483648 + 500 * (l.length : Int)) ∧ ∃ R F L A, (F = false → A = at') ∧ ∀ ys, stepsM (l ++ ys) = stepsGoM R A F ys L
theorem tmP_none {a : Int} (h : 0 ≤ a ∧ a < 2147483648) : tmP a [-1] :=
 ⟨by simp, by simp; omega, 0, true, [], 0, by simp, fun ys => by rw [stepsM, List.cons_append, stepsGoM, if_pos rfl, List.nil_append]⟩
theorem tmP_one {a : Int} (h : 0 ≤ a ∧ a < 2147483648) : tmP a [a] :=
 ⟨by simp, by simp; omega, a / 256, false, [a % 256], a, by simp, fun ys => by rw [stepsM, List.cons_append, stepsGoM, if_neg (by omega), if_neg (by omega), if_pos rfl, List.nil_append, List.nil_append]⟩
theorem tmP_miss {a : Int} {l : List Int} (h : tmP a l) (hl : l.length < 64) : tmP a (l ++ [-1]) := by
 obtain ⟨h1, h2, R, F, L, A, h3, h4⟩ := h
 refine ⟨by simp; omega, by simp; omega, R, F, L, A, h3, fun ys => ?_⟩
 rw [List.append_assoc, h4, List.cons_append, stepsGoM, if_pos rfl, List.nil_append]
theorem tmP_got {a b : Int} {l : List Int} (h : tmP a l) (hl : l.length < 64) (hb : 0 ≤ b ∧ -100 ≤ b - a ∧ b - a < 500) : tmP b (l ++ [b]) := by
 obtain ⟨h1, h2, R, F, L, A, h3, h4⟩ := h
 refine ⟨by simp; omega, by simp; omega, ?_⟩
 cases F with
 | false =>
  have := h3 rfl
  subst this
  exact ⟨R, false, L ++ [b - A], b, fun _ => rfl, fun ys => by rw [List.append_assoc, h4, List.cons_append, stepsGoM, if_neg (by omega), if_neg (by omega), if_neg (by decide), if_neg (by omega), List.nil_append]⟩
 | true => exact ⟨b / 256, false, L ++ [b % 256], b, fun _ => rfl, fun ys => by rw [List.append_assoc, h4, List.cons_append, stepsGoM, if_neg (by omega), if_neg (by omega), if_pos rfl, List.nil_append]⟩
theorem tmP_ok {a : Int} {l : List Int} (h : tmP a l) : (stepsRM l).2.2 = true := by
 obtain ⟨h1, h2, R, F, L, A, h3, h4⟩ := h
 have := h4 []
 rw [List.append_nil, stepsGoM] at this
 simp only [stepsRM, this, decide_eq_true_eq]
 exact h1
end Go.Proofs.YtafchcmemeinlaaDoor

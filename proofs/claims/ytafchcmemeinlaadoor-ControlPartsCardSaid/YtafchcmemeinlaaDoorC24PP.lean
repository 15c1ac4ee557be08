/-
  Chapter 24: what Decode says of a cut encoding: plain lemmas.
-/
import Derived.Test.YtafchcmemeinlaaDoorC24XV
set_option linter.unusedSimpArgs false
set_option linter.unusedVariables false
set_option linter.unusedSectionVars false
namespace Go.Proofs.YtafchcmemeinlaaDoor
open Go.RowKit
set_option maxRecDepth 1000000

theorem enc_cons (c : Ctl) (l : List Ctl) : encCM (c :: l) = oneM c ++ encCM l := rfl
theorem pk_cut {s : List UInt8} {n : Nat} (h : n < pkLen s) (hn : n ≤ s.length) : n < pkLen (s.take n) := by
 unfold pkLen at h ⊢
 have hl : (s.take n).length = n := by rw [List.length_take]; omega
 rw [hl]
 by_cases h4 : 4 ≤ n
 ·rw [if_pos h4]
  rw [if_pos (by omega)] at h
  have e2 : (s.take n).getD 2 0 = s.getD 2 0 := by
   rw [List.getD_eq_getElem?_getD, List.getD_eq_getElem?_getD, List.getElem?_take_of_lt (by omega)]
  have e3 : (s.take n).getD 3 0 = s.getD 3 0 := by
   rw [List.getD_eq_getElem?_getD, List.getD_eq_getElem?_getD, List.getElem?_take_of_lt (by omega)]
  rw [e2, e3]; exact h
 ·rw [if_neg h4]; omega
theorem take_ne {s : List UInt8} {n : Nat} (h : 0 < n) (hn : n ≤ s.length) : s.take n ≠ [] := fun hh => by
 have := congrArg List.length hh
 rw [List.length_take, List.length_nil] at this
 omega
theorem go_cut : ∀ (l : List Ctl) (fuel : Nat) (acc : List Ctl) (n : Nat), (∀ c ∈ l, validM c = true) → n ≤ (encCM l).length → n ≤ fuel →
  (∃ j, j ≤ l.length ∧ n = (encCM (l.take j)).length ∧ decGoM fuel ((encCM l).take n) acc true = some (acc ++ l.take j, true)) ∨ ((∀ j, j ≤ l.length → n ≠ (encCM (l.take j)).length) ∧ decGoM fuel ((encCM l).take n) acc true = none)
 | [], fuel, acc, n, _, hn, hf => by
  have hn0 : n = 0 := by
   have : (encCM []).length = 0 := rfl
   omega
  subst hn0
  refine .inl ⟨0, Nat.le_refl _, rfl, ?_⟩
  rw [List.take_zero, List.take_zero, List.append_nil]
  cases fuel with
  | zero => rfl
  | succ n => rw [decGoM]; exact if_pos rfl
 | c :: l, fuel, acc, n, h, hn, hf => by
  have hc := h c (by simp)
  have h3 := (one_len hc).1
  by_cases h0 : n = 0
  ·subst h0
   refine .inl ⟨0, Nat.zero_le _, rfl, ?_⟩
   rw [List.take_zero, List.take_zero, List.append_nil]
   cases fuel with
   | zero => rfl
   | succ n => rw [decGoM]; exact if_pos rfl
  ·obtain ⟨fuel, rfl⟩ : ∃ g, fuel = g + 1 := ⟨fuel - 1, by omega⟩
   have hne := take_ne (s := encCM (c :: l)) (by omega : 0 < n) hn
   have hlt : ((encCM (c :: l)).take n).length = n := by rw [List.length_take]; omega
   have hpk := (one_read hc (encCM l)).1
   by_cases hs : n < (oneM c).length
   ·refine .inr ⟨fun j hj hh => ?_, ?_⟩
    ·cases j with
     | zero => exact h0 hh
     | succ j => rw [List.take_succ_cons, enc_cons, List.length_append] at hh; omega
    ·have := pk_cut (s := encCM (c :: l)) (n := n) (by rw [enc_cons, hpk]; exact hs) hn
     rw [decGoM, if_neg hne, if_pos (by rw [hlt]; exact this)]
   ·have e : (encCM (c :: l)).take n = oneM c ++ (encCM l).take (n - (oneM c).length) := by
     rw [enc_cons, List.take_append, List.take_of_length_le (by omega)]
    obtain ⟨h1, h2⟩ := one_read hc ((encCM l).take (n - (oneM c).length))
    rw [enc_cons, List.length_append] at hn
    have hd : decGoM (fuel + 1) ((encCM (c :: l)).take n) acc true = decGoM fuel ((encCM l).take (n - (oneM c).length)) (acc ++ [c]) true := by
     rw [decGoM, if_neg hne, e, h1, if_neg (by rw [List.length_append]; omega), h2, List.drop_left' rfl, Bool.and_self]
    rw [hd]
    rcases go_cut l fuel (acc ++ [c]) (n - (oneM c).length) (fun d hd => h d (by simp [hd])) (by omega) (by omega) with ⟨j, g1, g2, g3⟩ | ⟨g1, g2⟩
    ·refine .inl ⟨j + 1, by rw [List.length_cons]; omega, ?_, ?_⟩
     ·rw [List.take_succ_cons, enc_cons, List.length_append]; omega
     ·rw [g3, List.take_succ_cons, List.append_assoc]; rfl
    ·refine .inr ⟨fun j hj hh => ?_, g2⟩
     cases j with
     | zero => exact h0 hh
     | succ j =>
      rw [List.take_succ_cons, enc_cons, List.length_append] at hh
      rw [List.length_cons] at hj
      exact g1 j (by omega) (by omega)
theorem head_take {l : List Ctl} {j : Nat} (h : checkM l = true) (hj : 1 ≤ j ∧ j ≤ l.length) : checkM (l.take j) = true := by
 have hc := (check_iff l).1 h
 refine (check_iff _).2 ⟨by rw [List.length_take]; omega, ?_, fun c hm => hc.2.2 c (List.mem_of_mem_take hm)⟩
 cases l with
 | nil => simp at hj; omega
 | cons c l =>
  obtain ⟨j, rfl⟩ : ∃ k, j = k + 1 := ⟨j - 1, by omega⟩
  exact hc.2.1
def endsM (l : List Ctl) (k : Nat) : List Int := (List.range k).map fun i => (((encCM (l.take (i + 1))).length : Nat) : Int)
theorem dec_cut {l : List Ctl} {n : Nat} (h : checkM l = true) (hl : (encCM l).length ≤ 1200) (hn : n < (encCM l).length) :
  ∃ r e, decRM ((encCM l).take n) = (r, e) ∧ (e = 0 ∨ e = 7) ∧ (e = 0 ↔ (n : Int) ∈ endsM l l.length) := by
 have hc := (check_iff l).1 h
 have ht : ((encCM l).take n).length = n := by rw [List.length_take]; omega
 by_cases h0 : n = 0
 ·subst h0
  refine ⟨[], 7, by rw [decRM, if_neg (by rw [ht]; omega), List.take_zero, if_pos rfl], .inr rfl, ⟨fun hh => by omega, fun hh => ?_⟩⟩
  obtain ⟨i, hi, he⟩ := List.mem_map.1 hh
  exfalso
  have hi := List.mem_range.1 hi
  cases l with
  | nil => simp at hi
  | cons c l =>
   have := (one_len (hc.2.2 c (by simp))).1
   rw [List.take_succ_cons, enc_cons, List.length_append] at he
   omega
 ·have hne := take_ne (s := encCM l) (by omega : 0 < n) (by omega)
  have e1 : decRM ((encCM l).take n) = match decGoM n ((encCM l).take n) [] true with
   | none => ([], 7)
   | some p => if p.2 = true ∧ checkM p.1 = true ∧ encCM p.1 = (encCM l).take n then (p.1, 0) else ([], 5) := by
   rw [decRM, if_neg (by rw [ht]; omega), if_neg hne, ht]; rfl
  rcases go_cut l n [] n hc.2.2 (by omega) (Nat.le_refl _) with ⟨j, g1, g2, g3⟩ | ⟨g1, g2⟩
  ·have hj : 1 ≤ j := by
    rcases Nat.eq_zero_or_pos j with rfl | h
    ·exact absurd g2 h0
    ·exact h
   have hcj := head_take h ⟨hj, g1⟩
   have hw : encCM (l.take j) = (encCM l).take n := by
    have : encCM l = encCM (l.take j) ++ encCM (l.drop j) := by rw [← encC_app, List.take_append_drop]
    rw [this, g2, List.take_left' rfl]
   refine ⟨l.take j, 0, ?_, .inl rfl, ⟨fun _ => List.mem_map.2 ⟨j - 1, List.mem_range.2 (by omega), ?_⟩, fun _ => rfl⟩⟩
   ·rw [e1, g3]
    exact if_pos ⟨rfl, hcj, hw⟩
   ·rw [show j - 1 + 1 = j by omega, g2]
  ·refine ⟨[], 7, by rw [e1, g2], .inr rfl, ⟨fun hh => by omega, fun hh => ?_⟩⟩
   exfalso
   obtain ⟨i, hi, he⟩ := List.mem_map.1 hh
   have hi := List.mem_range.1 hi
   exact g1 (i + 1) (by omega) (by omega)
end Go.Proofs.YtafchcmemeinlaaDoor

/-
  Chapter 24: numbers that fit; the numbers of a Nack.
-/
import Derived.Test.YtafchcmemeinlaaDoorC24A
set_option linter.unusedSimpArgs false
set_option linter.unusedVariables false
namespace Go.Proofs.YtafchcmemeinlaaDoor
open Go.RowKit
set_option maxRecDepth 1000000

abbrev Con := List AV → List Blk → (Out → List Blk → Prop) → Prop
def lookS : List (Nat × Con) → SM
 | [], _ => none
 | (k, c) :: l, f => bif Nat.beq f k then some c else lookS l f
theorem lookS_ok : ∀ (l : List (Nat × Con)), (∀ p, p ∈ l → ValidF Tryd.prog glC p.1 p.2) → ∀ f g, lookS l f = some g → ValidF Tryd.prog glC f g
 | [], _, f, g, h => by simp [lookS] at h
 | (k, c) :: l, hl, f, g, h => by
  simp only [lookS] at h
  cases hk : Nat.beq f k
  ·rw [hk] at h
   exact lookS_ok l (fun p hp => hl p (by simp [hp])) f g h
  ·rw [hk] at h
   simp only [cond_true, Option.some.injEq] at h
   subst h
   obtain rfl := Nat.eq_of_beq_eq_true hk
   exact hl (f, c) (by simp)

theorem cellsI_get {xs : List Int} {i j : Nat} (hi : i < xs.length) {K : Int → Prop} (hk : K xs[i]) (hj : j = i) : ∃ n : Int, (cellsI xs).getD j AV.undef = AV.int .i64 n ∧ K n := by
 subst hj
 exact ⟨xs[j], by simp [cellsI, hi], hk⟩

def badM (bits n : Int) : Bool := decide (n < 0) || (n.fdiv (2 ^ min bits.toNat 64) != 0)
def inv_65 (t : Nat) (bits : Int) (xs : List Int) : LInv where
 α := Nat
 pre i := Lf (i ≤ xs.length ∧ (xs.take i).any (badM bits) = false)
 st i := ⟨mkT [(0, .lst t (cellsI xs) xs.length 1), (1, .fn (.func 76) [] [.ptr 0 1 0]), (7, .int .i64 xs.length), (8, .int .i64 i)], [⟨.exact, true, [.int .i64 bits]⟩]⟩
 mu i := xs.length - i
noncomputable def env_65 (hv : Nat → Option Pa) (hb : Nat → Option Bool) (t : Nat) (bits : Int) (xs : List Int) : Env :=
 e24 sm0 (fun i => bif Nat.beq i 79000 then some (fun _ => [[inv_65 t bits xs]]) else none) hv hb
noncomputable def goal_65 (hv : Nat → Option Pa) (hb : Nat → Option Bool) (t : Nat) (bits : Int) (xs : List Int) (Q : Out → List Blk → Gh → Prop) : Prop :=
 callx (env_65 hv hb t bits xs) (wpx (env_65 hv hb t bits xs) 1000) 65 [.int .i64 bits, .lst t (cellsI xs) xs.length 1] [] {} Q
theorem vc_65 (t : Nat) (bits : Int) (xs : List Int) (Q : Out → List Blk → Gh → Prop) : goal_65 (lookV [(323591, .int .i64), (323594, .int .i64), (323599, .int .i64), (311305, .int .i64), (323602, .int .i64)]) (lookB []) t bits xs Q = (exI
 IntKind.i64 (xs.length : Int) fun n_0 => (∃ x_1 : Nat, Lf (x_1 ≤ xs.length ∧ List.any (xs.take x_1) (badM bits) = Bool.false) ∧ eqqQ [AV.int .i64 bits] ∧ eqqQ (AV.lst t (cellsI xs) xs.length 1) ∧ eqqQ (AV.fn (Fn.func 76) [] [.ptr 0
 1 0]) ∧ AV.int .i64 n_0 = AV.int .i64 (xs.length : Int) ∧ AV.int .i64 0 = AV.int .i64 (x_1 : Int) ∧ True) ∧ ∀ x_1 : Nat, Lf (x_1 ≤ xs.length ∧ List.any (xs.take x_1) (badM bits) = Bool.false) → bif decide ((x_1
 : Int) < (xs.length : Int)) then exI .i64 (x_1 : Int) fun n_2 => ckQ (decide (0 ≤ n_2) && Nat.blt n_2.toNat xs.length && Bool.true) (ckQ (Nat.blt (n_2.toNat * 1) (cellsI xs).length) (exV IntKind.i64 ((cellsI xs).getD (n_2.toNat * 1)
 AV.undef) fun n_3 => bif decide (n_3 < 0) then bif decide (n_2 ≥ 0) then Q (.ret (.bool Bool.false)) [] {} else Q (.ret (.bool Bool.true)) [] {} else ckQ (decide (0 ≤ bits) && Bool.true) (exI .i64 (Int.fdiv n_3 ((2 : Int) ^ Min.min
 bits.toNat 64)) fun n_4 => bif n_4 != 0 then bif decide (n_2 ≥ 0) then Q (.ret (.bool Bool.false)) [] {} else Q (.ret (.bool Bool.true)) [] {} else exW .i64 ((x_1 : Int) + 1) fun n_5 => (True ∧ (0 : Nat) = (0 : Nat)) ∧ ∃ y_6 : Nat,
 Lf (y_6 ≤ xs.length ∧ List.any (xs.take y_6) (badM bits) = Bool.false) ∧ xs.length - y_6 < xs.length - x_1 ∧ eqqQ [AV.int .i64 bits] ∧ eqqQ (AV.lst t (cellsI xs) xs.length 1) ∧ eqqQ (AV.fn (Fn.func 76) [] [.ptr 0 1 0]) ∧ eqqQ
 (AV.int .i64 (xs.length : Int)) ∧ AV.int .i64 n_5 = AV.int .i64 (y_6 : Int) ∧ True))) else Q (.ret (.bool Bool.true)) [] {}) := by kernel_rfl

theorem blt_of {a b : Nat} (h : a < b) : a.blt b = true := by rw [blt_iff]; exact h
theorem cellsI_length (xs : List Int) : (cellsI xs).length = xs.length := by simp [cellsI]

theorem fits_run (t : Nat) (bits : Int) (xs : List Int) (Q : Out → List Blk → Gh → Prop) (hx : xs.length ≤ 4611686018427387904) (hb : 0 ≤ bits)
  (hq : Q (.ret (.bool (!(xs.any (badM bits))))) [] {}) : ∃ hv hb, goal_65 hv hb t bits xs Q := by
 obtain ⟨hv, hb', e⟩ : ∃ hv hb, goal_65 hv hb t bits xs Q = _ := ⟨_, _, vc_65 t bits xs Q⟩
 refine ⟨hv, hb', e.mpr ?_⟩
 clear e
 refine ⟨_, rfl, ⟨0, ⟨⟨by omega, by simp⟩⟩, by simp⟩, ?_⟩
 rintro i ⟨hi, hany⟩
 refine splitI (fun hlt => ?_) (fun hge => ?_)
 ·have hlt' : i < xs.length := by simpa using hlt
  refine ⟨_, rfl, ckI (by simp [Nat.blt]; exact hlt') (ckI (blt_of (by rw [cellsI_length]; simpa using hlt')) (cellsI_get hlt' ?_ (by simp)))⟩
  have hstep : (xs.take (i + 1)).any (badM bits) = badM bits xs[i] := by
   rw [List.take_add_one, List.any_append, hany]; simp [hlt']
  refine splitI (fun hn => ?_) (fun hn => ?_)
  ·have hbad : xs.any (badM bits) = true := by
    rw [List.any_eq_true]; exact ⟨xs[i], List.getElem_mem _, by simp [badM]; left; simpa using hn⟩
   rw [hbad] at hq
   refine splitI (fun _ => hq) (fun hc => ?_)
   simp at hc
  ·refine ckI (by simpa using hb) ⟨_, rfl, splitI (fun hz => ?_) (fun hz => ?_)⟩
   ·have hbad : xs.any (badM bits) = true := by
     rw [List.any_eq_true]; exact ⟨xs[i], List.getElem_mem _, by simp only [badM, Bool.or_eq_true]; right; exact hz⟩
    rw [hbad] at hq
    refine splitI (fun _ => hq) (fun hc => ?_)
    simp at hc
   ·refine wrapI (by omega) (by omega) ⟨⟨trivial, rfl⟩, i + 1, ⟨⟨hlt', ?_⟩⟩, Nat.sub_succ_lt_self _ _ hlt', by simp⟩
    rw [hstep, badM, hn, hz]; rfl
 ·have hle : xs.length ≤ i := by simpa using hge
  have : xs.take i = xs := List.take_of_length_le hle
  rw [this] at hany
  rw [hany] at hq
  exact hq

def cFits : Con
 | [.int .i64 bits, .lst _ l n 1], H, K => ∃ xs : List Int, Lf (l = cellsI xs ∧ n = xs.length ∧ 0 ≤ bits ∧ xs.length ≤ 4611686018427387904) ∧ K (.ret (.bool (!(xs.any (badM bits))))) H
 | _, _, _ => False

theorem noY_cellsI (xs : List Int) : noYL (cellsI xs) = true ∧ oldL 0 (cellsI xs) = true ∧ noTL (cellsI xs) = true := by
 induction xs with
 | nil => exact ⟨rfl, rfl, rfl⟩
 | cons x xs ih => exact ⟨by simpa [cellsI, noYL, noY] using ih.1, by simpa [cellsI, oldL, old] using ih.2.1, by simpa [cellsI, noTL, noT] using ih.2.2⟩

theorem fits_raw : ValidF Tryd.prog glC 65 cFits := by
 refine valid_flat (enters_of (by kernel_rfl)) glC_noY fun args H Q hc => ?_
 unfold cFits at hc
 split at hc
 ·rename_i bits t l n
  obtain ⟨xs, ⟨rfl, rfl, hb, hl⟩, hq⟩ := hc
  obtain ⟨hv, hb', h⟩ := fits_run t bits xs (hx := hl) (hb := hb) (Q := fun o H' _ => H' = [] ∧ (∃ v, o = .ret v ∧ old 0 v = true ∧ noY v = true) ∧ Q o H) ⟨rfl, ⟨_, rfl, rfl, rfl⟩, hq⟩
  exact ⟨rfl, rfl, _, 1000, envFor24 sm0_ok _ _ _, rfl, h⟩
 ·exact hc.elim
def cFitsV : Con := fun args H Q => lendL [0, 1] H args fun a => cFits a H Q
theorem fits_ok : ValidF Tryd.prog glC 65 cFitsV := valid_view fits_raw glC_noY [0, 1] fun args H Q hc => by
 unfold cFits at hc
 split at hc
 ·obtain ⟨xs, h, hq⟩ := hc
  exact ⟨xs, h, rfl, ⟨_, rfl, rfl⟩, hq⟩
 ·exact hc.elim
end Go.Proofs.YtafchcmemeinlaaDoor

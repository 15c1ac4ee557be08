/-
  Chapter 23: numbers that fit.
-/
import Derived.Test.YtbchmkhliehbfaaDoorM23A
set_option linter.unusedSimpArgs false
set_option linter.unusedVariables false
namespace Go.Proofs.YtbchmkhliehbfaaDoor
open Go.RowKit
set_option maxRecDepth 1000000

theorem cellsI_get {xs : List Int} {i j : Nat} (hi : i < xs.length) {K : Int → Prop} (hk : K xs[i]) (hj : j = i) : ∃ n : Int, (cellsI xs).getD j AV.undef = AV.int .i64 n ∧ K n := by
  subst hj
  exact ⟨xs[j], by simp [cellsI, hi], hk⟩

def badM (bits n : Int) : Bool := decide (n < 0) || (n.fdiv (2 ^ min bits.toNat 64) != 0)
def inv_32 (t : Nat) (bits : Int) (xs : List Int) : LInv where
  α := Nat
  pre i := Lf (i ≤ xs.length ∧ (xs.take i).any (badM bits) = false)
  st i := ⟨mkT [(0, .lst t (cellsI xs) xs.length 1), (1, .fn (.func 55) [] [.ptr 0 1 0]), (7, .int .i64 xs.length), (8, .int .i64 i)], [⟨.exact, true, [.int .i64 bits]⟩]⟩
  mu i := xs.length - i
noncomputable def env_32 (hv : Nat → Option Pa) (hb : Nat → Option Bool) (t : Nat) (bits : Int) (xs : List Int) : Env :=
  e23 sm0 (fun i => bif Nat.beq i 69000 then some (fun _ => [[inv_32 t bits xs]]) else none) hv hb
noncomputable def goal_32 (hv : Nat → Option Pa) (hb : Nat → Option Bool) (t : Nat) (bits : Int) (xs : List Int) (Q : Out → List Blk → Gh → Prop) : Prop :=
  callx (env_32 hv hb t bits xs) (wpx (env_32 hv hb t bits xs) 1000) 32 [.int .i64 bits, .lst t (cellsI xs) xs.length 1] [] {} Q
theorem vc_32 (t : Nat) (bits : Int) (xs : List Int) (Q : Out → List Blk → Gh → Prop) : goal_32 (lookV [(282631, .int .i64), (282634, .int .i64), (282639, .int .i64), (225289, .int .i64), (282642, .int .i64)]) (lookB []) t bits xs Q = (
(∃ n_0 : Int, (((AV.int .i64 (Nat.cast (List.length xs) : Int)) = (AV.int .i64 n_0)) ∧
 ((∃ x_1 : Nat, ((Lf ((x_1 ≤ (List.length xs)) ∧
 ((List.any (List.take x_1 xs) (badM bits)) = false))) ∧
 ((((AV.int .i64 bits) :: []) = ((AV.int .i64 bits) :: [])) ∧
 (((AV.lst t (cellsI xs) (List.length xs) (1 : Nat)) = (AV.lst t (cellsI xs) (List.length xs) (1 : Nat))) ∧
 (((AV.fn (Fn.func (55 : Nat)) [] ((AV.ptr (0 : Nat) (1 : Nat) (0 : Nat)) :: [])) = (AV.fn (Fn.func (55 : Nat)) [] ((AV.ptr (0 : Nat) (1 : Nat) (0 : Nat)) :: []))) ∧
 (((AV.int .i64 n_0) = (AV.int .i64 (Nat.cast (List.length xs) : Int))) ∧
 (((AV.int .i64 (0 : Int)) = (AV.int .i64 (Nat.cast x_1 : Int))) ∧
 True))))))) ∧
 (∀ x_1 : Nat, ((Lf ((x_1 ≤ (List.length xs)) ∧
 ((List.any (List.take x_1 xs) (badM bits)) = false))) →
(bif (decide ((Nat.cast x_1 : Int) < (Nat.cast (List.length xs) : Int))) then (∃ n_2 : Int, (((AV.int .i64 (Nat.cast x_1 : Int)) = (AV.int .i64 n_2)) ∧
 (bif (((decide ((0 : Int) ≤ n_2)) && (Nat.blt (Int.toNat n_2) (List.length xs))) && true) then (bif (Nat.blt ((Int.toNat n_2) * (1 : Nat)) (List.length (cellsI xs))) then (∃ n_3 : Int, (((List.getD (cellsI xs) ((Int.toNat n_2) * (1 : Nat)) AV.undef) = (AV.int .i64 n_3)) ∧
 (bif (decide (n_3 < (0 : Int))) then (bif (decide (n_2 ≥ (0 : Int))) then (Q (Out.ret (AV.bool false)) [] (Gh.mk (0 : Nat) (0 : Nat) []))
else (Q (Out.ret (AV.bool true)) [] (Gh.mk (0 : Nat) (0 : Nat) [])))
else (bif ((decide ((0 : Int) ≤ bits)) && true) then (∃ n_4 : Int, (((AV.int .i64 (Int.fdiv n_3 ((2 : Int) ^ (Min.min (Int.toNat bits) (64 : Nat))))) = (AV.int .i64 n_4)) ∧
 (bif (n_4 != (0 : Int)) then (bif (decide (n_2 ≥ (0 : Int))) then (Q (Out.ret (AV.bool false)) [] (Gh.mk (0 : Nat) (0 : Nat) []))
else (Q (Out.ret (AV.bool true)) [] (Gh.mk (0 : Nat) (0 : Nat) [])))
else (∃ n_5 : Int, (((AV.int .i64 (IntKind.wrap .i64 ((Nat.cast x_1 : Int) + (1 : Int)))) = (AV.int .i64 n_5)) ∧
 ((True ∧
 ((0 : Nat) = (0 : Nat))) ∧
 (∃ y_6 : Nat, ((Lf ((y_6 ≤ (List.length xs)) ∧
 ((List.any (List.take y_6 xs) (badM bits)) = false))) ∧
 ((((List.length xs) - y_6) < ((List.length xs) - x_1)) ∧
 ((((AV.int .i64 bits) :: []) = ((AV.int .i64 bits) :: [])) ∧
 (((AV.lst t (cellsI xs) (List.length xs) (1 : Nat)) = (AV.lst t (cellsI xs) (List.length xs) (1 : Nat))) ∧
 (((AV.fn (Fn.func (55 : Nat)) [] ((AV.ptr (0 : Nat) (1 : Nat) (0 : Nat)) :: [])) = (AV.fn (Fn.func (55 : Nat)) [] ((AV.ptr (0 : Nat) (1 : Nat) (0 : Nat)) :: []))) ∧
 (((AV.int .i64 (Nat.cast (List.length xs) : Int)) = (AV.int .i64 (Nat.cast (List.length xs) : Int))) ∧
 (((AV.int .i64 n_5) = (AV.int .i64 (Nat.cast y_6 : Int))) ∧
 True))))))))))))))
else False))))
else False)
else False)))
else (Q (Out.ret (AV.bool true)) [] (Gh.mk (0 : Nat) (0 : Nat) []))))))))) := by kernel_rfl

theorem blt_of {a b : Nat} (h : a < b) : a.blt b = true := by rw [blt_iff]; exact h
theorem cellsI_length (xs : List Int) : (cellsI xs).length = xs.length := by simp [cellsI]

theorem fits_run (t : Nat) (bits : Int) (xs : List Int) (Q : Out → List Blk → Gh → Prop) (hx : xs.length ≤ 4611686018427387904) (hb : 0 ≤ bits)
    (hq : Q (.ret (.bool (!(xs.any (badM bits))))) [] {}) : ∃ hv hb, goal_32 hv hb t bits xs Q := by
  obtain ⟨hv, hb', e⟩ : ∃ hv hb, goal_32 hv hb t bits xs Q = _ := ⟨_, _, vc_32 t bits xs Q⟩
  refine ⟨hv, hb', e.mpr ?_⟩
  clear e
  refine ⟨_, rfl, ⟨0, ⟨⟨by omega, by simp⟩⟩, by simp⟩, ?_⟩
  rintro i ⟨hi, hany⟩
  refine splitI (fun hlt => ?_) (fun hge => ?_)
  · have hlt' : i < xs.length := by simpa using hlt
    refine ⟨_, rfl, ckI (by simp [Nat.blt]; exact hlt') (ckI (blt_of (by rw [cellsI_length]; simpa using hlt')) (cellsI_get hlt' ?_ (by simp)))⟩
    have hstep : (xs.take (i + 1)).any (badM bits) = badM bits xs[i] := by
      rw [List.take_add_one, List.any_append, hany]; simp [hlt']
    refine splitI (fun hn => ?_) (fun hn => ?_)
    · have hbad : xs.any (badM bits) = true := by
        rw [List.any_eq_true]; exact ⟨xs[i], List.getElem_mem _, by simp [badM]; left; simpa using hn⟩
      rw [hbad] at hq
      refine splitI (fun _ => hq) (fun hc => ?_)
      simp at hc
    · refine ckI (by simpa using hb) ⟨_, rfl, splitI (fun hz => ?_) (fun hz => ?_)⟩
      · have hbad : xs.any (badM bits) = true := by
          rw [List.any_eq_true]; exact ⟨xs[i], List.getElem_mem _, by simp only [badM, Bool.or_eq_true]; right; exact hz⟩
        rw [hbad] at hq
        refine splitI (fun _ => hq) (fun hc => ?_)
        simp at hc
      · refine wrapI (by omega) (by omega) ⟨⟨trivial, rfl⟩, i + 1, ⟨⟨hlt', ?_⟩⟩, Nat.sub_succ_lt_self _ _ hlt', by simp⟩
        rw [hstep, badM, hn, hz]; rfl
  · have hle : xs.length ≤ i := by simpa using hge
    have : xs.take i = xs := List.take_of_length_le hle
    rw [this] at hany
    rw [hany] at hq
    exact hq

def cFits : Con
  | [.int .i64 bits, .lst _ l n 1], H, K => ∃ xs : List Int, Lf (l = cellsI xs ∧ n = xs.length ∧ 0 ≤ bits ∧ xs.length ≤ 4611686018427387904) ∧ K (.ret (.bool (!(xs.any (badM bits))))) H
  | _, _, _ => False

theorem noY_cellsI (xs : List Int) : noYL (cellsI xs) = true ∧ oldL 0 (cellsI xs) = true ∧ noTL (cellsI xs) = true := by
  induction xs with
  | nil => exact ⟨rfl, rfl, rfl⟩
  | cons x xs ih => exact ⟨by simpa [cellsI, noYL, noY] using ih.1, by simpa [cellsI, oldL, old] using ih.2.1, by simpa [cellsI, noTL, noT] using ih.2.2⟩

theorem fits_raw : ValidF Tryd.prog gl0 32 cFits := by
  refine valid_flat (enters_of (by kernel_rfl)) gl0_noY fun args H Q hc => ?_
  unfold cFits at hc
  split at hc
  · rename_i bits t l n
    obtain ⟨xs, ⟨rfl, rfl, hb, hl⟩, hq⟩ := hc
    obtain ⟨hv, hb', h⟩ := fits_run t bits xs (hx := hl) (hb := hb) (Q := fun o H' _ => H' = [] ∧ (∃ v, o = .ret v ∧ old 0 v = true ∧ noY v = true) ∧ Q o H) ⟨rfl, ⟨_, rfl, rfl, rfl⟩, hq⟩
    exact ⟨rfl, rfl, _, 1000, envFor23 sm0_ok _ _ _, rfl, h⟩
  · exact hc.elim
def cFitsV : Con := fun args H Q => lendL [0, 1] H args fun a => cFits a H Q
theorem fits_ok : ValidF Tryd.prog gl0 32 cFitsV := valid_view fits_raw gl0_noY [0, 1] fun args H Q hc => by
  unfold cFits at hc
  split at hc
  · obtain ⟨xs, h, hq⟩ := hc
    exact ⟨xs, h, rfl, ⟨_, rfl, rfl⟩, hq⟩
  · exact hc.elim
/-- plain cells are frozen as they are -/
theorem frzL_cellsI (τ : Nat) (H : List Blk) (d : Nat) (xs : List Int) : frzL τ H (d + 1) (cellsI xs) = cellsI xs := by
  unfold frzL cellsI
  rw [List.map_map]
  rfl
end Go.Proofs.YtbchmkhliehbfaaDoor

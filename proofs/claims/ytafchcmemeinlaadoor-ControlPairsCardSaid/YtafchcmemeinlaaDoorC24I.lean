/-
  Chapter 24: equal lists (slices.Equal), the reference's Fraction.
-/
import Derived.Test.YtafchcmemeinlaaDoorC24H
set_option linter.unusedSimpArgs false
set_option linter.unusedVariables false
namespace Go.Proofs.YtafchcmemeinlaaDoor
open Go.RowKit
set_option maxRecDepth 1000000

def inv_26 (t t' : Nat) (xs ys : List Int) : LInv where
  α := Nat
  pre i := Lf (i ≤ xs.length ∧ xs.length = ys.length ∧ xs.take i = ys.take i)
  st i := ⟨mkT [(0, .lst t (cellsI xs) xs.length 1), (1, .lst t' (cellsI ys) ys.length 1), (12, .int .i64 xs.length), (13, .int .i64 i)], []⟩
  mu i := xs.length - i
noncomputable def env_26 (hv : Nat → Option Pa) (hb : Nat → Option Bool) (t t' : Nat) (xs ys : List Int) : Env := e24 sm0 (fun i => bif Nat.beq i 26000 then some (fun _ => [[inv_26 t t' xs ys]]) else none) hv hb
noncomputable def goal_26 (hv : Nat → Option Pa) (hb : Nat → Option Bool) (t t' : Nat) (xs ys : List Int) (Q : Out → List Blk → Gh → Prop) : Prop :=
  callx (env_26 hv hb t t' xs ys) (wpx (env_26 hv hb t t' xs ys) 1000) 26 [.lst t (cellsI xs) xs.length 1, .lst t' (cellsI ys) ys.length 1] [] {} Q
theorem vc_26 (t : Nat) (t' : Nat) (xs : List Int) (ys : List Int) (Q : Out → List Blk → Gh → Prop) : goal_26 (lookV [(106503, .int .i64), (106505, .int .i64), (106508, .int .i64), (106511, .int .i64), (106515, .int .i64), (106519, .int .i64), (106521, .int .i64)]) (lookB []) t t' xs ys Q = (
(∃ n_0 : Int, (((AV.int IntKind.i64 (Nat.cast (List.length xs) : Int)) = (AV.int IntKind.i64 n_0)) ∧
 (∃ n_1 : Int, (((AV.int IntKind.i64 (Nat.cast (List.length ys) : Int)) = (AV.int IntKind.i64 n_1)) ∧
 (bif (n_0 != n_1) then (Q (Out.ret (AV.bool Bool.false)) [] (Gh.mk (0 : Nat) (0 : Nat) []))
else (∃ n_2 : Int, (((AV.int IntKind.i64 (Nat.cast (List.length xs) : Int)) = (AV.int IntKind.i64 n_2)) ∧
 ((∃ x_3 : Nat, ((Lf ((x_3 ≤ (List.length xs)) ∧
 (((List.length xs) = (List.length ys)) ∧
 ((List.take x_3 xs) = (List.take x_3 ys))))) ∧
 (((AV.lst t (cellsI xs) (List.length xs) (1 : Nat)) = (AV.lst t (cellsI xs) (List.length xs) (1 : Nat))) ∧
 (((AV.lst t' (cellsI ys) (List.length ys) (1 : Nat)) = (AV.lst t' (cellsI ys) (List.length ys) (1 : Nat))) ∧
 (((AV.int IntKind.i64 (0 : Int)) = (AV.int IntKind.i64 (Nat.cast x_3 : Int))) ∧
 (((AV.int IntKind.i64 n_2) = (AV.int IntKind.i64 (Nat.cast (List.length xs) : Int))) ∧
 True)))))) ∧
 (∀ x_3 : Nat, ((Lf ((x_3 ≤ (List.length xs)) ∧
 (((List.length xs) = (List.length ys)) ∧
 ((List.take x_3 xs) = (List.take x_3 ys))))) →
(bif (decide ((Nat.cast x_3 : Int) < (Nat.cast (List.length xs) : Int))) then (∃ n_4 : Int, (((AV.int IntKind.i64 (Nat.cast x_3 : Int)) = (AV.int IntKind.i64 n_4)) ∧
 (bif (((decide ((0 : Int) ≤ n_4)) && (Nat.blt (Int.toNat n_4) (List.length xs))) && Bool.true) then (bif (Nat.blt ((Int.toNat n_4) * (1 : Nat)) (List.length (cellsI xs))) then (∃ n_5 : Int, (((List.getD (cellsI xs) ((Int.toNat n_4) * (1 : Nat)) AV.undef) = (AV.int IntKind.i64 n_5)) ∧
 (bif (((decide ((0 : Int) ≤ n_4)) && (Nat.blt (Int.toNat n_4) (List.length ys))) && Bool.true) then (bif (Nat.blt ((Int.toNat n_4) * (1 : Nat)) (List.length (cellsI ys))) then (∃ n_6 : Int, (((List.getD (cellsI ys) ((Int.toNat n_4) * (1 : Nat)) AV.undef) = (AV.int IntKind.i64 n_6)) ∧
 (bif (n_5 != n_6) then (Q (Out.ret (AV.bool Bool.false)) [] (Gh.mk (0 : Nat) (0 : Nat) []))
else (∃ n_7 : Int, (((AV.int IntKind.i64 (IntKind.wrap IntKind.i64 ((Nat.cast x_3 : Int) + (1 : Int)))) = (AV.int IntKind.i64 n_7)) ∧
 ((True ∧
 ((0 : Nat) = (0 : Nat))) ∧
 (∃ y_8 : Nat, ((Lf ((y_8 ≤ (List.length xs)) ∧
 (((List.length xs) = (List.length ys)) ∧
 ((List.take y_8 xs) = (List.take y_8 ys))))) ∧
 ((((List.length xs) - y_8) < ((List.length xs) - x_3)) ∧
 (((AV.lst t (cellsI xs) (List.length xs) (1 : Nat)) = (AV.lst t (cellsI xs) (List.length xs) (1 : Nat))) ∧
 (((AV.lst t' (cellsI ys) (List.length ys) (1 : Nat)) = (AV.lst t' (cellsI ys) (List.length ys) (1 : Nat))) ∧
 (((AV.int IntKind.i64 n_7) = (AV.int IntKind.i64 (Nat.cast y_8 : Int))) ∧
 (((AV.int IntKind.i64 (Nat.cast (List.length xs) : Int)) = (AV.int IntKind.i64 (Nat.cast (List.length xs) : Int))) ∧
 True)))))))))))))
else False)
else False)))
else False)
else False)))
else (Q (Out.ret (AV.bool Bool.true)) [] (Gh.mk (0 : Nat) (0 : Nat) [])))))))))))))) := by kernel_rfl

theorem take_snocD {α : Type} (xs : List α) (d : α) {i : Nat} (h : i < xs.length) : xs.take (i + 1) = xs.take i ++ [xs.getD i d] := by
  rw [List.take_add_one]; simp [h]
theorem equalI_run (t t' : Nat) (xs ys : List Int) (Q : Out → List Blk → Gh → Prop) (hx : xs.length ≤ 4611686018427387904) (hy : ys.length ≤ 4611686018427387904) (hq : Q (.ret (.bool (decide (xs = ys)))) [] {}) : ∃ hv hb, goal_26 hv hb t t' xs ys Q := by
  obtain ⟨hv, hb', e⟩ : ∃ hv hb, goal_26 hv hb t t' xs ys Q = _ := ⟨_, _, vc_26 t t' xs ys Q⟩
  refine ⟨hv, hb', e.mpr ?_⟩
  clear e
  (repeat' (first | (with_reducible refine trivial) | ((guard_target = False); omega) | (((with_reducible refine wrapI ?_ ?_ ?_)); (focus (omega)); (focus (omega))) | ((fail_if_success (with_reducible refine wrapI ?_ ?_ ?_)); (with_reducible refine ⟨_, rfl, ?_⟩)) | (((with_reducible refine wrapU8 ?_ ?_ ?_)); (focus (omega)); (focus (omega))) | (((with_reducible refine ckI ?_ ?_)); (focus (first | (simp only [Bool.and_eq_true, Bool.and_true, Bool.true_and, decide_eq_true_eq, blt_iff, Nat.ble_eq, nbeq, cellsI_len,  List.length_append, List.length_cons, List.length_nil, Int.toNat_natCast, and_true, true_and, Bool.or_eq_true, Bool.not_eq_true', bne_iff_ne, ne_eq]; done) | (simp only [Bool.and_eq_true, Bool.and_true, Bool.true_and, decide_eq_true_eq, blt_iff, Nat.ble_eq, nbeq, cellsI_len,  List.length_append, List.length_cons, List.length_nil, Int.toNat_natCast, and_true, true_and, Bool.or_eq_true, Bool.not_eq_true', bne_iff_ne, ne_eq]; omega) | rfl | (simp; done) | (simp; omega)))) | (with_reducible refine splitD (fun _ => ?_) (fun _ => ?_) <;> (try (exfalso; omega))) | (with_reducible refine splitE (fun _ => ?_) (fun _ => ?_) <;> (try (exfalso; omega))) | (with_reducible refine splitNE (fun _ => ?_) (fun _ => ?_) <;> (try (exfalso; omega))) | (with_reducible refine splitNot ?_) | (with_reducible refine splitAnd ?_) | (with_reducible refine splitOr ?_)))
  · rename_i h
    rw [decide_eq_false (by intro e; rw [e] at h; exact h rfl)] at hq
    exact hq
  · rename_i h
    have hl : xs.length = ys.length := by omega
    refine ⟨⟨0, ⟨by omega, hl, by simp⟩, by simp⟩, ?_⟩
    rintro i ⟨h1, h2, h3⟩
    refine splitD (fun hlt => ?_) (fun hge => ?_)
    · (repeat' (first | (with_reducible refine trivial) | ((guard_target = False); omega) | (((with_reducible refine wrapI ?_ ?_ ?_)); (focus (omega)); (focus (omega))) | ((fail_if_success (with_reducible refine wrapI ?_ ?_ ?_)); (with_reducible refine ⟨_, rfl, ?_⟩)) | (((with_reducible refine wrapU8 ?_ ?_ ?_)); (focus (omega)); (focus (omega))) | (((with_reducible refine ckI ?_ ?_)); (focus (first | (simp only [Bool.and_eq_true, Bool.and_true, Bool.true_and, decide_eq_true_eq, blt_iff, Nat.ble_eq, nbeq, cellsI_len,  List.length_append, List.length_cons, List.length_nil, Int.toNat_natCast, and_true, true_and, Bool.or_eq_true, Bool.not_eq_true', bne_iff_ne, ne_eq]; done) | (simp only [Bool.and_eq_true, Bool.and_true, Bool.true_and, decide_eq_true_eq, blt_iff, Nat.ble_eq, nbeq, cellsI_len,  List.length_append, List.length_cons, List.length_nil, Int.toNat_natCast, and_true, true_and, Bool.or_eq_true, Bool.not_eq_true', bne_iff_ne, ne_eq]; omega) | rfl | (simp; done) | (simp; omega)))) | (with_reducible refine splitD (fun _ => ?_) (fun _ => ?_) <;> (try (exfalso; omega))) | (with_reducible refine splitE (fun _ => ?_) (fun _ => ?_) <;> (try (exfalso; omega))) | (with_reducible refine splitNE (fun _ => ?_) (fun _ => ?_) <;> (try (exfalso; omega))) | (with_reducible refine splitNot ?_) | (with_reducible refine splitAnd ?_) | (with_reducible refine splitOr ?_)))
      refine getI (i := i) (by omega) (by omega) ?_
      (repeat' (first | (with_reducible refine trivial) | ((guard_target = False); omega) | (((with_reducible refine wrapI ?_ ?_ ?_)); (focus (omega)); (focus (omega))) | ((fail_if_success (with_reducible refine wrapI ?_ ?_ ?_)); (with_reducible refine ⟨_, rfl, ?_⟩)) | (((with_reducible refine wrapU8 ?_ ?_ ?_)); (focus (omega)); (focus (omega))) | (((with_reducible refine ckI ?_ ?_)); (focus (first | (simp only [Bool.and_eq_true, Bool.and_true, Bool.true_and, decide_eq_true_eq, blt_iff, Nat.ble_eq, nbeq, cellsI_len,  List.length_append, List.length_cons, List.length_nil, Int.toNat_natCast, and_true, true_and, Bool.or_eq_true, Bool.not_eq_true', bne_iff_ne, ne_eq]; done) | (simp only [Bool.and_eq_true, Bool.and_true, Bool.true_and, decide_eq_true_eq, blt_iff, Nat.ble_eq, nbeq, cellsI_len,  List.length_append, List.length_cons, List.length_nil, Int.toNat_natCast, and_true, true_and, Bool.or_eq_true, Bool.not_eq_true', bne_iff_ne, ne_eq]; omega) | rfl | (simp; done) | (simp; omega)))) | (with_reducible refine splitD (fun _ => ?_) (fun _ => ?_) <;> (try (exfalso; omega))) | (with_reducible refine splitE (fun _ => ?_) (fun _ => ?_) <;> (try (exfalso; omega))) | (with_reducible refine splitNE (fun _ => ?_) (fun _ => ?_) <;> (try (exfalso; omega))) | (with_reducible refine splitNot ?_) | (with_reducible refine splitAnd ?_) | (with_reducible refine splitOr ?_)))
      refine getI (i := i) (by omega) (by omega) ?_
      (repeat' (first | (with_reducible refine trivial) | ((guard_target = False); omega) | (((with_reducible refine wrapI ?_ ?_ ?_)); (focus (omega)); (focus (omega))) | ((fail_if_success (with_reducible refine wrapI ?_ ?_ ?_)); (with_reducible refine ⟨_, rfl, ?_⟩)) | (((with_reducible refine wrapU8 ?_ ?_ ?_)); (focus (omega)); (focus (omega))) | (((with_reducible refine ckI ?_ ?_)); (focus (first | (simp only [Bool.and_eq_true, Bool.and_true, Bool.true_and, decide_eq_true_eq, blt_iff, Nat.ble_eq, nbeq, cellsI_len,  List.length_append, List.length_cons, List.length_nil, Int.toNat_natCast, and_true, true_and, Bool.or_eq_true, Bool.not_eq_true', bne_iff_ne, ne_eq]; done) | (simp only [Bool.and_eq_true, Bool.and_true, Bool.true_and, decide_eq_true_eq, blt_iff, Nat.ble_eq, nbeq, cellsI_len,  List.length_append, List.length_cons, List.length_nil, Int.toNat_natCast, and_true, true_and, Bool.or_eq_true, Bool.not_eq_true', bne_iff_ne, ne_eq]; omega) | rfl | (simp; done) | (simp; omega)))) | (with_reducible refine splitD (fun _ => ?_) (fun _ => ?_) <;> (try (exfalso; omega))) | (with_reducible refine splitE (fun _ => ?_) (fun _ => ?_) <;> (try (exfalso; omega))) | (with_reducible refine splitNE (fun _ => ?_) (fun _ => ?_) <;> (try (exfalso; omega))) | (with_reducible refine splitNot ?_) | (with_reducible refine splitAnd ?_) | (with_reducible refine splitOr ?_)))
      · rename_i hne
        rw [decide_eq_false (by intro e; rw [e] at hne; exact hne rfl)] at hq
        exact hq
      · rename_i heq
        refine ⟨⟨trivial, rfl⟩, i + 1, ⟨by omega, h2, ?_⟩, by omega, by simp⟩
        rw [take_snocD xs 0 (by omega), take_snocD ys 0 (by omega), h3, heq]
    · have e1 : xs.take i = xs := List.take_of_length_le (by omega)
      have e2 : ys.take i = ys := List.take_of_length_le (by omega)
      rw [decide_eq_true (by rw [← e1, h3, e2])] at hq
      exact hq
def cEqualI : Con
  | [.lst _ l n 1, .lst _ l' n' 1], H, K => ∃ xs ys : List Int, Lf (l = cellsI xs ∧ n = xs.length ∧ xs.length ≤ 4611686018427387904 ∧ l' = cellsI ys ∧ n' = ys.length ∧ ys.length ≤ 4611686018427387904) ∧ K (.ret (.bool (decide (xs = ys)))) H
  | _, _, _ => False
theorem equalI_raw : ValidF Tryd.prog glC 26 cEqualI := by
  refine valid_flat (enters_of (by kernel_rfl)) glC_noY fun args H Q hc => ?_
  unfold cEqualI at hc
  split at hc
  · rename_i t l n t' l' n'
    obtain ⟨xs, ys, ⟨rfl, rfl, hl, rfl, rfl, hl'⟩, hq⟩ := hc
    obtain ⟨hv, hb', h⟩ := equalI_run t t' xs ys (hx := hl) (hy := hl') (Q := fun o H' _ => H' = [] ∧ (∃ v, o = .ret v ∧ old 0 v = true ∧ noY v = true) ∧ Q o H) ⟨rfl, ⟨_, rfl, rfl, rfl⟩, hq⟩
    exact ⟨rfl, rfl, _, 1000, envFor24 sm0_ok _ _ _, rfl, h⟩
  · exact hc.elim
def cEqualIV : Con := fun args H Q => lendL [1, 1] H args fun a => cEqualI a H Q
theorem equalI_ok : ValidF Tryd.prog glC 26 cEqualIV := valid_view equalI_raw glC_noY [1, 1] fun args H Q hc => by
  unfold cEqualI at hc
  split at hc
  · obtain ⟨xs, ys, h, hq⟩ := hc
    exact ⟨xs, ys, h, rfl, ⟨_, rfl, rfl⟩, hq⟩
  · exact hc.elim
end Go.Proofs.YtafchcmemeinlaaDoor

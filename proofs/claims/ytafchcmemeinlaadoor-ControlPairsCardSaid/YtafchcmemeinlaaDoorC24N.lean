/-
  Chapter 24: the reference's Fraction; equal lists of pairs.
-/
import Derived.Test.YtafchcmemeinlaaDoorC24S
import Derived.Test.YtafchcmemeinlaaDoorC24B
set_option linter.unusedSimpArgs false
set_option linter.unusedVariables false
namespace Go.Proofs.YtafchcmemeinlaaDoor
open Go.RowKit
set_option maxRecDepth 1000000

/-! ## the reference's Fraction -/
noncomputable def goal_23 (hv : Nat → Option Pa) (hb : Nat → Option Bool) (a b : Int) (Q : Out → List Blk → Gh → Prop) : Prop :=
  callx (e24 sm0 (fun _ => none) hv hb) (wpx (e24 sm0 (fun _ => none) hv hb) 1000) 23 [.int .i64 a, .int .i64 b] [] {} Q
theorem vc_23 (a : Int) (b : Int) (Q : Out → List Blk → Gh → Prop) : goal_23 (lookV [(94233, .int .i64), (94234, .int .i64), (94236, .int .i64), (94237, .int .i64)]) (lookB []) a b Q = (
(bif (decide (a < (0 : Int))) then (Q (Out.ret (AV.tup ((AV.int IntKind.i64 (0 : Int)) :: ((AV.int IntKind.i64 (2 : Int)) :: [])))) [] (Gh.mk (0 : Nat) (0 : Nat) []))
else (bif (decide (a > (4294967296 : Int))) then (Q (Out.ret (AV.tup ((AV.int IntKind.i64 (0 : Int)) :: ((AV.int IntKind.i64 (2 : Int)) :: [])))) [] (Gh.mk (0 : Nat) (0 : Nat) []))
else (bif (decide (b < (0 : Int))) then (Q (Out.ret (AV.tup ((AV.int IntKind.i64 (0 : Int)) :: ((AV.int IntKind.i64 (2 : Int)) :: [])))) [] (Gh.mk (0 : Nat) (0 : Nat) []))
else (bif (decide (b > (4294967296 : Int))) then (Q (Out.ret (AV.tup ((AV.int IntKind.i64 (0 : Int)) :: ((AV.int IntKind.i64 (2 : Int)) :: [])))) [] (Gh.mk (0 : Nat) (0 : Nat) []))
else (bif (decide (b ≥ a)) then (Q (Out.ret (AV.tup ((AV.int IntKind.i64 (0 : Int)) :: ((AV.int IntKind.i64 (0 : Int)) :: [])))) [] (Gh.mk (0 : Nat) (0 : Nat) []))
else (∃ n_0 : Int, (((AV.int IntKind.i64 (IntKind.wrap IntKind.i64 (a - b))) = (AV.int IntKind.i64 n_0)) ∧
 (∃ n_1 : Int, (((AV.int IntKind.i64 (IntKind.wrap IntKind.i64 ((256 : Int) * n_0))) = (AV.int IntKind.i64 n_1)) ∧
 (bif ((a != (0 : Int)) && Bool.true) then (∃ n_2 : Int, (((AV.int IntKind.i64 (IntKind.wrap IntKind.i64 (Int.tdiv n_1 a))) = (AV.int IntKind.i64 n_2)) ∧
 (∃ n_3 : Int, (((AV.int IntKind.i64 (imin (255 : Int) n_2)) = (AV.int IntKind.i64 n_3)) ∧
 (Q (Out.ret (AV.tup ((AV.int IntKind.i64 n_3) :: ((AV.int IntKind.i64 (0 : Int)) :: [])))) [] (Gh.mk (0 : Nat) (0 : Nat) []))))))
else False))))))))))) := by kernel_rfl

theorem imax_le (a b c : Int) : c < imax a b ↔ c < a ∨ c < b := by unfold imax; split <;> omega
theorem refFrac_ok : ValidF Tryd.prog glC 23 cFrac := by
  refine valid_flat (enters_of (by kernel_rfl)) glC_noY fun args H Q hc => ?_
  unfold cFrac at hc
  split at hc
  · rename_i a b
    refine ⟨rfl, rfl, _, 1000, envFor24 sm0_ok _ _ _, rfl, (vc_23 a b _).mpr ?_⟩
    have him := imax_le a b 4294967296
    have no : ∀ x y : Int, fracM a b = (x, y) → ([] : List Blk) = [] ∧ (∃ v, Out.ret (.tup [.int .i64 x, .int .i64 y]) = .ret v ∧ old 0 v = true ∧ noY v = true) ∧ Q (.ret (.tup [.int .i64 x, .int .i64 y])) H := fun x y e => frac_leaf hc e
    by_cases hbad : a < 0 ∨ b < 0 ∨ 4294967296 < imax a b
    · have hq := no 0 2 (if_pos hbad)
      (repeat' (first | (with_reducible refine trivial) | ((guard_target = False); omega) | (((with_reducible refine wrapI ?_ ?_ ?_)); (focus (omega)); (focus (omega))) | ((fail_if_success (with_reducible refine wrapI ?_ ?_ ?_)); (with_reducible refine ⟨_, rfl, ?_⟩)) | (((with_reducible refine wrapU8 ?_ ?_ ?_)); (focus (omega)); (focus (omega))) | (((with_reducible refine ckI ?_ ?_)); (focus (first | (simp only [Bool.and_eq_true, Bool.and_true, Bool.true_and, decide_eq_true_eq, blt_iff, Nat.ble_eq, nbeq, cellsI_len,  List.length_append, List.length_cons, List.length_nil, Int.toNat_natCast, and_true, true_and, Bool.or_eq_true, Bool.not_eq_true', bne_iff_ne, ne_eq]; done) | (simp only [Bool.and_eq_true, Bool.and_true, Bool.true_and, decide_eq_true_eq, blt_iff, Nat.ble_eq, nbeq, cellsI_len,  List.length_append, List.length_cons, List.length_nil, Int.toNat_natCast, and_true, true_and, Bool.or_eq_true, Bool.not_eq_true', bne_iff_ne, ne_eq]; omega) | rfl | (simp; done) | (simp; omega)))) | (with_reducible refine splitD (fun _ => ?_) (fun _ => ?_) <;> (try (exfalso; omega))) | (with_reducible refine splitE (fun _ => ?_) (fun _ => ?_) <;> (try (exfalso; omega))) | (with_reducible refine splitNE (fun _ => ?_) (fun _ => ?_) <;> (try (exfalso; omega))) | (with_reducible refine splitNot ?_) | (with_reducible refine splitAnd ?_) | (with_reducible refine splitOr ?_)))
      all_goals first | exact hq | (exfalso; omega)
    · by_cases hle : a ≤ b
      · have hq := no 0 0 (by rw [fracM, if_neg hbad, if_pos hle])
        (repeat' (first | (with_reducible refine trivial) | ((guard_target = False); omega) | (((with_reducible refine wrapI ?_ ?_ ?_)); (focus (omega)); (focus (omega))) | ((fail_if_success (with_reducible refine wrapI ?_ ?_ ?_)); (with_reducible refine ⟨_, rfl, ?_⟩)) | (((with_reducible refine wrapU8 ?_ ?_ ?_)); (focus (omega)); (focus (omega))) | (((with_reducible refine ckI ?_ ?_)); (focus (first | (simp only [Bool.and_eq_true, Bool.and_true, Bool.true_and, decide_eq_true_eq, blt_iff, Nat.ble_eq, nbeq, cellsI_len,  List.length_append, List.length_cons, List.length_nil, Int.toNat_natCast, and_true, true_and, Bool.or_eq_true, Bool.not_eq_true', bne_iff_ne, ne_eq]; done) | (simp only [Bool.and_eq_true, Bool.and_true, Bool.true_and, decide_eq_true_eq, blt_iff, Nat.ble_eq, nbeq, cellsI_len,  List.length_append, List.length_cons, List.length_nil, Int.toNat_natCast, and_true, true_and, Bool.or_eq_true, Bool.not_eq_true', bne_iff_ne, ne_eq]; omega) | rfl | (simp; done) | (simp; omega)))) | (with_reducible refine splitD (fun _ => ?_) (fun _ => ?_) <;> (try (exfalso; omega))) | (with_reducible refine splitE (fun _ => ?_) (fun _ => ?_) <;> (try (exfalso; omega))) | (with_reducible refine splitNE (fun _ => ?_) (fun _ => ?_) <;> (try (exfalso; omega))) | (with_reducible refine splitNot ?_) | (with_reducible refine splitAnd ?_) | (with_reducible refine splitOr ?_)))
        all_goals first | exact hq | (exfalso; omega)
      · have hq := no (imin 255 (((a - b) * 256).tdiv a)) 0 (by rw [fracM, if_neg hbad, if_neg hle])
        have hm : (a - b) * 256 = 256 * (a - b) := Int.mul_comm _ _
        have hd : 0 ≤ (256 * (a - b)).tdiv a ∧ (256 * (a - b)).tdiv a ≤ 256 * (a - b) := by
          rw [Int.tdiv_eq_ediv_of_nonneg (by omega)]
          exact ⟨Int.ediv_nonneg (by omega) (by omega), Int.ediv_le_self _ (by omega)⟩
        rw [hm] at hq
        (repeat' (first | (with_reducible refine trivial) | ((guard_target = False); omega) | (((with_reducible refine wrapI ?_ ?_ ?_)); (focus (omega)); (focus (omega))) | ((fail_if_success (with_reducible refine wrapI ?_ ?_ ?_)); (with_reducible refine ⟨_, rfl, ?_⟩)) | (((with_reducible refine wrapU8 ?_ ?_ ?_)); (focus (omega)); (focus (omega))) | (((with_reducible refine ckI ?_ ?_)); (focus (first | (simp only [Bool.and_eq_true, Bool.and_true, Bool.true_and, decide_eq_true_eq, blt_iff, Nat.ble_eq, nbeq, cellsI_len,  List.length_append, List.length_cons, List.length_nil, Int.toNat_natCast, and_true, true_and, Bool.or_eq_true, Bool.not_eq_true', bne_iff_ne, ne_eq]; done) | (simp only [Bool.and_eq_true, Bool.and_true, Bool.true_and, decide_eq_true_eq, blt_iff, Nat.ble_eq, nbeq, cellsI_len,  List.length_append, List.length_cons, List.length_nil, Int.toNat_natCast, and_true, true_and, Bool.or_eq_true, Bool.not_eq_true', bne_iff_ne, ne_eq]; omega) | rfl | (simp; done) | (simp; omega)))) | (with_reducible refine splitD (fun _ => ?_) (fun _ => ?_) <;> (try (exfalso; omega))) | (with_reducible refine splitE (fun _ => ?_) (fun _ => ?_) <;> (try (exfalso; omega))) | (with_reducible refine splitNE (fun _ => ?_) (fun _ => ?_) <;> (try (exfalso; omega))) | (with_reducible refine splitNot ?_) | (with_reducible refine splitAnd ?_) | (with_reducible refine splitOr ?_)))
        all_goals first | exact hq | (exfalso; omega)
  · exact hc.elim

/-! ## equal lists of pairs -/
def inv_20 (t t' : Nat) (xs ys : List (Int × Int)) : LInv where
  α := Nat
  pre i := Lf (i ≤ xs.length ∧ xs.length = ys.length ∧ xs.take i = ys.take i)
  st i := ⟨mkT [(0, .lst t (cellsPM xs) xs.length 2), (1, .lst t' (cellsPM ys) ys.length 2), (12, .int .i64 xs.length), (13, .int .i64 i)], []⟩
  mu i := xs.length - i
noncomputable def env_20 (hv : Nat → Option Pa) (hb : Nat → Option Bool) (t t' : Nat) (xs ys : List (Int × Int)) : Env := e24 sm0 (fun i => bif Nat.beq i 20000 then some (fun _ => [[inv_20 t t' xs ys]]) else none) hv hb
noncomputable def goal_20 (hv : Nat → Option Pa) (hb : Nat → Option Bool) (t t' : Nat) (xs ys : List (Int × Int)) (Q : Out → List Blk → Gh → Prop) : Prop :=
  callx (env_20 hv hb t t' xs ys) (wpx (env_20 hv hb t t' xs ys) 1000) 20 [.lst t (cellsPM xs) xs.length 2, .lst t' (cellsPM ys) ys.length 2] [] {} Q
theorem vc_20 (t : Nat) (t' : Nat) (xs : List (Int × Int)) (ys : List (Int × Int)) (Q : Out → List Blk → Gh → Prop) : goal_20 (lookV [(81927, .int .i64), (81929, .int .i64), (81932, .int .i64), (81935, .int .i64), (81939, .agg [.int .i64, .int .i64]), (81943, .agg [.int .i64, .int .i64]), (81945, .int .i64)]) (lookB []) t t' xs ys Q = (
(∃ n_0 : Int, (((AV.int IntKind.i64 (Nat.cast (List.length xs) : Int)) = (AV.int IntKind.i64 n_0)) ∧
 (∃ n_1 : Int, (((AV.int IntKind.i64 (Nat.cast (List.length ys) : Int)) = (AV.int IntKind.i64 n_1)) ∧
 (bif (n_0 != n_1) then (Q (Out.ret (AV.bool Bool.false)) [] (Gh.mk (0 : Nat) (0 : Nat) []))
else (∃ n_2 : Int, (((AV.int IntKind.i64 (Nat.cast (List.length xs) : Int)) = (AV.int IntKind.i64 n_2)) ∧
 ((∃ x_3 : Nat, ((Lf ((x_3 ≤ (List.length xs)) ∧
 (((List.length xs) = (List.length ys)) ∧
 ((List.take x_3 xs) = (List.take x_3 ys))))) ∧
 (((AV.lst t (cellsPM xs) (List.length xs) (2 : Nat)) = (AV.lst t (cellsPM xs) (List.length xs) (2 : Nat))) ∧
 (((AV.lst t' (cellsPM ys) (List.length ys) (2 : Nat)) = (AV.lst t' (cellsPM ys) (List.length ys) (2 : Nat))) ∧
 (((AV.int IntKind.i64 (0 : Int)) = (AV.int IntKind.i64 (Nat.cast x_3 : Int))) ∧
 (((AV.int IntKind.i64 n_2) = (AV.int IntKind.i64 (Nat.cast (List.length xs) : Int))) ∧
 True)))))) ∧
 (∀ x_3 : Nat, ((Lf ((x_3 ≤ (List.length xs)) ∧
 (((List.length xs) = (List.length ys)) ∧
 ((List.take x_3 xs) = (List.take x_3 ys))))) →
(bif (decide ((Nat.cast x_3 : Int) < (Nat.cast (List.length xs) : Int))) then (∃ n_4 : Int, (((AV.int IntKind.i64 (Nat.cast x_3 : Int)) = (AV.int IntKind.i64 n_4)) ∧
 (bif (((decide ((0 : Int) ≤ n_4)) && (Nat.blt (Int.toNat n_4) (List.length xs))) && Bool.true) then (bif (Nat.ble (((Int.toNat n_4) * (2 : Nat)) + (2 : Nat)) (List.length (cellsPM xs))) then (∃ n_5 : Int, (∃ n_6 : Int, (((AV.agg (List.take (2 : Nat) (List.drop ((Int.toNat n_4) * (2 : Nat)) (cellsPM xs)))) = (AV.agg ((AV.int IntKind.i64 n_5) :: ((AV.int IntKind.i64 n_6) :: [])))) ∧
 (bif (((decide ((0 : Int) ≤ n_4)) && (Nat.blt (Int.toNat n_4) (List.length ys))) && Bool.true) then (bif (Nat.ble (((Int.toNat n_4) * (2 : Nat)) + (2 : Nat)) (List.length (cellsPM ys))) then (∃ n_7 : Int, (∃ n_8 : Int, (((AV.agg (List.take (2 : Nat) (List.drop ((Int.toNat n_4) * (2 : Nat)) (cellsPM ys)))) = (AV.agg ((AV.int IntKind.i64 n_7) :: ((AV.int IntKind.i64 n_8) :: [])))) ∧
 (bif (!((n_5 == n_7) && ((n_6 == n_8) && Bool.true))) then (Q (Out.ret (AV.bool Bool.false)) [] (Gh.mk (0 : Nat) (0 : Nat) []))
else (∃ n_9 : Int, (((AV.int IntKind.i64 (IntKind.wrap IntKind.i64 ((Nat.cast x_3 : Int) + (1 : Int)))) = (AV.int IntKind.i64 n_9)) ∧
 ((True ∧
 ((0 : Nat) = (0 : Nat))) ∧
 (∃ y_10 : Nat, ((Lf ((y_10 ≤ (List.length xs)) ∧
 (((List.length xs) = (List.length ys)) ∧
 ((List.take y_10 xs) = (List.take y_10 ys))))) ∧
 ((((List.length xs) - y_10) < ((List.length xs) - x_3)) ∧
 (((AV.lst t (cellsPM xs) (List.length xs) (2 : Nat)) = (AV.lst t (cellsPM xs) (List.length xs) (2 : Nat))) ∧
 (((AV.lst t' (cellsPM ys) (List.length ys) (2 : Nat)) = (AV.lst t' (cellsPM ys) (List.length ys) (2 : Nat))) ∧
 (((AV.int IntKind.i64 n_9) = (AV.int IntKind.i64 (Nat.cast y_10 : Int))) ∧
 (((AV.int IntKind.i64 (Nat.cast (List.length xs) : Int)) = (AV.int IntKind.i64 (Nat.cast (List.length xs) : Int))) ∧
 True))))))))))))))
else False)
else False))))
else False)
else False)))
else (Q (Out.ret (AV.bool Bool.true)) [] (Gh.mk (0 : Nat) (0 : Nat) [])))))))))))))) := by kernel_rfl

theorem getD_pair (ps : List (Int × Int)) (i : Nat) : ps.getD i (0, 0) = (fstM ps i, sndM ps i) := rfl
theorem equalP_run (t t' : Nat) (xs ys : List (Int × Int)) (Q : Out → List Blk → Gh → Prop) (hx : xs.length ≤ 2305843009213693952) (hy : ys.length ≤ 2305843009213693952) (hq : Q (.ret (.bool (decide (xs = ys)))) [] {}) : ∃ hv hb, goal_20 hv hb t t' xs ys Q := by
  obtain ⟨hv, hb', e⟩ : ∃ hv hb, goal_20 hv hb t t' xs ys Q = _ := ⟨_, _, vc_20 t t' xs ys Q⟩
  refine ⟨hv, hb', e.mpr ?_⟩
  clear e
  have lx := cellsPM_len xs
  have ly := cellsPM_len ys
  (repeat' (first | (with_reducible refine trivial) | ((guard_target = False); omega) | (((with_reducible refine wrapI ?_ ?_ ?_)); (focus (omega)); (focus (omega))) | ((fail_if_success (with_reducible refine wrapI ?_ ?_ ?_)); (with_reducible refine ⟨_, rfl, ?_⟩)) | (((with_reducible refine wrapU8 ?_ ?_ ?_)); (focus (omega)); (focus (omega))) | (((with_reducible refine ckI ?_ ?_)); (focus (first | (simp only [Bool.and_eq_true, Bool.and_true, Bool.true_and, decide_eq_true_eq, blt_iff, Nat.ble_eq, nbeq, cellsI_len,  List.length_append, List.length_cons, List.length_nil, Int.toNat_natCast, and_true, true_and, Bool.or_eq_true, Bool.not_eq_true', bne_iff_ne, ne_eq]; done) | (simp only [Bool.and_eq_true, Bool.and_true, Bool.true_and, decide_eq_true_eq, blt_iff, Nat.ble_eq, nbeq, cellsI_len,  List.length_append, List.length_cons, List.length_nil, Int.toNat_natCast, and_true, true_and, Bool.or_eq_true, Bool.not_eq_true', bne_iff_ne, ne_eq]; omega) | rfl | (simp; done) | (simp; omega)))) | (with_reducible refine splitD (fun _ => ?_) (fun _ => ?_) <;> (try (exfalso; omega))) | (with_reducible refine splitE (fun _ => ?_) (fun _ => ?_) <;> (try (exfalso; omega))) | (with_reducible refine splitNE (fun _ => ?_) (fun _ => ?_) <;> (try (exfalso; omega))) | (with_reducible refine splitNot ?_) | (with_reducible refine splitAnd ?_) | (with_reducible refine splitOr ?_)))
  · rename_i h
    rw [decide_eq_false (by intro e; rw [e] at h; exact h rfl)] at hq
    exact hq
  · rename_i h
    have hl : xs.length = ys.length := by omega
    refine ⟨⟨0, ⟨by omega, hl, by simp⟩, by simp⟩, ?_⟩
    rintro i ⟨h1, h2, h3⟩
    refine splitD (fun hlt => ?_) (fun hge => ?_)
    · (repeat' (first | (with_reducible refine trivial) | ((guard_target = False); omega) | (((with_reducible refine wrapI ?_ ?_ ?_)); (focus (omega)); (focus (omega))) | ((fail_if_success (with_reducible refine wrapI ?_ ?_ ?_)); (with_reducible refine ⟨_, rfl, ?_⟩)) | (((with_reducible refine wrapU8 ?_ ?_ ?_)); (focus (omega)); (focus (omega))) | (((with_reducible refine ckI ?_ ?_)); (focus (first | (simp only [Bool.and_eq_true, Bool.and_true, Bool.true_and, decide_eq_true_eq, blt_iff, Nat.ble_eq, nbeq, cellsI_len, lx, ly, List.length_append, List.length_cons, List.length_nil, Int.toNat_natCast, and_true, true_and, Bool.or_eq_true, Bool.not_eq_true', bne_iff_ne, ne_eq]; done) | (simp only [Bool.and_eq_true, Bool.and_true, Bool.true_and, decide_eq_true_eq, blt_iff, Nat.ble_eq, nbeq, cellsI_len, lx, ly, List.length_append, List.length_cons, List.length_nil, Int.toNat_natCast, and_true, true_and, Bool.or_eq_true, Bool.not_eq_true', bne_iff_ne, ne_eq]; omega) | rfl | (simp; done) | (simp; omega)))) | (with_reducible refine splitD (fun _ => ?_) (fun _ => ?_) <;> (try (exfalso; omega))) | (with_reducible refine splitE (fun _ => ?_) (fun _ => ?_) <;> (try (exfalso; omega))) | (with_reducible refine splitNE (fun _ => ?_) (fun _ => ?_) <;> (try (exfalso; omega))) | (with_reducible refine splitNot ?_) | (with_reducible refine splitAnd ?_) | (with_reducible refine splitOr ?_)))
      refine aggP (i := i) (by omega) (by omega) ?_
      (repeat' (first | (with_reducible refine trivial) | ((guard_target = False); omega) | (((with_reducible refine wrapI ?_ ?_ ?_)); (focus (omega)); (focus (omega))) | ((fail_if_success (with_reducible refine wrapI ?_ ?_ ?_)); (with_reducible refine ⟨_, rfl, ?_⟩)) | (((with_reducible refine wrapU8 ?_ ?_ ?_)); (focus (omega)); (focus (omega))) | (((with_reducible refine ckI ?_ ?_)); (focus (first | (simp only [Bool.and_eq_true, Bool.and_true, Bool.true_and, decide_eq_true_eq, blt_iff, Nat.ble_eq, nbeq, cellsI_len, lx, ly, List.length_append, List.length_cons, List.length_nil, Int.toNat_natCast, and_true, true_and, Bool.or_eq_true, Bool.not_eq_true', bne_iff_ne, ne_eq]; done) | (simp only [Bool.and_eq_true, Bool.and_true, Bool.true_and, decide_eq_true_eq, blt_iff, Nat.ble_eq, nbeq, cellsI_len, lx, ly, List.length_append, List.length_cons, List.length_nil, Int.toNat_natCast, and_true, true_and, Bool.or_eq_true, Bool.not_eq_true', bne_iff_ne, ne_eq]; omega) | rfl | (simp; done) | (simp; omega)))) | (with_reducible refine splitD (fun _ => ?_) (fun _ => ?_) <;> (try (exfalso; omega))) | (with_reducible refine splitE (fun _ => ?_) (fun _ => ?_) <;> (try (exfalso; omega))) | (with_reducible refine splitNE (fun _ => ?_) (fun _ => ?_) <;> (try (exfalso; omega))) | (with_reducible refine splitNot ?_) | (with_reducible refine splitAnd ?_) | (with_reducible refine splitOr ?_)))
      refine aggP (i := i) (by omega) (by omega) ?_
      (repeat' (first | (with_reducible refine trivial) | ((guard_target = False); omega) | (((with_reducible refine wrapI ?_ ?_ ?_)); (focus (omega)); (focus (omega))) | ((fail_if_success (with_reducible refine wrapI ?_ ?_ ?_)); (with_reducible refine ⟨_, rfl, ?_⟩)) | (((with_reducible refine wrapU8 ?_ ?_ ?_)); (focus (omega)); (focus (omega))) | (((with_reducible refine ckI ?_ ?_)); (focus (first | (simp only [Bool.and_eq_true, Bool.and_true, Bool.true_and, decide_eq_true_eq, blt_iff, Nat.ble_eq, nbeq, cellsI_len, lx, ly, List.length_append, List.length_cons, List.length_nil, Int.toNat_natCast, and_true, true_and, Bool.or_eq_true, Bool.not_eq_true', bne_iff_ne, ne_eq]; done) | (simp only [Bool.and_eq_true, Bool.and_true, Bool.true_and, decide_eq_true_eq, blt_iff, Nat.ble_eq, nbeq, cellsI_len, lx, ly, List.length_append, List.length_cons, List.length_nil, Int.toNat_natCast, and_true, true_and, Bool.or_eq_true, Bool.not_eq_true', bne_iff_ne, ne_eq]; omega) | rfl | (simp; done) | (simp; omega)))) | (with_reducible refine splitD (fun _ => ?_) (fun _ => ?_) <;> (try (exfalso; omega))) | (with_reducible refine splitE (fun _ => ?_) (fun _ => ?_) <;> (try (exfalso; omega))) | (with_reducible refine splitNE (fun _ => ?_) (fun _ => ?_) <;> (try (exfalso; omega))) | (with_reducible refine splitNot ?_) | (with_reducible refine splitAnd ?_) | (with_reducible refine splitOr ?_)))
      · rename_i e1 e2
        refine splitI (fun _ => ?_) (fun h => by cases h)
        (repeat' (first | (with_reducible refine trivial) | ((guard_target = False); omega) | (((with_reducible refine wrapI ?_ ?_ ?_)); (focus (omega)); (focus (omega))) | ((fail_if_success (with_reducible refine wrapI ?_ ?_ ?_)); (with_reducible refine ⟨_, rfl, ?_⟩)) | (((with_reducible refine wrapU8 ?_ ?_ ?_)); (focus (omega)); (focus (omega))) | (((with_reducible refine ckI ?_ ?_)); (focus (first | (simp only [Bool.and_eq_true, Bool.and_true, Bool.true_and, decide_eq_true_eq, blt_iff, Nat.ble_eq, nbeq, cellsI_len,  List.length_append, List.length_cons, List.length_nil, Int.toNat_natCast, and_true, true_and, Bool.or_eq_true, Bool.not_eq_true', bne_iff_ne, ne_eq]; done) | (simp only [Bool.and_eq_true, Bool.and_true, Bool.true_and, decide_eq_true_eq, blt_iff, Nat.ble_eq, nbeq, cellsI_len,  List.length_append, List.length_cons, List.length_nil, Int.toNat_natCast, and_true, true_and, Bool.or_eq_true, Bool.not_eq_true', bne_iff_ne, ne_eq]; omega) | rfl | (simp; done) | (simp; omega)))) | (with_reducible refine splitD (fun _ => ?_) (fun _ => ?_) <;> (try (exfalso; omega))) | (with_reducible refine splitE (fun _ => ?_) (fun _ => ?_) <;> (try (exfalso; omega))) | (with_reducible refine splitNE (fun _ => ?_) (fun _ => ?_) <;> (try (exfalso; omega))) | (with_reducible refine splitNot ?_) | (with_reducible refine splitAnd ?_) | (with_reducible refine splitOr ?_)))
        refine ⟨⟨trivial, by trivial⟩, i + 1, ⟨by omega, h2, ?_⟩, by omega, by simp⟩
        rw [take_snocD xs (0, 0) (by omega), take_snocD ys (0, 0) (by omega), h3, getD_pair, getD_pair, e1, e2]
      · rename_i e1 e2
        rw [decide_eq_false (by intro e; rw [e] at e2; exact e2 rfl)] at hq
        exact hq
      · rename_i e1
        rw [decide_eq_false (by intro e; rw [e] at e1; exact e1 rfl)] at hq
        exact hq
    · have e1 : xs.take i = xs := List.take_of_length_le (by omega)
      have e2 : ys.take i = ys := List.take_of_length_le (by omega)
      rw [decide_eq_true (by rw [← e1, h3, e2])] at hq
      exact hq
def cEqualP : Con
  | [.lst _ l n 2, .lst _ l' n' 2], H, K => ∃ xs ys : List (Int × Int), Lf (l = cellsPM xs ∧ n = xs.length ∧ xs.length ≤ 2305843009213693952 ∧ l' = cellsPM ys ∧ n' = ys.length ∧ ys.length ≤ 2305843009213693952) ∧ K (.ret (.bool (decide (xs = ys)))) H
  | _, _, _ => False
theorem equalP_raw : ValidF Tryd.prog glC 20 cEqualP := by
  refine valid_flat (enters_of (by kernel_rfl)) glC_noY fun args H Q hc => ?_
  unfold cEqualP at hc
  split at hc
  · rename_i t l n t' l' n'
    obtain ⟨xs, ys, ⟨rfl, rfl, hl, rfl, rfl, hl'⟩, hq⟩ := hc
    obtain ⟨hv, hb', h⟩ := equalP_run t t' xs ys (hx := hl) (hy := hl') (Q := fun o H' _ => H' = [] ∧ (∃ v, o = .ret v ∧ old 0 v = true ∧ noY v = true) ∧ Q o H) ⟨rfl, ⟨_, rfl, rfl, rfl⟩, hq⟩
    exact ⟨rfl, rfl, _, 1000, envFor24 sm0_ok _ _ _, rfl, h⟩
  · exact hc.elim
def cEqualPV : Con := fun args H Q => lendL [2, 2] H args fun a => cEqualP a H Q
theorem equalP_ok : ValidF Tryd.prog glC 20 cEqualPV := valid_view equalP_raw glC_noY [2, 2] fun args H Q hc => by
  unfold cEqualP at hc
  split at hc
  · obtain ⟨xs, ys, h, hq⟩ := hc
    exact ⟨xs, ys, h, rfl, ⟨_, rfl, rfl⟩, hq⟩
  · exact hc.elim
end Go.Proofs.YtafchcmemeinlaaDoor

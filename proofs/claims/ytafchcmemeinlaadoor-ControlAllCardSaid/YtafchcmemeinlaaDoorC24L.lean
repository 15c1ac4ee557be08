/-
  Chapter 24: ControlAll without steps.
-/
import Derived.Test.YtafchcmemeinlaaDoorC24K
set_option linter.unusedSimpArgs false
set_option linter.unusedVariables false
namespace Go.Proofs.YtafchcmemeinlaaDoor
open Go.RowKit
set_option maxRecDepth 1000000

theorem cellsPM_get : ∀ (ps : List (Int × Int)) (i : Nat), i < ps.length → (cellsPM ps)[2 * i]? = some (.int .i64 (fstM ps i)) ∧ (cellsPM ps)[2 * i + 1]? = some (.int .i64 (sndM ps i))
  | [], i, h => by simp at h
  | p :: ps, 0, _ => ⟨rfl, rfl⟩
  | p :: ps, i + 1, h => by
    have := cellsPM_get ps i (by simpa using h)
    simpa [cellsPM, fstM, sndM, Nat.mul_add] using this
theorem aggP {ps : List (Int × Int)} {i j : Nat} (hi : i < ps.length) (hj : j = 2 * i) {K : Int → Int → Prop} (hk : K (fstM ps i) (sndM ps i)) :
    ∃ a : Int, ∃ b : Int, AV.agg (List.take 2 (List.drop j (cellsPM ps))) = AV.agg (AV.int .i64 a :: AV.int .i64 b :: []) ∧ K a b := by
  obtain ⟨h1, h2⟩ := cellsPM_get ps i hi
  refine ⟨_, _, ?_, hk⟩
  subst hj
  have hl := cellsPM_len ps
  rw [List.drop_eq_getElem_cons (by omega), List.drop_eq_getElem_cons (by omega)]
  rw [List.getElem?_eq_getElem (by omega)] at h1 h2
  simp only [List.take_succ_cons, List.take_zero, Option.some.inj h1, Option.some.inj h2]
theorem getP0 {ps : List (Int × Int)} {i j : Nat} (hi : i < ps.length) (hj : j = 2 * i) {K : Int → Prop} (hk : K (fstM ps i)) : ∃ n : Int, (cellsPM ps).getD j AV.undef = AV.int .i64 n ∧ K n := by
  refine ⟨_, ?_, hk⟩
  rw [hj, List.getD_eq_getElem?_getD, (cellsPM_get ps i hi).1]
  rfl
theorem bitI {m : Int} {k j : Nat} (hm : 0 ≤ m ∧ m ≤ 65535) (hj : j = k) (hk : k ≤ 15) {K : Int → Prop} (h : K (m / 2 ^ k % 2)) :
    ∃ z : Int, AV.int .i64 (IntKind.wrap .i64 (((Int.fdiv m (2 ^ min j 64) % 18446744073709551616).toNat &&& 1 : Nat) : Int)) = AV.int .i64 z ∧ K z := by
  subst hj
  have hp : 0 < (2 : Int) ^ j := Int.pow_pos (by omega)
  rw [Nat.min_eq_left (by omega), Int.fdiv_eq_ediv_of_nonneg _ (by omega)]
  have h1 : 0 ≤ m / 2 ^ j := Int.ediv_nonneg hm.1 (by omega)
  have h2 : m / 2 ^ j ≤ m := Int.ediv_le_self _ hm.1
  refine ⟨_, ?_, h⟩
  have e1 : ((m / 2 ^ j) % 18446744073709551616).toNat &&& 1 = ((m / 2 ^ j) % 18446744073709551616).toNat % 2 := Nat.and_one_is_mod _
  have e2 : IntKind.wrap .i64 ((((m / 2 ^ j) % 18446744073709551616).toNat % 2 : Nat) : Int) = m / 2 ^ j % 2 := by
    rw [IntKind.wrap_i64]
    generalize m / 2 ^ j = q at *
    omega
  rw [e1, e2]
theorem lendI (τ : Nat) (H : List Blk) (d : Nat) (xs : List Int) {n : Nat} (hn : n = xs.length) : List.map (fun x => frzV τ H (d + 1) x) (List.take (n * 1) (List.drop 0 (cellsI xs))) = cellsI xs := by
  subst hn
  rw [List.drop_zero, List.take_of_length_le (by rw [cellsI_len]; omega)]
  exact frzL_cellsI τ H d xs
theorem decM_len (b m : Int) (k : Nat) : 1 ≤ (decM b m k).length ∧ (decM b m k).length ≤ k + 1 := by
  induction k with
  | zero => simp [decM, bitsM]
  | succ k ih =>
    simp only [decM, bitsM, List.length_cons, List.length_append] at ih ⊢
    split <;> simp <;> omega
theorem decM_succ (b m : Int) (k : Nat) : decM b m (k + 1) = decM b m k ++ if m / 2 ^ k % 2 = 1 then [(b + 1 + k) % 65536] else [] := rfl
theorem cellsI_app (a b : List Int) : cellsI a ++ cellsI b = cellsI (a ++ b) := by simp [cellsI]
theorem fst_all {ps : List (Int × Int)} (h : 0 < ps.length) : allM (ps.take 1) = decM (fstM ps 0) (sndM ps 0) 16 := by
  cases ps with
  | nil => simp at h
  | cons p ps => simp [allM, fstM, sndM]
theorem take_all {ps : List (Int × Int)} {i : Nat} (h : i < ps.length) : allM (ps.take (i + 1)) = allM (ps.take i) ++ decM (fstM ps i) (sndM ps i) 16 := by
  rw [take_snocD ps (0, 0) h, allM_snoc]; rfl

theorem all_run_a (f : Int) (hf : 0 ≤ f ∧ f ≤ 65535) : ∃ hv hb, goal_6a hv hb f (pairsM [f]) := by
  have hn : nacksM [f] = true := nacks_lM (ks := []) hf (by simp)
  have hE : pairsEM [f] = pairsM [f] := by simp [pairsEM, hn]
  have hN : pairsNM [f] = 0 := by simp [pairsNM, hn]
  have hall := all_pairs hn
  obtain ⟨far, l1, l2⟩ := far_pairs hn
  generalize hps : pairsM [f] = ps at *
  obtain ⟨hv, hb', e⟩ : ∃ hv hb, goal_6a hv hb f ps = _ := ⟨_, _, vc_6a f ps⟩
  refine ⟨hv, hb', e.mpr ?_⟩
  clear e
  have hlen := cellsPM_len ps
  refine wrapI (by omega) (by omega) ⟨[f], ⟨rfl, rfl, by simp⟩, ?_⟩
  simp only [hE, hN]
  have l3 : ps.length ≤ 1 := l2
  (repeat' (first | (with_reducible refine trivial) | ((guard_target = False); omega) | (((with_reducible refine wrapI ?_ ?_ ?_)); (focus (omega)); (focus (omega))) | ((fail_if_success (with_reducible refine wrapI ?_ ?_ ?_)); (with_reducible refine ⟨_, rfl, ?_⟩)) | (((with_reducible refine wrapU8 ?_ ?_ ?_)); (focus (omega)); (focus (omega))) | (((with_reducible refine ckI ?_ ?_)); (focus (first | (simp only [Bool.and_eq_true, Bool.and_true, Bool.true_and, decide_eq_true_eq, blt_iff, Nat.ble_eq, nbeq, cellsI_len,  List.length_append, List.length_cons, List.length_nil, Int.toNat_natCast, and_true, true_and, Bool.or_eq_true, Bool.not_eq_true', bne_iff_ne, ne_eq]; done) | (simp only [Bool.and_eq_true, Bool.and_true, Bool.true_and, decide_eq_true_eq, blt_iff, Nat.ble_eq, nbeq, cellsI_len,  List.length_append, List.length_cons, List.length_nil, Int.toNat_natCast, and_true, true_and, Bool.or_eq_true, Bool.not_eq_true', bne_iff_ne, ne_eq]; omega) | rfl | (simp; done) | (simp; omega)))) | (with_reducible refine splitD (fun _ => ?_) (fun _ => ?_) <;> (try (exfalso; omega))) | (with_reducible refine splitE (fun _ => ?_) (fun _ => ?_) <;> (try (exfalso; omega))) | (with_reducible refine splitNE (fun _ => ?_) (fun _ => ?_) <;> (try (exfalso; omega))) | (with_reducible refine splitNot ?_) | (with_reducible refine splitAnd ?_) | (with_reducible refine splitOr ?_)))
  refine ⟨.inl ⟨0, ⟨trivial⟩, by simp⟩, ?_, ?_⟩
  · intro _ _
    have f0 : (0 ≤ fstM ps 0 ∧ fstM ps 0 ≤ 65535) ∧ (0 ≤ sndM ps 0 ∧ sndM ps 0 ≤ 65535) := ⟨(far 0 (by omega)).1, (far 0 (by omega)).2.1⟩
    refine splitD (fun _ => ?_) (fun h => by omega)
    (repeat' (first | (with_reducible refine trivial) | ((guard_target = False); omega) | (((with_reducible refine wrapI ?_ ?_ ?_)); (focus (omega)); (focus (omega))) | ((fail_if_success (with_reducible refine wrapI ?_ ?_ ?_)); (with_reducible refine ⟨_, rfl, ?_⟩)) | (((with_reducible refine wrapU8 ?_ ?_ ?_)); (focus (omega)); (focus (omega))) | (((with_reducible refine ckI ?_ ?_)); (focus (first | (simp only [Bool.and_eq_true, Bool.and_true, Bool.true_and, decide_eq_true_eq, blt_iff, Nat.ble_eq, nbeq, cellsI_len,  List.length_append, List.length_cons, List.length_nil, Int.toNat_natCast, and_true, true_and, Bool.or_eq_true, Bool.not_eq_true', bne_iff_ne, ne_eq]; done) | (simp only [Bool.and_eq_true, Bool.and_true, Bool.true_and, decide_eq_true_eq, blt_iff, Nat.ble_eq, nbeq, cellsI_len,  List.length_append, List.length_cons, List.length_nil, Int.toNat_natCast, and_true, true_and, Bool.or_eq_true, Bool.not_eq_true', bne_iff_ne, ne_eq]; omega) | rfl | (simp; done) | (simp; omega)))) | (with_reducible refine splitD (fun _ => ?_) (fun _ => ?_) <;> (try (exfalso; omega))) | (with_reducible refine splitE (fun _ => ?_) (fun _ => ?_) <;> (try (exfalso; omega))) | (with_reducible refine splitNE (fun _ => ?_) (fun _ => ?_) <;> (try (exfalso; omega))) | (with_reducible refine splitNot ?_) | (with_reducible refine splitAnd ?_) | (with_reducible refine splitOr ?_)))
    refine aggP (i := 0) (by omega) rfl ?_
    (repeat' (first | (with_reducible refine trivial) | ((guard_target = False); omega) | (((with_reducible refine wrapI ?_ ?_ ?_)); (focus (omega)); (focus (omega))) | ((fail_if_success (with_reducible refine wrapI ?_ ?_ ?_)); (with_reducible refine ⟨_, rfl, ?_⟩)) | (((with_reducible refine wrapU8 ?_ ?_ ?_)); (focus (omega)); (focus (omega))) | (((with_reducible refine ckI ?_ ?_)); (focus (first | (simp only [Bool.and_eq_true, Bool.and_true, Bool.true_and, decide_eq_true_eq, blt_iff, Nat.ble_eq, nbeq, cellsI_len,  List.length_append, List.length_cons, List.length_nil, Int.toNat_natCast, and_true, true_and, Bool.or_eq_true, Bool.not_eq_true', bne_iff_ne, ne_eq]; done) | (simp only [Bool.and_eq_true, Bool.and_true, Bool.true_and, decide_eq_true_eq, blt_iff, Nat.ble_eq, nbeq, cellsI_len,  List.length_append, List.length_cons, List.length_nil, Int.toNat_natCast, and_true, true_and, Bool.or_eq_true, Bool.not_eq_true', bne_iff_ne, ne_eq]; omega) | rfl | (simp; done) | (simp; omega)))) | (with_reducible refine splitD (fun _ => ?_) (fun _ => ?_) <;> (try (exfalso; omega))) | (with_reducible refine splitE (fun _ => ?_) (fun _ => ?_) <;> (try (exfalso; omega))) | (with_reducible refine splitNE (fun _ => ?_) (fun _ => ?_) <;> (try (exfalso; omega))) | (with_reducible refine splitNot ?_) | (with_reducible refine splitAnd ?_) | (with_reducible refine splitOr ?_)))
    · refine ⟨⟨0, ⟨by omega⟩, by simp [decM, bitsM, cellsI]⟩, ?_⟩
      · rintro k ⟨hk⟩
        have hdl := decM_len (fstM ps 0) (sndM ps 0) k
        have hs := decM_succ (fstM ps 0) (sndM ps 0) k
        refine splitD (fun hk2 => ?_) (fun hk2 => ?_)
        · (repeat' (first | (with_reducible refine trivial) | ((guard_target = False); omega) | (((with_reducible refine wrapI ?_ ?_ ?_)); (focus (omega)); (focus (omega))) | ((fail_if_success (with_reducible refine wrapI ?_ ?_ ?_)); (with_reducible refine ⟨_, rfl, ?_⟩)) | (((with_reducible refine wrapU8 ?_ ?_ ?_)); (focus (omega)); (focus (omega))) | (((with_reducible refine ckI ?_ ?_)); (focus (first | (simp only [Bool.and_eq_true, Bool.and_true, Bool.true_and, decide_eq_true_eq, blt_iff, Nat.ble_eq, nbeq, cellsI_len,  List.length_append, List.length_cons, List.length_nil, Int.toNat_natCast, and_true, true_and, Bool.or_eq_true, Bool.not_eq_true', bne_iff_ne, ne_eq]; done) | (simp only [Bool.and_eq_true, Bool.and_true, Bool.true_and, decide_eq_true_eq, blt_iff, Nat.ble_eq, nbeq, cellsI_len,  List.length_append, List.length_cons, List.length_nil, Int.toNat_natCast, and_true, true_and, Bool.or_eq_true, Bool.not_eq_true', bne_iff_ne, ne_eq]; omega) | rfl | (simp; done) | (simp; omega)))) | (with_reducible refine splitD (fun _ => ?_) (fun _ => ?_) <;> (try (exfalso; omega))) | (with_reducible refine splitE (fun _ => ?_) (fun _ => ?_) <;> (try (exfalso; omega))) | (with_reducible refine splitNE (fun _ => ?_) (fun _ => ?_) <;> (try (exfalso; omega))) | (with_reducible refine splitNot ?_) | (with_reducible refine splitAnd ?_) | (with_reducible refine splitOr ?_)))
          refine bitI (k := k) f0.2 (by omega) (by omega) ?_
          (repeat' (first | (with_reducible refine trivial) | ((guard_target = False); omega) | (((with_reducible refine wrapI ?_ ?_ ?_)); (focus (omega)); (focus (omega))) | ((fail_if_success (with_reducible refine wrapI ?_ ?_ ?_)); (with_reducible refine ⟨_, rfl, ?_⟩)) | (((with_reducible refine wrapU8 ?_ ?_ ?_)); (focus (omega)); (focus (omega))) | (((with_reducible refine ckI ?_ ?_)); (focus (first | (simp only [Bool.and_eq_true, Bool.and_true, Bool.true_and, decide_eq_true_eq, blt_iff, Nat.ble_eq, nbeq, cellsI_len,  List.length_append, List.length_cons, List.length_nil, Int.toNat_natCast, and_true, true_and, Bool.or_eq_true, Bool.not_eq_true', bne_iff_ne, ne_eq]; done) | (simp only [Bool.and_eq_true, Bool.and_true, Bool.true_and, decide_eq_true_eq, blt_iff, Nat.ble_eq, nbeq, cellsI_len,  List.length_append, List.length_cons, List.length_nil, Int.toNat_natCast, and_true, true_and, Bool.or_eq_true, Bool.not_eq_true', bne_iff_ne, ne_eq]; omega) | rfl | (simp; done) | (simp; omega)))) | (with_reducible refine splitD (fun _ => ?_) (fun _ => ?_) <;> (try (exfalso; omega))) | (with_reducible refine splitE (fun _ => ?_) (fun _ => ?_) <;> (try (exfalso; omega))) | (with_reducible refine splitNE (fun _ => ?_) (fun _ => ?_) <;> (try (exfalso; omega))) | (with_reducible refine splitNot ?_) | (with_reducible refine splitAnd ?_) | (with_reducible refine splitOr ?_)))
          · rename_i hbit
            rw [if_pos hbit] at hs
            have em : (fstM ps 0 + 1 + (k : Int)).tmod 65536 = (fstM ps 0 + 1 + k) % 65536 := Int.tmod_eq_emod_of_nonneg (by omega)
            rw [em]
            refine ⟨⟨trivial, by trivial⟩, k + 1, ⟨by omega⟩, by omega, ?_⟩
            rw [hs]
            simp [cellsI]
          · rename_i hbit
            rw [if_neg hbit, List.append_nil] at hs
            refine ⟨⟨trivial, by trivial⟩, k + 1, ⟨by omega⟩, by omega, ?_⟩
            rw [hs]
            simp
        · obtain rfl : k = 16 := by omega
          (repeat' (first | (with_reducible refine trivial) | ((guard_target = False); omega) | (((with_reducible refine wrapI ?_ ?_ ?_)); (focus (omega)); (focus (omega))) | ((fail_if_success (with_reducible refine wrapI ?_ ?_ ?_)); (with_reducible refine ⟨_, rfl, ?_⟩)) | (((with_reducible refine wrapU8 ?_ ?_ ?_)); (focus (omega)); (focus (omega))) | (((with_reducible refine ckI ?_ ?_)); (focus (first | (simp only [Bool.and_eq_true, Bool.and_true, Bool.true_and, decide_eq_true_eq, blt_iff, Nat.ble_eq, nbeq, cellsI_len,  List.length_append, List.length_cons, List.length_nil, Int.toNat_natCast, and_true, true_and, Bool.or_eq_true, Bool.not_eq_true', bne_iff_ne, ne_eq]; done) | (simp only [Bool.and_eq_true, Bool.and_true, Bool.true_and, decide_eq_true_eq, blt_iff, Nat.ble_eq, nbeq, cellsI_len,  List.length_append, List.length_cons, List.length_nil, Int.toNat_natCast, and_true, true_and, Bool.or_eq_true, Bool.not_eq_true', bne_iff_ne, ne_eq]; omega) | rfl | (simp; done) | (simp; omega)))) | (with_reducible refine splitD (fun _ => ?_) (fun _ => ?_) <;> (try (exfalso; omega))) | (with_reducible refine splitE (fun _ => ?_) (fun _ => ?_) <;> (try (exfalso; omega))) | (with_reducible refine splitNE (fun _ => ?_) (fun _ => ?_) <;> (try (exfalso; omega))) | (with_reducible refine splitNot ?_) | (with_reducible refine splitAnd ?_) | (with_reducible refine splitOr ?_)))
          refine ⟨⟨trivial, by trivial⟩, .inr ⟨1, ⟨by omega⟩, by omega, ?_⟩⟩
          rw [fst_all (by omega)]
          simp
  · rintro i ⟨h1, h2⟩
    obtain rfl : i = 1 := by omega
    refine splitD (fun h => by omega) (fun h => ?_)
    have ht : ps.take 1 = ps := List.take_of_length_le (by omega)
    rw [ht, hall]
    (repeat' (first | (with_reducible refine trivial) | ((guard_target = False); omega) | (((with_reducible refine wrapI ?_ ?_ ?_)); (focus (omega)); (focus (omega))) | ((fail_if_success (with_reducible refine wrapI ?_ ?_ ?_)); (with_reducible refine ⟨_, rfl, ?_⟩)) | (((with_reducible refine wrapU8 ?_ ?_ ?_)); (focus (omega)); (focus (omega))) | (((with_reducible refine ckI ?_ ?_)); (focus (first | (simp only [Bool.and_eq_true, Bool.and_true, Bool.true_and, decide_eq_true_eq, blt_iff, Nat.ble_eq, nbeq, cellsI_len,  List.length_append, List.length_cons, List.length_nil, Int.toNat_natCast, and_true, true_and, Bool.or_eq_true, Bool.not_eq_true', bne_iff_ne, ne_eq]; done) | (simp only [Bool.and_eq_true, Bool.and_true, Bool.true_and, decide_eq_true_eq, blt_iff, Nat.ble_eq, nbeq, cellsI_len,  List.length_append, List.length_cons, List.length_nil, Int.toNat_natCast, and_true, true_and, Bool.or_eq_true, Bool.not_eq_true', bne_iff_ne, ne_eq]; omega) | rfl | (simp; done) | (simp; omega)))) | (with_reducible refine splitD (fun _ => ?_) (fun _ => ?_) <;> (try (exfalso; omega))) | (with_reducible refine splitE (fun _ => ?_) (fun _ => ?_) <;> (try (exfalso; omega))) | (with_reducible refine splitNE (fun _ => ?_) (fun _ => ?_) <;> (try (exfalso; omega))) | (with_reducible refine splitNot ?_) | (with_reducible refine splitAnd ?_) | (with_reducible refine splitOr ?_)))
    exact ⟨[f], [f], ⟨lendI _ _ _ _ rfl, rfl, by simp, rfl, rfl, by simp⟩, by simp⟩
end Go.Proofs.YtafchcmemeinlaaDoor

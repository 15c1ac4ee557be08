/-
  Chapter 24: ControlAll with steps.
-/
import Derived.Test.YtafchcmemeinlaaDoorC24K2
import Derived.Test.YtafchcmemeinlaaDoorC24L
set_option linter.unusedSimpArgs false
set_option linter.unusedVariables false
namespace Go.Proofs.YtafchcmemeinlaaDoor
open Go.RowKit
set_option maxRecDepth 1000000

theorem cells8M_len (ks : List Int) : (cells8M ks).length = ks.length := by simp [cells8M]
theorem get8 {ks : List Int} {i j : Nat} (hi : i < ks.length) (hj : j = i) {K : Int → Prop} (hk : K (ks.getD i 0)) : ∃ n : Int, (cells8M ks).getD j AV.undef = AV.int .u8 n ∧ K n := by
  subst hj
  refine ⟨_, ?_, hk⟩
  simp [cells8M, hi]
theorem cells8_take {kk ks : List Int} {n : Nat} (h : kk.take n = ks) {m : Nat} (hm : m = ks.length) : List.take (m * 1) (List.drop 0 (cells8M kk)) = cells8M ks := by
  subst hm
  subst h
  rw [List.drop_zero, Nat.mul_one, cells8M, cells8M, ← List.map_take]
  congr 1
  rw [List.length_take, List.take_eq_take_iff]
  omega
theorem lM_take {f : Int} {ks : List Int} {i : Nat} (h : i < ks.length) : lM f (ks.take (i + 1)) = lM f (ks.take i) ++ [nextM (atM f (ks.take i)) (ks.getD i 0)] := by
  rw [take_snocD ks 0 h, lM, genM_snoc]; rfl
theorem atM_take {f : Int} {ks : List Int} {i : Nat} (h : i < ks.length) : atM f (ks.take (i + 1)) = nextM (atM f (ks.take i)) (ks.getD i 0) := by
  rw [take_snocD ks 0 h, atM_snoc]

set_option maxHeartbeats 1000000 in
theorem all_run_b (f : Int) (kk ks : List Int) (hf : 0 ≤ f ∧ f ≤ 65535) (hr : ∀ x ∈ kk, 0 ≤ x ∧ x ≤ 255) (hl : 1 ≤ kk.length) (hmax : kk.length ≤ 9223372036854775807) (hks : kk.take 63 = ks) : ∃ hv hb, goal_6b hv hb f kk ks (pairsM (lM f ks)) := by
  have hkl : ks.length = min 63 kk.length := by rw [← hks, List.length_take]
  have hn : nacksM (lM f ks) = true := nacks_lM hf (by omega)
  have hLl := lM_len f ks
  have hE : pairsEM (lM f ks) = pairsM (lM f ks) := by simp [pairsEM, hn]
  have hN : pairsNM (lM f ks) = 0 := by simp [pairsNM, hn]
  have hall := all_pairs hn
  obtain ⟨far, l1, l2⟩ := far_pairs hn
  generalize hps : pairsM (lM f ks) = ps at *
  obtain ⟨hv, hb', e⟩ : ∃ hv hb, goal_6b hv hb f kk ks ps = _ := ⟨_, _, vc_6b f kk ks ps⟩
  refine ⟨hv, hb', e.mpr ?_⟩
  clear e
  have hlen := cellsPM_len ps
  have h8 := cells8M_len ks
  have him : imin (kk.length : Int) 63 = (ks.length : Int) := by unfold imin; split <;> omega
  have hkr : ∀ i, i < ks.length → 0 ≤ ks.getD i 0 ∧ ks.getD i 0 ≤ 255 := fun i hi => by
    refine hr _ ?_
    have e1 : ks.getD i 0 = ks[i] := by simp [hi]
    rw [e1]
    exact List.mem_of_mem_take (i := 63) (by rw [hks]; exact List.getElem_mem hi)
  refine wrapI (by omega) (by omega) ⟨_, rfl, _, rfl, ?_⟩
  rw [him]
  refine ckI (by first | (simp only [Bool.and_eq_true, Bool.and_true, Bool.true_and, decide_eq_true_eq, blt_iff, Nat.ble_eq, nbeq, cellsI_len,  List.length_append, List.length_cons, List.length_nil, Int.toNat_natCast, and_true, true_and, Bool.or_eq_true, Bool.not_eq_true', bne_iff_ne, ne_eq]; done) | (simp only [Bool.and_eq_true, Bool.and_true, Bool.true_and, decide_eq_true_eq, blt_iff, Nat.ble_eq, nbeq, cellsI_len,  List.length_append, List.length_cons, List.length_nil, Int.toNat_natCast, and_true, true_and, Bool.or_eq_true, Bool.not_eq_true', bne_iff_ne, ne_eq]; omega) | rfl | (simp; done) | (simp; omega)) ⟨_, rfl, ?_⟩
  have e0 : ((ks.length : Int).toNat - 0) = ks.length := by omega
  rw [e0]
  refine ⟨.inl ⟨0, ⟨trivial⟩, by rw [cells8_take hks rfl]; simp⟩, ?_, ?_⟩
  · intro _ _
    have hk0 := hkr 0 (by omega)
    have ht : Int.tmod (ks.getD 0 0) 24 = ks.getD 0 0 % 24 := Int.tmod_eq_emod_of_nonneg (by omega)
    have hm : Int.tmod (f + 1 + ks.getD 0 0 % 24) 65536 = nextM f (ks.getD 0 0) := Int.tmod_eq_emod_of_nonneg (by omega)
    refine splitD (fun _ => ?_) (fun h => by omega)
    refine ckI (by first | (simp only [Bool.and_eq_true, Bool.and_true, Bool.true_and, decide_eq_true_eq, blt_iff, Nat.ble_eq, nbeq, cellsI_len,  List.length_append, List.length_cons, List.length_nil, Int.toNat_natCast, and_true, true_and, Bool.or_eq_true, Bool.not_eq_true', bne_iff_ne, ne_eq]; done) | (simp only [Bool.and_eq_true, Bool.and_true, Bool.true_and, decide_eq_true_eq, blt_iff, Nat.ble_eq, nbeq, cellsI_len,  List.length_append, List.length_cons, List.length_nil, Int.toNat_natCast, and_true, true_and, Bool.or_eq_true, Bool.not_eq_true', bne_iff_ne, ne_eq]; omega) | rfl | (simp; done) | (simp; omega)) (ckI (by first | (simp only [Bool.and_eq_true, Bool.and_true, Bool.true_and, decide_eq_true_eq, blt_iff, Nat.ble_eq, nbeq, cellsI_len, h8, List.length_append, List.length_cons, List.length_nil, Int.toNat_natCast, and_true, true_and, Bool.or_eq_true, Bool.not_eq_true', bne_iff_ne, ne_eq]; done) | (simp only [Bool.and_eq_true, Bool.and_true, Bool.true_and, decide_eq_true_eq, blt_iff, Nat.ble_eq, nbeq, cellsI_len, h8, List.length_append, List.length_cons, List.length_nil, Int.toNat_natCast, and_true, true_and, Bool.or_eq_true, Bool.not_eq_true', bne_iff_ne, ne_eq]; omega) | rfl | (simp; done) | (simp; omega)) (get8 (i := 0) (by omega) rfl ?_))
    rw [ht]
    (repeat' (first | (with_reducible refine trivial) | ((guard_target = False); omega) | (((with_reducible refine wrapI ?_ ?_ ?_)); (focus (omega)); (focus (omega))) | ((fail_if_success (with_reducible refine wrapI ?_ ?_ ?_)); (with_reducible refine ⟨_, rfl, ?_⟩)) | (((with_reducible refine wrapU8 ?_ ?_ ?_)); (focus (omega)); (focus (omega))) | (((with_reducible refine ckI ?_ ?_)); (focus (first | (simp only [Bool.and_eq_true, Bool.and_true, Bool.true_and, decide_eq_true_eq, blt_iff, Nat.ble_eq, nbeq, cellsI_len,  List.length_append, List.length_cons, List.length_nil, Int.toNat_natCast, and_true, true_and, Bool.or_eq_true, Bool.not_eq_true', bne_iff_ne, ne_eq]; done) | (simp only [Bool.and_eq_true, Bool.and_true, Bool.true_and, decide_eq_true_eq, blt_iff, Nat.ble_eq, nbeq, cellsI_len,  List.length_append, List.length_cons, List.length_nil, Int.toNat_natCast, and_true, true_and, Bool.or_eq_true, Bool.not_eq_true', bne_iff_ne, ne_eq]; omega) | rfl | (simp; done) | (simp; omega)))) | (with_reducible refine splitD (fun _ => ?_) (fun _ => ?_) <;> (try (exfalso; omega))) | (with_reducible refine splitE (fun _ => ?_) (fun _ => ?_) <;> (try (exfalso; omega))) | (with_reducible refine splitNE (fun _ => ?_) (fun _ => ?_) <;> (try (exfalso; omega))) | (with_reducible refine splitNot ?_) | (with_reducible refine splitAnd ?_) | (with_reducible refine splitOr ?_)))
    rw [hm]
    have h1 := lM_take (f := f) (i := 0) (show 0 < ks.length by omega)
    have h2 := atM_take (f := f) (i := 0) (show 0 < ks.length by omega)
    simp only [Nat.zero_add, List.take_zero] at h1 h2
    refine ⟨⟨trivial, by trivial⟩, .inr ⟨1, ⟨by omega⟩, by omega, ?_⟩⟩
    rw [h1, h2]
    simp [lM, genM, atM, cellsI]
  · rintro i ⟨h1, h2⟩
    refine splitD (fun hlt => ?_) (fun hge => ?_)
    · have hk0 := hkr i (by omega)
      have ha := atM_rng f (ks.take i) hf
      have h3 := lM_take (f := f) (show i < ks.length by omega)
      have h4 := atM_take (f := f) (show i < ks.length by omega)
      have h5 := lM_len f (ks.take i)
      rw [List.length_take, Nat.min_eq_left (by omega)] at h5
      have ht : Int.tmod (ks.getD i 0) 24 = ks.getD i 0 % 24 := Int.tmod_eq_emod_of_nonneg (by omega)
      have hm : Int.tmod (atM f (ks.take i) + 1 + ks.getD i 0 % 24) 65536 = nextM (atM f (ks.take i)) (ks.getD i 0) := Int.tmod_eq_emod_of_nonneg (by omega)
      refine ckI (by first | (simp only [Bool.and_eq_true, Bool.and_true, Bool.true_and, decide_eq_true_eq, blt_iff, Nat.ble_eq, nbeq, cellsI_len,  List.length_append, List.length_cons, List.length_nil, Int.toNat_natCast, and_true, true_and, Bool.or_eq_true, Bool.not_eq_true', bne_iff_ne, ne_eq]; done) | (simp only [Bool.and_eq_true, Bool.and_true, Bool.true_and, decide_eq_true_eq, blt_iff, Nat.ble_eq, nbeq, cellsI_len,  List.length_append, List.length_cons, List.length_nil, Int.toNat_natCast, and_true, true_and, Bool.or_eq_true, Bool.not_eq_true', bne_iff_ne, ne_eq]; omega) | rfl | (simp; done) | (simp; omega)) (ckI (by first | (simp only [Bool.and_eq_true, Bool.and_true, Bool.true_and, decide_eq_true_eq, blt_iff, Nat.ble_eq, nbeq, cellsI_len, h8, List.length_append, List.length_cons, List.length_nil, Int.toNat_natCast, and_true, true_and, Bool.or_eq_true, Bool.not_eq_true', bne_iff_ne, ne_eq]; done) | (simp only [Bool.and_eq_true, Bool.and_true, Bool.true_and, decide_eq_true_eq, blt_iff, Nat.ble_eq, nbeq, cellsI_len, h8, List.length_append, List.length_cons, List.length_nil, Int.toNat_natCast, and_true, true_and, Bool.or_eq_true, Bool.not_eq_true', bne_iff_ne, ne_eq]; omega) | rfl | (simp; done) | (simp; omega)) (get8 (i := i) (by omega) (by omega) ?_))
      rw [ht]
      (repeat' (first | (with_reducible refine trivial) | ((guard_target = False); omega) | (((with_reducible refine wrapI ?_ ?_ ?_)); (focus (omega)); (focus (omega))) | ((fail_if_success (with_reducible refine wrapI ?_ ?_ ?_)); (with_reducible refine ⟨_, rfl, ?_⟩)) | (((with_reducible refine wrapU8 ?_ ?_ ?_)); (focus (omega)); (focus (omega))) | (((with_reducible refine ckI ?_ ?_)); (focus (first | (simp only [Bool.and_eq_true, Bool.and_true, Bool.true_and, decide_eq_true_eq, blt_iff, Nat.ble_eq, nbeq, cellsI_len, h5, List.length_append, List.length_cons, List.length_nil, Int.toNat_natCast, and_true, true_and, Bool.or_eq_true, Bool.not_eq_true', bne_iff_ne, ne_eq]; done) | (simp only [Bool.and_eq_true, Bool.and_true, Bool.true_and, decide_eq_true_eq, blt_iff, Nat.ble_eq, nbeq, cellsI_len, h5, List.length_append, List.length_cons, List.length_nil, Int.toNat_natCast, and_true, true_and, Bool.or_eq_true, Bool.not_eq_true', bne_iff_ne, ne_eq]; omega) | rfl | (simp; done) | (simp; omega)))) | (with_reducible refine splitD (fun _ => ?_) (fun _ => ?_) <;> (try (exfalso; omega))) | (with_reducible refine splitE (fun _ => ?_) (fun _ => ?_) <;> (try (exfalso; omega))) | (with_reducible refine splitNE (fun _ => ?_) (fun _ => ?_) <;> (try (exfalso; omega))) | (with_reducible refine splitNot ?_) | (with_reducible refine splitAnd ?_) | (with_reducible refine splitOr ?_)))
      rw [hm]
      refine ⟨⟨trivial, by trivial⟩, .inr ⟨i + 1, ⟨by omega⟩, by omega, ?_⟩⟩
      rw [h3, h4]
      simp [cellsI]
    · obtain rfl : i = ks.length := by omega
      rw [List.take_length]
      refine ckI (by first | (simp only [Bool.and_eq_true, Bool.and_true, Bool.true_and, decide_eq_true_eq, blt_iff, Nat.ble_eq, nbeq, cellsI_len, hLl, List.length_append, List.length_cons, List.length_nil, Int.toNat_natCast, and_true, true_and, Bool.or_eq_true, Bool.not_eq_true', bne_iff_ne, ne_eq]; done) | (simp only [Bool.and_eq_true, Bool.and_true, Bool.true_and, decide_eq_true_eq, blt_iff, Nat.ble_eq, nbeq, cellsI_len, hLl, List.length_append, List.length_cons, List.length_nil, Int.toNat_natCast, and_true, true_and, Bool.or_eq_true, Bool.not_eq_true', bne_iff_ne, ne_eq]; omega) | rfl | (simp; done) | (simp; omega)) ⟨lM f ks, ⟨lendI _ _ _ _ (by omega), by omega, by omega⟩, ?_⟩
      simp only [hE, hN]
      (repeat' (first | (with_reducible refine trivial) | ((guard_target = False); omega) | (((with_reducible refine wrapI ?_ ?_ ?_)); (focus (omega)); (focus (omega))) | ((fail_if_success (with_reducible refine wrapI ?_ ?_ ?_)); (with_reducible refine ⟨_, rfl, ?_⟩)) | (((with_reducible refine wrapU8 ?_ ?_ ?_)); (focus (omega)); (focus (omega))) | (((with_reducible refine ckI ?_ ?_)); (focus (first | (simp only [Bool.and_eq_true, Bool.and_true, Bool.true_and, decide_eq_true_eq, blt_iff, Nat.ble_eq, nbeq, cellsI_len, hLl, List.length_append, List.length_cons, List.length_nil, Int.toNat_natCast, and_true, true_and, Bool.or_eq_true, Bool.not_eq_true', bne_iff_ne, ne_eq]; done) | (simp only [Bool.and_eq_true, Bool.and_true, Bool.true_and, decide_eq_true_eq, blt_iff, Nat.ble_eq, nbeq, cellsI_len, hLl, List.length_append, List.length_cons, List.length_nil, Int.toNat_natCast, and_true, true_and, Bool.or_eq_true, Bool.not_eq_true', bne_iff_ne, ne_eq]; omega) | rfl | (simp; done) | (simp; omega)))) | (with_reducible refine splitD (fun _ => ?_) (fun _ => ?_) <;> (try (exfalso; omega))) | (with_reducible refine splitE (fun _ => ?_) (fun _ => ?_) <;> (try (exfalso; omega))) | (with_reducible refine splitNE (fun _ => ?_) (fun _ => ?_) <;> (try (exfalso; omega))) | (with_reducible refine splitNot ?_) | (with_reducible refine splitAnd ?_) | (with_reducible refine splitOr ?_)))
      refine ⟨.inl ⟨0, ⟨trivial⟩, by simp [vB]⟩, ?_, ?_⟩
      · intro _ _
        have f0 : (0 ≤ fstM ps 0 ∧ fstM ps 0 ≤ 65535) ∧ (0 ≤ sndM ps 0 ∧ sndM ps 0 ≤ 65535) := ⟨(far 0 (by omega)).1, (far 0 (by omega)).2.1⟩
        refine splitD (fun _ => ?_) (fun h => by omega)
        (repeat' (first | (with_reducible refine trivial) | ((guard_target = False); omega) | (((with_reducible refine wrapI ?_ ?_ ?_)); (focus (omega)); (focus (omega))) | ((fail_if_success (with_reducible refine wrapI ?_ ?_ ?_)); (with_reducible refine ⟨_, rfl, ?_⟩)) | (((with_reducible refine wrapU8 ?_ ?_ ?_)); (focus (omega)); (focus (omega))) | (((with_reducible refine ckI ?_ ?_)); (focus (first | (simp only [Bool.and_eq_true, Bool.and_true, Bool.true_and, decide_eq_true_eq, blt_iff, Nat.ble_eq, nbeq, cellsI_len,  List.length_append, List.length_cons, List.length_nil, Int.toNat_natCast, and_true, true_and, Bool.or_eq_true, Bool.not_eq_true', bne_iff_ne, ne_eq]; done) | (simp only [Bool.and_eq_true, Bool.and_true, Bool.true_and, decide_eq_true_eq, blt_iff, Nat.ble_eq, nbeq, cellsI_len,  List.length_append, List.length_cons, List.length_nil, Int.toNat_natCast, and_true, true_and, Bool.or_eq_true, Bool.not_eq_true', bne_iff_ne, ne_eq]; omega) | rfl | (simp; done) | (simp; omega)))) | (with_reducible refine splitD (fun _ => ?_) (fun _ => ?_) <;> (try (exfalso; omega))) | (with_reducible refine splitE (fun _ => ?_) (fun _ => ?_) <;> (try (exfalso; omega))) | (with_reducible refine splitNE (fun _ => ?_) (fun _ => ?_) <;> (try (exfalso; omega))) | (with_reducible refine splitNot ?_) | (with_reducible refine splitAnd ?_) | (with_reducible refine splitOr ?_)))
        refine aggP (i := 0) (by omega) rfl ?_
        (repeat' (first | (with_reducible refine trivial) | ((guard_target = False); omega) | (((with_reducible refine wrapI ?_ ?_ ?_)); (focus (omega)); (focus (omega))) | ((fail_if_success (with_reducible refine wrapI ?_ ?_ ?_)); (with_reducible refine ⟨_, rfl, ?_⟩)) | (((with_reducible refine wrapU8 ?_ ?_ ?_)); (focus (omega)); (focus (omega))) | (((with_reducible refine ckI ?_ ?_)); (focus (first | (simp only [Bool.and_eq_true, Bool.and_true, Bool.true_and, decide_eq_true_eq, blt_iff, Nat.ble_eq, nbeq, cellsI_len,  List.length_append, List.length_cons, List.length_nil, Int.toNat_natCast, and_true, true_and, Bool.or_eq_true, Bool.not_eq_true', bne_iff_ne, ne_eq]; done) | (simp only [Bool.and_eq_true, Bool.and_true, Bool.true_and, decide_eq_true_eq, blt_iff, Nat.ble_eq, nbeq, cellsI_len,  List.length_append, List.length_cons, List.length_nil, Int.toNat_natCast, and_true, true_and, Bool.or_eq_true, Bool.not_eq_true', bne_iff_ne, ne_eq]; omega) | rfl | (simp; done) | (simp; omega)))) | (with_reducible refine splitD (fun _ => ?_) (fun _ => ?_) <;> (try (exfalso; omega))) | (with_reducible refine splitE (fun _ => ?_) (fun _ => ?_) <;> (try (exfalso; omega))) | (with_reducible refine splitNE (fun _ => ?_) (fun _ => ?_) <;> (try (exfalso; omega))) | (with_reducible refine splitNot ?_) | (with_reducible refine splitAnd ?_) | (with_reducible refine splitOr ?_)))
        · refine ⟨⟨0, ⟨by omega⟩, by simp [decM, bitsM, cellsI]⟩, ?_⟩
          · rintro k ⟨hk⟩
            have hdl := decM_len (fstM ps 0) (sndM ps 0) k
            have hs := decM_succ (fstM ps 0) (sndM ps 0) k
            refine splitD (fun hk2 => ?_) (fun hk2 => ?_)
            · (repeat' (first | (with_reducible refine trivial) | ((guard_target = False); omega) | (((with_reducible refine wrapI ?_ ?_ ?_)); (focus (omega)); (focus (omega))) | ((fail_if_success (with_reducible refine wrapI ?_ ?_ ?_)); (with_reducible refine ⟨_, rfl, ?_⟩)) | (((with_reducible refine wrapU8 ?_ ?_ ?_)); (focus (omega)); (focus (omega))) | (((with_reducible refine ckI ?_ ?_)); (focus (first | (simp only [Bool.and_eq_true, Bool.and_true, Bool.true_and, decide_eq_true_eq, blt_iff, Nat.ble_eq, nbeq, cellsI_len,  List.length_append, List.length_cons, List.length_nil, Int.toNat_natCast, and_true, true_and, Bool.or_eq_true, Bool.not_eq_true', bne_iff_ne, ne_eq]; done) | (simp only [Bool.and_eq_true, Bool.and_true, Bool.true_and, decide_eq_true_eq, blt_iff, Nat.ble_eq, nbeq, cellsI_len,  List.length_append, List.length_cons, List.length_nil, Int.toNat_natCast, and_true, true_and, Bool.or_eq_true, Bool.not_eq_true', bne_iff_ne, ne_eq]; omega) | rfl | (simp; done) | (simp; omega)))) | (with_reducible refine splitD (fun _ => ?_) (fun _ => ?_) <;> (try (exfalso; omega))) | (with_reducible refine splitE (fun _ => ?_) (fun _ => ?_) <;> (try (exfalso; omega))) | (with_reducible refine splitNE (fun _ => ?_) (fun _ => ?_) <;> (try (exfalso; omega))) | (with_reducible refine splitNot ?_) | (with_reducible refine splitAnd ?_) | (with_reducible refine splitOr ?_)))
              refine bitI (k := k) f0.2 (by omega) (by omega) ?_
              (repeat' (first | (with_reducible refine trivial) | ((guard_target = False); omega) | (((with_reducible refine wrapI ?_ ?_ ?_)); (focus (omega)); (focus (omega))) | ((fail_if_success (with_reducible refine wrapI ?_ ?_ ?_)); (with_reducible refine ⟨_, rfl, ?_⟩)) | (((with_reducible refine wrapU8 ?_ ?_ ?_)); (focus (omega)); (focus (omega))) | (((with_reducible refine ckI ?_ ?_)); (focus (first | (simp only [Bool.and_eq_true, Bool.and_true, Bool.true_and, decide_eq_true_eq, blt_iff, Nat.ble_eq, nbeq, cellsI_len,  List.length_append, List.length_cons, List.length_nil, Int.toNat_natCast, and_true, true_and, Bool.or_eq_true, Bool.not_eq_true', bne_iff_ne, ne_eq]; done) | (simp only [Bool.and_eq_true, Bool.and_true, Bool.true_and, decide_eq_true_eq, blt_iff, Nat.ble_eq, nbeq, cellsI_len,  List.length_append, List.length_cons, List.length_nil, Int.toNat_natCast, and_true, true_and, Bool.or_eq_true, Bool.not_eq_true', bne_iff_ne, ne_eq]; omega) | rfl | (simp; done) | (simp; omega)))) | (with_reducible refine splitD (fun _ => ?_) (fun _ => ?_) <;> (try (exfalso; omega))) | (with_reducible refine splitE (fun _ => ?_) (fun _ => ?_) <;> (try (exfalso; omega))) | (with_reducible refine splitNE (fun _ => ?_) (fun _ => ?_) <;> (try (exfalso; omega))) | (with_reducible refine splitNot ?_) | (with_reducible refine splitAnd ?_) | (with_reducible refine splitOr ?_)))
              · rename_i hbit
                rw [if_pos hbit] at hs
                have em : (fstM ps 0 + 1 + (k : Int)).tmod 65536 = (fstM ps 0 + 1 + k) % 65536 := Int.tmod_eq_emod_of_nonneg (by omega)
                rw [em]
                refine ⟨⟨trivial, by trivial⟩, k + 1, ⟨by omega⟩, by omega, ?_⟩
                rw [hs]
                simp [cellsI]
              · rename_i hbit
                rw [if_neg hbit, List.append_nil] at hs
                refine ⟨⟨trivial, by trivial⟩, k + 1, ⟨by omega⟩, by omega, ?_⟩
                rw [hs]
                simp
            · obtain rfl : k = 16 := by omega
              (repeat' (first | (with_reducible refine trivial) | ((guard_target = False); omega) | (((with_reducible refine wrapI ?_ ?_ ?_)); (focus (omega)); (focus (omega))) | ((fail_if_success (with_reducible refine wrapI ?_ ?_ ?_)); (with_reducible refine ⟨_, rfl, ?_⟩)) | (((with_reducible refine wrapU8 ?_ ?_ ?_)); (focus (omega)); (focus (omega))) | (((with_reducible refine ckI ?_ ?_)); (focus (first | (simp only [Bool.and_eq_true, Bool.and_true, Bool.true_and, decide_eq_true_eq, blt_iff, Nat.ble_eq, nbeq, cellsI_len,  List.length_append, List.length_cons, List.length_nil, Int.toNat_natCast, and_true, true_and, Bool.or_eq_true, Bool.not_eq_true', bne_iff_ne, ne_eq]; done) | (simp only [Bool.and_eq_true, Bool.and_true, Bool.true_and, decide_eq_true_eq, blt_iff, Nat.ble_eq, nbeq, cellsI_len,  List.length_append, List.length_cons, List.length_nil, Int.toNat_natCast, and_true, true_and, Bool.or_eq_true, Bool.not_eq_true', bne_iff_ne, ne_eq]; omega) | rfl | (simp; done) | (simp; omega)))) | (with_reducible refine splitD (fun _ => ?_) (fun _ => ?_) <;> (try (exfalso; omega))) | (with_reducible refine splitE (fun _ => ?_) (fun _ => ?_) <;> (try (exfalso; omega))) | (with_reducible refine splitNE (fun _ => ?_) (fun _ => ?_) <;> (try (exfalso; omega))) | (with_reducible refine splitNot ?_) | (with_reducible refine splitAnd ?_) | (with_reducible refine splitOr ?_)))
              refine ⟨⟨trivial, by trivial⟩, .inr ⟨1, ⟨by omega⟩, by omega, ?_⟩⟩
              rw [fst_all (by omega)]
              simp
      · rintro i ⟨h1, h2⟩
        refine splitD (fun hlt => ?_) (fun hge => ?_)
        · have fi : (0 ≤ fstM ps i ∧ fstM ps i ≤ 65535) ∧ (0 ≤ sndM ps i ∧ sndM ps i ≤ 65535) ∧ (0 < i → 16 < (fstM ps i - fstM ps (i - 1)) % 65536) := far i (by omega)
          have fp : 0 ≤ fstM ps (i - 1) ∧ fstM ps (i - 1) ≤ 65535 := (far (i - 1) (by omega)).1
          have hgap := fi.2.2 (by omega)
          have ht : Int.tmod (fstM ps i - fstM ps (i - 1) + 65536) 65536 = (fstM ps i - fstM ps (i - 1)) % 65536 := by rw [Int.tmod_eq_emod_of_nonneg (by omega)]; omega
          have hta := take_all (show i < ps.length by omega)
          have hal : (allM (ps.take i)).length + (decM (fstM ps i) (sndM ps i) 16).length ≤ ks.length + 1 := by
            rw [← hLl, ← hall, ← List.length_append, ← hta]
            conv => rhs; rw [← List.take_append_drop (i + 1) ps]
            rw [allM, allM, List.flatMap_append, List.length_append]
            omega
          (repeat' (first | (with_reducible refine trivial) | ((guard_target = False); omega) | (((with_reducible refine wrapI ?_ ?_ ?_)); (focus (omega)); (focus (omega))) | ((fail_if_success (with_reducible refine wrapI ?_ ?_ ?_)); (with_reducible refine ⟨_, rfl, ?_⟩)) | (((with_reducible refine wrapU8 ?_ ?_ ?_)); (focus (omega)); (focus (omega))) | (((with_reducible refine ckI ?_ ?_)); (focus (first | (simp only [Bool.and_eq_true, Bool.and_true, Bool.true_and, decide_eq_true_eq, blt_iff, Nat.ble_eq, nbeq, cellsI_len,  List.length_append, List.length_cons, List.length_nil, Int.toNat_natCast, and_true, true_and, Bool.or_eq_true, Bool.not_eq_true', bne_iff_ne, ne_eq]; done) | (simp only [Bool.and_eq_true, Bool.and_true, Bool.true_and, decide_eq_true_eq, blt_iff, Nat.ble_eq, nbeq, cellsI_len,  List.length_append, List.length_cons, List.length_nil, Int.toNat_natCast, and_true, true_and, Bool.or_eq_true, Bool.not_eq_true', bne_iff_ne, ne_eq]; omega) | rfl | (simp; done) | (simp; omega)))) | (with_reducible refine splitD (fun _ => ?_) (fun _ => ?_) <;> (try (exfalso; omega))) | (with_reducible refine splitE (fun _ => ?_) (fun _ => ?_) <;> (try (exfalso; omega))) | (with_reducible refine splitNE (fun _ => ?_) (fun _ => ?_) <;> (try (exfalso; omega))) | (with_reducible refine splitNot ?_) | (with_reducible refine splitAnd ?_) | (with_reducible refine splitOr ?_)))
          refine aggP (i := i) (by omega) (by omega) ?_
          (repeat' (first | (with_reducible refine trivial) | ((guard_target = False); omega) | (((with_reducible refine wrapI ?_ ?_ ?_)); (focus (omega)); (focus (omega))) | ((fail_if_success (with_reducible refine wrapI ?_ ?_ ?_)); (with_reducible refine ⟨_, rfl, ?_⟩)) | (((with_reducible refine wrapU8 ?_ ?_ ?_)); (focus (omega)); (focus (omega))) | (((with_reducible refine ckI ?_ ?_)); (focus (first | (simp only [Bool.and_eq_true, Bool.and_true, Bool.true_and, decide_eq_true_eq, blt_iff, Nat.ble_eq, nbeq, cellsI_len,  List.length_append, List.length_cons, List.length_nil, Int.toNat_natCast, and_true, true_and, Bool.or_eq_true, Bool.not_eq_true', bne_iff_ne, ne_eq]; done) | (simp only [Bool.and_eq_true, Bool.and_true, Bool.true_and, decide_eq_true_eq, blt_iff, Nat.ble_eq, nbeq, cellsI_len,  List.length_append, List.length_cons, List.length_nil, Int.toNat_natCast, and_true, true_and, Bool.or_eq_true, Bool.not_eq_true', bne_iff_ne, ne_eq]; omega) | rfl | (simp; done) | (simp; omega)))) | (with_reducible refine splitD (fun _ => ?_) (fun _ => ?_) <;> (try (exfalso; omega))) | (with_reducible refine splitE (fun _ => ?_) (fun _ => ?_) <;> (try (exfalso; omega))) | (with_reducible refine splitNE (fun _ => ?_) (fun _ => ?_) <;> (try (exfalso; omega))) | (with_reducible refine splitNot ?_) | (with_reducible refine splitAnd ?_) | (with_reducible refine splitOr ?_)))
          refine getP0 (i := i - 1) (by omega) (by omega) ?_
          (repeat' (first | (with_reducible refine trivial) | ((guard_target = False); omega) | (((with_reducible refine wrapI ?_ ?_ ?_)); (focus (omega)); (focus (omega))) | ((fail_if_success (with_reducible refine wrapI ?_ ?_ ?_)); (with_reducible refine ⟨_, rfl, ?_⟩)) | (((with_reducible refine wrapU8 ?_ ?_ ?_)); (focus (omega)); (focus (omega))) | (((with_reducible refine ckI ?_ ?_)); (focus (first | (simp only [Bool.and_eq_true, Bool.and_true, Bool.true_and, decide_eq_true_eq, blt_iff, Nat.ble_eq, nbeq, cellsI_len,  List.length_append, List.length_cons, List.length_nil, Int.toNat_natCast, and_true, true_and, Bool.or_eq_true, Bool.not_eq_true', bne_iff_ne, ne_eq]; done) | (simp only [Bool.and_eq_true, Bool.and_true, Bool.true_and, decide_eq_true_eq, blt_iff, Nat.ble_eq, nbeq, cellsI_len,  List.length_append, List.length_cons, List.length_nil, Int.toNat_natCast, and_true, true_and, Bool.or_eq_true, Bool.not_eq_true', bne_iff_ne, ne_eq]; omega) | rfl | (simp; done) | (simp; omega)))) | (with_reducible refine splitD (fun _ => ?_) (fun _ => ?_) <;> (try (exfalso; omega))) | (with_reducible refine splitE (fun _ => ?_) (fun _ => ?_) <;> (try (exfalso; omega))) | (with_reducible refine splitNE (fun _ => ?_) (fun _ => ?_) <;> (try (exfalso; omega))) | (with_reducible refine splitNot ?_) | (with_reducible refine splitAnd ?_) | (with_reducible refine splitOr ?_)))
          simp only [Int.toNat_natCast]
          refine ⟨⟨0, ⟨by omega⟩, by simp [decM, bitsM, cellsI]⟩, ?_⟩
          rintro k ⟨hk⟩
          have hdl := decM_len (fstM ps i) (sndM ps i) k
          have hs := decM_succ (fstM ps i) (sndM ps i) k
          refine splitD (fun hk2 => ?_) (fun hk2 => ?_)
          · (repeat' (first | (with_reducible refine trivial) | ((guard_target = False); omega) | (((with_reducible refine wrapI ?_ ?_ ?_)); (focus (omega)); (focus (omega))) | ((fail_if_success (with_reducible refine wrapI ?_ ?_ ?_)); (with_reducible refine ⟨_, rfl, ?_⟩)) | (((with_reducible refine wrapU8 ?_ ?_ ?_)); (focus (omega)); (focus (omega))) | (((with_reducible refine ckI ?_ ?_)); (focus (first | (simp only [Bool.and_eq_true, Bool.and_true, Bool.true_and, decide_eq_true_eq, blt_iff, Nat.ble_eq, nbeq, cellsI_len,  List.length_append, List.length_cons, List.length_nil, Int.toNat_natCast, and_true, true_and, Bool.or_eq_true, Bool.not_eq_true', bne_iff_ne, ne_eq]; done) | (simp only [Bool.and_eq_true, Bool.and_true, Bool.true_and, decide_eq_true_eq, blt_iff, Nat.ble_eq, nbeq, cellsI_len,  List.length_append, List.length_cons, List.length_nil, Int.toNat_natCast, and_true, true_and, Bool.or_eq_true, Bool.not_eq_true', bne_iff_ne, ne_eq]; omega) | rfl | (simp; done) | (simp; omega)))) | (with_reducible refine splitD (fun _ => ?_) (fun _ => ?_) <;> (try (exfalso; omega))) | (with_reducible refine splitE (fun _ => ?_) (fun _ => ?_) <;> (try (exfalso; omega))) | (with_reducible refine splitNE (fun _ => ?_) (fun _ => ?_) <;> (try (exfalso; omega))) | (with_reducible refine splitNot ?_) | (with_reducible refine splitAnd ?_) | (with_reducible refine splitOr ?_)))
            refine bitI (k := k) fi.2.1 (by omega) (by omega) ?_
            (repeat' (first | (with_reducible refine trivial) | ((guard_target = False); omega) | (((with_reducible refine wrapI ?_ ?_ ?_)); (focus (omega)); (focus (omega))) | ((fail_if_success (with_reducible refine wrapI ?_ ?_ ?_)); (with_reducible refine ⟨_, rfl, ?_⟩)) | (((with_reducible refine wrapU8 ?_ ?_ ?_)); (focus (omega)); (focus (omega))) | (((with_reducible refine ckI ?_ ?_)); (focus (first | (simp only [Bool.and_eq_true, Bool.and_true, Bool.true_and, decide_eq_true_eq, blt_iff, Nat.ble_eq, nbeq, cellsI_len,  List.length_append, List.length_cons, List.length_nil, Int.toNat_natCast, and_true, true_and, Bool.or_eq_true, Bool.not_eq_true', bne_iff_ne, ne_eq]; done) | (simp only [Bool.and_eq_true, Bool.and_true, Bool.true_and, decide_eq_true_eq, blt_iff, Nat.ble_eq, nbeq, cellsI_len,  List.length_append, List.length_cons, List.length_nil, Int.toNat_natCast, and_true, true_and, Bool.or_eq_true, Bool.not_eq_true', bne_iff_ne, ne_eq]; omega) | rfl | (simp; done) | (simp; omega)))) | (with_reducible refine splitD (fun _ => ?_) (fun _ => ?_) <;> (try (exfalso; omega))) | (with_reducible refine splitE (fun _ => ?_) (fun _ => ?_) <;> (try (exfalso; omega))) | (with_reducible refine splitNE (fun _ => ?_) (fun _ => ?_) <;> (try (exfalso; omega))) | (with_reducible refine splitNot ?_) | (with_reducible refine splitAnd ?_) | (with_reducible refine splitOr ?_)))
            · rename_i hbit
              rw [if_pos hbit] at hs
              have em : (fstM ps i + 1 + (k : Int)).tmod 65536 = (fstM ps i + 1 + k) % 65536 := Int.tmod_eq_emod_of_nonneg (by omega)
              rw [em]
              refine ⟨⟨trivial, by trivial⟩, k + 1, ⟨by omega⟩, by omega, ?_⟩
              rw [hs]
              simp [cellsI, Nat.add_assoc]
            · rename_i hbit
              rw [if_neg hbit, List.append_nil] at hs
              refine ⟨⟨trivial, by trivial⟩, k + 1, ⟨by omega⟩, by omega, ?_⟩
              rw [hs]
              simp
          · obtain rfl : k = 16 := by omega
            (repeat' (first | (with_reducible refine trivial) | ((guard_target = False); omega) | (((with_reducible refine wrapI ?_ ?_ ?_)); (focus (omega)); (focus (omega))) | ((fail_if_success (with_reducible refine wrapI ?_ ?_ ?_)); (with_reducible refine ⟨_, rfl, ?_⟩)) | (((with_reducible refine wrapU8 ?_ ?_ ?_)); (focus (omega)); (focus (omega))) | (((with_reducible refine ckI ?_ ?_)); (focus (first | (simp only [Bool.and_eq_true, Bool.and_true, Bool.true_and, decide_eq_true_eq, blt_iff, Nat.ble_eq, nbeq, cellsI_len,  List.length_append, List.length_cons, List.length_nil, Int.toNat_natCast, and_true, true_and, Bool.or_eq_true, Bool.not_eq_true', bne_iff_ne, ne_eq]; done) | (simp only [Bool.and_eq_true, Bool.and_true, Bool.true_and, decide_eq_true_eq, blt_iff, Nat.ble_eq, nbeq, cellsI_len,  List.length_append, List.length_cons, List.length_nil, Int.toNat_natCast, and_true, true_and, Bool.or_eq_true, Bool.not_eq_true', bne_iff_ne, ne_eq]; omega) | rfl | (simp; done) | (simp; omega)))) | (with_reducible refine splitD (fun _ => ?_) (fun _ => ?_) <;> (try (exfalso; omega))) | (with_reducible refine splitE (fun _ => ?_) (fun _ => ?_) <;> (try (exfalso; omega))) | (with_reducible refine splitNE (fun _ => ?_) (fun _ => ?_) <;> (try (exfalso; omega))) | (with_reducible refine splitNot ?_) | (with_reducible refine splitAnd ?_) | (with_reducible refine splitOr ?_)))
            refine ⟨⟨trivial, by trivial⟩, .inr ⟨i + 1, ⟨by omega⟩, by omega, ?_⟩⟩
            rw [hta]
            simp
        · obtain rfl : i = ps.length := by omega
          rw [List.take_length, hall]
          (repeat' (first | (with_reducible refine trivial) | ((guard_target = False); omega) | (((with_reducible refine wrapI ?_ ?_ ?_)); (focus (omega)); (focus (omega))) | ((fail_if_success (with_reducible refine wrapI ?_ ?_ ?_)); (with_reducible refine ⟨_, rfl, ?_⟩)) | (((with_reducible refine wrapU8 ?_ ?_ ?_)); (focus (omega)); (focus (omega))) | (((with_reducible refine ckI ?_ ?_)); (focus (first | (simp only [Bool.and_eq_true, Bool.and_true, Bool.true_and, decide_eq_true_eq, blt_iff, Nat.ble_eq, nbeq, cellsI_len, hLl, List.length_append, List.length_cons, List.length_nil, Int.toNat_natCast, and_true, true_and, Bool.or_eq_true, Bool.not_eq_true', bne_iff_ne, ne_eq]; done) | (simp only [Bool.and_eq_true, Bool.and_true, Bool.true_and, decide_eq_true_eq, blt_iff, Nat.ble_eq, nbeq, cellsI_len, hLl, List.length_append, List.length_cons, List.length_nil, Int.toNat_natCast, and_true, true_and, Bool.or_eq_true, Bool.not_eq_true', bne_iff_ne, ne_eq]; omega) | rfl | (simp; done) | (simp; omega)))) | (with_reducible refine splitD (fun _ => ?_) (fun _ => ?_) <;> (try (exfalso; omega))) | (with_reducible refine splitE (fun _ => ?_) (fun _ => ?_) <;> (try (exfalso; omega))) | (with_reducible refine splitNE (fun _ => ?_) (fun _ => ?_) <;> (try (exfalso; omega))) | (with_reducible refine splitNot ?_) | (with_reducible refine splitAnd ?_) | (with_reducible refine splitOr ?_)))
          exact ⟨lM f ks, lM f ks, ⟨lendI _ _ _ _ rfl, rfl, by omega, lendI _ _ _ _ (by omega), by omega, by omega⟩, by simp⟩
end Go.Proofs.YtafchcmemeinlaaDoor

/-
  Chapter 24: ControlPairs' run is proved.
-/
import Derived.Test.YtafchcmemeinlaaDoorC24Q
set_option linter.unusedSimpArgs false
set_option linter.unusedVariables false
namespace Go.Proofs.YtafchcmemeinlaaDoor
open Go.RowKit
set_option maxRecDepth 1000000

theorem l4_take {f : Int} {ks : List Int} {i : Nat} (h : i < ks.length) : l4M f (ks.take (i + 1)) = l4M f (ks.take i) ++ [next4M (at4M f (ks.take i)) (ks.getD i 0)] := by
  rw [take_snocD ks 0 h, l4M, gen4_snoc]; rfl
theorem at4_take {f : Int} {ks : List Int} {i : Nat} (h : i < ks.length) : at4M f (ks.take (i + 1)) = next4M (at4M f (ks.take i)) (ks.getD i 0) := by
  rw [take_snocD ks 0 h, at4_snoc]

set_option maxHeartbeats 1000000 in
theorem pairs4_run (f : Int) (kk ks rr : List Int) (a b s0 s1 : Int) (hf : 0 ≤ f ∧ f ≤ 65535) (hkk : ∀ x ∈ kk, 0 ≤ x ∧ x ≤ 255) (hmax : kk.length ≤ 9223372036854775807) (hks : kk.take 70 = ks) (hrr : rr.length ≤ 9223372036854775807)
    (h0 : 0 ≤ s0 ∧ s0 ≤ 65535) (h1 : 0 ≤ s1 ∧ s1 ≤ 65535) : ∃ hv hb, goal_4 hv hb f kk ks rr a b s0 s1 := by
  have hkl : ks.length = min 70 kk.length := by rw [← hks, List.length_take]
  obtain ⟨hv, hb', e⟩ : ∃ hv hb, goal_4 hv hb f kk ks rr a b s0 s1 = _ := ⟨_, _, vc_4 f kk ks rr a b s0 s1⟩
  refine ⟨hv, hb', e.mpr ?_⟩
  clear e
  have h8 := cells8M_len ks
  have him : imin (kk.length : Int) 70 = (ks.length : Int) := by unfold imin; split <;> omega
  have hkr : ∀ i, i < ks.length → 0 ≤ ks.getD i 0 ∧ ks.getD i 0 ≤ 255 := fun i hi => by
    refine hkk _ ?_
    have e1 : ks.getD i 0 = ks[i] := by simp [hi]
    rw [e1]
    exact List.mem_of_mem_take (i := 70) (by rw [hks]; exact List.getElem_mem hi)
  obtain ⟨r, hr⟩ : ∃ r, rr.take 66 = r := ⟨_, rfl⟩
  have hrlen : r.length = min 66 rr.length := by rw [← hr, List.length_take]
  have hrm : imin (rr.length : Int) 66 = (r.length : Int) := by unfold imin; split <;> omega
  have hr0 : List.take (((r.length : Int).toNat - 0) * 1) (List.drop 0 (cellsI rr)) = cellsI r := by
    rw [List.drop_zero, ← hr, cellsI, cellsI, ← List.map_take]
    congr 1
    rw [List.take_eq_take_iff, List.length_take]
    omega
  have hrl : Lf (cellsI r = cellsI r ∧ (r.length : Int).toNat - 0 = r.length ∧ r.length ≤ 4611686018427387904) := ⟨rfl, by omega, by omega⟩
  refine wrapI (by omega) (by omega) ⟨_, rfl, _, rfl, ?_⟩
  rw [him]
  refine ckI (by first | (simp only [Bool.and_eq_true, Bool.and_true, Bool.true_and, decide_eq_true_eq, blt_iff, Nat.ble_eq, nbeq, cellsI_len,  List.length_append, List.length_cons, List.length_nil, Int.toNat_natCast, and_true, true_and, Bool.or_eq_true, Bool.not_eq_true', bne_iff_ne, ne_eq]; done) | (simp only [Bool.and_eq_true, Bool.and_true, Bool.true_and, decide_eq_true_eq, blt_iff, Nat.ble_eq, nbeq, cellsI_len,  List.length_append, List.length_cons, List.length_nil, Int.toNat_natCast, and_true, true_and, Bool.or_eq_true, Bool.not_eq_true', bne_iff_ne, ne_eq]; omega) | rfl | (simp; done) | (simp; omega)) ⟨_, rfl, ?_⟩
  have e0 : ((ks.length : Int).toNat - 0) = ks.length := by omega
  rw [e0]
  refine ⟨.inl ⟨0, ⟨trivial⟩, by rw [cells8_take hks rfl]; simp⟩, ?_, ?_⟩
  · intro _ _
    refine splitD (fun _ => ?_) (fun h => ?_)
    · have hk0 := hkr 0 (by omega)
      have ht : Int.tmod (ks.getD 0 0) 24 = ks.getD 0 0 % 24 := Int.tmod_eq_emod_of_nonneg (by omega)
      have hm : Int.tmod (f + ks.getD 0 0 % 24) 65536 = next4M f (ks.getD 0 0) := Int.tmod_eq_emod_of_nonneg (by omega)
      refine ckI (by first | (simp only [Bool.and_eq_true, Bool.and_true, Bool.true_and, decide_eq_true_eq, blt_iff, Nat.ble_eq, nbeq, cellsI_len,  List.length_append, List.length_cons, List.length_nil, Int.toNat_natCast, and_true, true_and, Bool.or_eq_true, Bool.not_eq_true', bne_iff_ne, ne_eq]; done) | (simp only [Bool.and_eq_true, Bool.and_true, Bool.true_and, decide_eq_true_eq, blt_iff, Nat.ble_eq, nbeq, cellsI_len,  List.length_append, List.length_cons, List.length_nil, Int.toNat_natCast, and_true, true_and, Bool.or_eq_true, Bool.not_eq_true', bne_iff_ne, ne_eq]; omega) | rfl | (simp; done) | (simp; omega)) (ckI (by first | (simp only [Bool.and_eq_true, Bool.and_true, Bool.true_and, decide_eq_true_eq, blt_iff, Nat.ble_eq, nbeq, cellsI_len, h8, List.length_append, List.length_cons, List.length_nil, Int.toNat_natCast, and_true, true_and, Bool.or_eq_true, Bool.not_eq_true', bne_iff_ne, ne_eq]; done) | (simp only [Bool.and_eq_true, Bool.and_true, Bool.true_and, decide_eq_true_eq, blt_iff, Nat.ble_eq, nbeq, cellsI_len, h8, List.length_append, List.length_cons, List.length_nil, Int.toNat_natCast, and_true, true_and, Bool.or_eq_true, Bool.not_eq_true', bne_iff_ne, ne_eq]; omega) | rfl | (simp; done) | (simp; omega)) (get8 (i := 0) (by omega) rfl ?_))
      rw [ht]
      (repeat' (first | (with_reducible refine trivial) | ((guard_target = False); omega) | (((with_reducible refine wrapI ?_ ?_ ?_)); (focus (omega)); (focus (omega))) | ((fail_if_success (with_reducible refine wrapI ?_ ?_ ?_)); (with_reducible refine ⟨_, rfl, ?_⟩)) | (((with_reducible refine wrapU8 ?_ ?_ ?_)); (focus (omega)); (focus (omega))) | (((with_reducible refine ckI ?_ ?_)); (focus (first | (simp only [Bool.and_eq_true, Bool.and_true, Bool.true_and, decide_eq_true_eq, blt_iff, Nat.ble_eq, nbeq, cellsI_len,  List.length_append, List.length_cons, List.length_nil, Int.toNat_natCast, and_true, true_and, Bool.or_eq_true, Bool.not_eq_true', bne_iff_ne, ne_eq]; done) | (simp only [Bool.and_eq_true, Bool.and_true, Bool.true_and, decide_eq_true_eq, blt_iff, Nat.ble_eq, nbeq, cellsI_len,  List.length_append, List.length_cons, List.length_nil, Int.toNat_natCast, and_true, true_and, Bool.or_eq_true, Bool.not_eq_true', bne_iff_ne, ne_eq]; omega) | rfl | (simp; done) | (simp; omega)))) | (with_reducible refine splitD (fun _ => ?_) (fun _ => ?_) <;> (try (exfalso; omega))) | (with_reducible refine splitE (fun _ => ?_) (fun _ => ?_) <;> (try (exfalso; omega))) | (with_reducible refine splitNE (fun _ => ?_) (fun _ => ?_) <;> (try (exfalso; omega))) | (with_reducible refine splitNot ?_) | (with_reducible refine splitAnd ?_) | (with_reducible refine splitOr ?_)))
      rw [hm]
      have h1 := l4_take (f := f) (i := 0) (show 0 < ks.length by omega)
      have h2 := at4_take (f := f) (i := 0) (show 0 < ks.length by omega)
      simp only [Nat.zero_add, List.take_zero] at h1 h2
      refine ⟨⟨trivial, by trivial⟩, .inr ⟨1, ⟨by omega⟩, by omega, ?_⟩⟩
      rw [h1, h2]
      simp [l4M, gen4M, at4M, cellsI]
    · have hk0 : ks = [] := List.length_eq_zero_iff.1 (by omega)
      refine ⟨_, rfl, _, rfl, ?_⟩
      rw [hrm]
      refine ckI (by first | (simp only [Bool.and_eq_true, Bool.and_true, Bool.true_and, decide_eq_true_eq, blt_iff, Nat.ble_eq, nbeq, cellsI_len,  List.length_append, List.length_cons, List.length_nil, Int.toNat_natCast, and_true, true_and, Bool.or_eq_true, Bool.not_eq_true', bne_iff_ne, ne_eq]; done) | (simp only [Bool.and_eq_true, Bool.and_true, Bool.true_and, decide_eq_true_eq, blt_iff, Nat.ble_eq, nbeq, cellsI_len,  List.length_append, List.length_cons, List.length_nil, Int.toNat_natCast, and_true, true_and, Bool.or_eq_true, Bool.not_eq_true', bne_iff_ne, ne_eq]; omega) | rfl | (simp; done) | (simp; omega)) ?_
      rw [hr0]
      have ho : Lf ([AV.int .i64 f] = cellsI [f] ∧ 1 = ([f] : List Int).length ∧ ([f] : List Int).length ≤ 4611686018427387904) := ⟨rfl, rfl, by simp⟩
      refine ⟨.inl ⟨0, ⟨trivial⟩, by simp⟩, ?_, ?_, ?_⟩
      · intro _ _
        refine ⟨[f], ho, _, rfl, ⟨[f], ho, ?_⟩⟩
        cases hn : nacksM [f]
        · simp only [pairsNM, pairsEM, hn, Bool.false_eq_true, if_false, cond_false]
          (repeat' (first | (with_reducible refine trivial) | ((guard_target = False); omega) | (((with_reducible refine wrapI ?_ ?_ ?_)); (focus (omega)); (focus (omega))) | ((fail_if_success (with_reducible refine wrapI ?_ ?_ ?_)); (with_reducible refine ⟨_, rfl, ?_⟩)) | (((with_reducible refine wrapU8 ?_ ?_ ?_)); (focus (omega)); (focus (omega))) | (((with_reducible refine ckI ?_ ?_)); (focus (first | (simp only [Bool.and_eq_true, Bool.and_true, Bool.true_and, decide_eq_true_eq, blt_iff, Nat.ble_eq, nbeq, cellsI_len,  List.length_append, List.length_cons, List.length_nil, Int.toNat_natCast, and_true, true_and, Bool.or_eq_true, Bool.not_eq_true', bne_iff_ne, ne_eq]; done) | (simp only [Bool.and_eq_true, Bool.and_true, Bool.true_and, decide_eq_true_eq, blt_iff, Nat.ble_eq, nbeq, cellsI_len,  List.length_append, List.length_cons, List.length_nil, Int.toNat_natCast, and_true, true_and, Bool.or_eq_true, Bool.not_eq_true', bne_iff_ne, ne_eq]; omega) | rfl | (simp; done) | (simp; omega)))) | (with_reducible refine splitD (fun _ => ?_) (fun _ => ?_) <;> (try (exfalso; omega))) | (with_reducible refine splitE (fun _ => ?_) (fun _ => ?_) <;> (try (exfalso; omega))) | (with_reducible refine splitNE (fun _ => ?_) (fun _ => ?_) <;> (try (exfalso; omega))) | (with_reducible refine splitNot ?_) | (with_reducible refine splitAnd ?_) | (with_reducible refine splitOr ?_)))
          all_goals first | exact ⟨⟨trivial, by trivial⟩, .inr (.inl ⟨0, ⟨trivial⟩, by decide, by simp⟩)⟩ | (rename_i h; simp at h)
        · simp only [pairsNM, pairsEM, hn, if_true, cond_true]
          refine splitNE (fun h => h rfl) (fun _ => ?_)
          have hle := (far_pairs hn).2.2
          have h64 := (nacks_parts hn).2.1.2
          refine ⟨[f], ⟨ho.h.1, ho.h.2.1, hn⟩, pairsM [f], pairsM [f], ⟨rfl, rfl, by omega, rfl, rfl, by omega⟩, ?_⟩
          rw [decide_eq_true rfl]
          exact ⟨⟨trivial, by trivial⟩, .inr (.inl ⟨0, ⟨trivial⟩, by decide, by simp⟩)⟩
      · intro _ _
        refine ⟨r, hrl, _, rfl, ⟨r, hrl, ?_⟩⟩
        cases hn : nacksM r
        · simp only [pairsNM, pairsEM, hn, Bool.false_eq_true, if_false, cond_false]
          (repeat' (first | (with_reducible refine trivial) | ((guard_target = False); omega) | (((with_reducible refine wrapI ?_ ?_ ?_)); (focus (omega)); (focus (omega))) | ((fail_if_success (with_reducible refine wrapI ?_ ?_ ?_)); (with_reducible refine ⟨_, rfl, ?_⟩)) | (((with_reducible refine wrapU8 ?_ ?_ ?_)); (focus (omega)); (focus (omega))) | (((with_reducible refine ckI ?_ ?_)); (focus (first | (simp only [Bool.and_eq_true, Bool.and_true, Bool.true_and, decide_eq_true_eq, blt_iff, Nat.ble_eq, nbeq, cellsI_len,  List.length_append, List.length_cons, List.length_nil, Int.toNat_natCast, and_true, true_and, Bool.or_eq_true, Bool.not_eq_true', bne_iff_ne, ne_eq]; done) | (simp only [Bool.and_eq_true, Bool.and_true, Bool.true_and, decide_eq_true_eq, blt_iff, Nat.ble_eq, nbeq, cellsI_len,  List.length_append, List.length_cons, List.length_nil, Int.toNat_natCast, and_true, true_and, Bool.or_eq_true, Bool.not_eq_true', bne_iff_ne, ne_eq]; omega) | rfl | (simp; done) | (simp; omega)))) | (with_reducible refine splitD (fun _ => ?_) (fun _ => ?_) <;> (try (exfalso; omega))) | (with_reducible refine splitE (fun _ => ?_) (fun _ => ?_) <;> (try (exfalso; omega))) | (with_reducible refine splitNE (fun _ => ?_) (fun _ => ?_) <;> (try (exfalso; omega))) | (with_reducible refine splitNot ?_) | (with_reducible refine splitAnd ?_) | (with_reducible refine splitOr ?_)))
          all_goals first | exact ⟨⟨trivial, by trivial⟩, .inr (.inr ⟨0, ⟨trivial⟩, by decide, by simp⟩)⟩ | (rename_i h; simp at h)
        · simp only [pairsNM, pairsEM, hn, if_true, cond_true]
          refine splitNE (fun h => h rfl) (fun _ => ?_)
          have hle := (far_pairs hn).2.2
          have h64 := (nacks_parts hn).2.1.2
          refine ⟨r, ⟨hrl.h.1, hrl.h.2.1, hn⟩, pairsM r, pairsM r, ⟨rfl, rfl, by omega, rfl, rfl, by omega⟩, ?_⟩
          rw [decide_eq_true rfl]
          exact ⟨⟨trivial, by trivial⟩, .inr (.inr ⟨0, ⟨trivial⟩, by decide, by simp⟩)⟩
      · intro _ _
        refine wrapI (by omega) (by omega) (wrapI (by omega) (by omega) (wrapI (by omega) (by omega) ⟨.inl ⟨0, ⟨trivial⟩, by simp⟩, ?_, ?_, ?_, ?_⟩))
        · rintro _ _ x y ⟨e1⟩ x' y' ⟨e2⟩
          rw [e1] at e2
          obtain ⟨rfl, rfl⟩ := Prod.mk.inj e2
          refine splitNE (fun h => h rfl) (fun _ => splitNE (fun h => h rfl) (fun _ => ?_))
          exact ⟨⟨trivial, by trivial⟩, .inr (.inl ⟨0, ⟨trivial⟩, by decide, by simp⟩)⟩
        · rintro _ _ x y ⟨e1⟩ x' y' ⟨e2⟩
          rw [e1] at e2
          obtain ⟨rfl, rfl⟩ := Prod.mk.inj e2
          refine splitNE (fun h => h rfl) (fun _ => splitNE (fun h => h rfl) (fun _ => ?_))
          exact ⟨⟨trivial, by trivial⟩, .inr (.inr (.inl ⟨0, ⟨trivial⟩, by decide, by simp⟩))⟩
        · rintro _ _ x y ⟨e1⟩ x' y' ⟨e2⟩
          rw [e1] at e2
          obtain ⟨rfl, rfl⟩ := Prod.mk.inj e2
          refine splitNE (fun h => h rfl) (fun _ => splitNE (fun h => h rfl) (fun _ => ?_))
          exact ⟨⟨trivial, by trivial⟩, .inr (.inr (.inr ⟨0, ⟨trivial⟩, by decide, by simp⟩))⟩
        · intro _ _
          trivial
  · rintro i ⟨g1, g2⟩
    refine splitD (fun hlt => ?_) (fun hge => ?_)
    · have hk0 := hkr i (by omega)
      have ha := at4_rng f (ks.take i) hf
      have h3 := l4_take (f := f) (show i < ks.length by omega)
      have h4 := at4_take (f := f) (show i < ks.length by omega)
      have h5 := l4_len f (ks.take i)
      rw [List.length_take, Nat.min_eq_left (by omega)] at h5
      have ht : Int.tmod (ks.getD i 0) 24 = ks.getD i 0 % 24 := Int.tmod_eq_emod_of_nonneg (by omega)
      have hm : Int.tmod (at4M f (ks.take i) + ks.getD i 0 % 24) 65536 = next4M (at4M f (ks.take i)) (ks.getD i 0) := Int.tmod_eq_emod_of_nonneg (by omega)
      refine ckI (by first | (simp only [Bool.and_eq_true, Bool.and_true, Bool.true_and, decide_eq_true_eq, blt_iff, Nat.ble_eq, nbeq, cellsI_len,  List.length_append, List.length_cons, List.length_nil, Int.toNat_natCast, and_true, true_and, Bool.or_eq_true, Bool.not_eq_true', bne_iff_ne, ne_eq]; done) | (simp only [Bool.and_eq_true, Bool.and_true, Bool.true_and, decide_eq_true_eq, blt_iff, Nat.ble_eq, nbeq, cellsI_len,  List.length_append, List.length_cons, List.length_nil, Int.toNat_natCast, and_true, true_and, Bool.or_eq_true, Bool.not_eq_true', bne_iff_ne, ne_eq]; omega) | rfl | (simp; done) | (simp; omega)) (ckI (by first | (simp only [Bool.and_eq_true, Bool.and_true, Bool.true_and, decide_eq_true_eq, blt_iff, Nat.ble_eq, nbeq, cellsI_len, h8, List.length_append, List.length_cons, List.length_nil, Int.toNat_natCast, and_true, true_and, Bool.or_eq_true, Bool.not_eq_true', bne_iff_ne, ne_eq]; done) | (simp only [Bool.and_eq_true, Bool.and_true, Bool.true_and, decide_eq_true_eq, blt_iff, Nat.ble_eq, nbeq, cellsI_len, h8, List.length_append, List.length_cons, List.length_nil, Int.toNat_natCast, and_true, true_and, Bool.or_eq_true, Bool.not_eq_true', bne_iff_ne, ne_eq]; omega) | rfl | (simp; done) | (simp; omega)) (get8 (i := i) (by omega) (by omega) ?_))
      rw [ht]
      (repeat' (first | (with_reducible refine trivial) | ((guard_target = False); omega) | (((with_reducible refine wrapI ?_ ?_ ?_)); (focus (omega)); (focus (omega))) | ((fail_if_success (with_reducible refine wrapI ?_ ?_ ?_)); (with_reducible refine ⟨_, rfl, ?_⟩)) | (((with_reducible refine wrapU8 ?_ ?_ ?_)); (focus (omega)); (focus (omega))) | (((with_reducible refine ckI ?_ ?_)); (focus (first | (simp only [Bool.and_eq_true, Bool.and_true, Bool.true_and, decide_eq_true_eq, blt_iff, Nat.ble_eq, nbeq, cellsI_len, h5, List.length_append, List.length_cons, List.length_nil, Int.toNat_natCast, and_true, true_and, Bool.or_eq_true, Bool.not_eq_true', bne_iff_ne, ne_eq]; done) | (simp only [Bool.and_eq_true, Bool.and_true, Bool.true_and, decide_eq_true_eq, blt_iff, Nat.ble_eq, nbeq, cellsI_len, h5, List.length_append, List.length_cons, List.length_nil, Int.toNat_natCast, and_true, true_and, Bool.or_eq_true, Bool.not_eq_true', bne_iff_ne, ne_eq]; omega) | rfl | (simp; done) | (simp; omega)))) | (with_reducible refine splitD (fun _ => ?_) (fun _ => ?_) <;> (try (exfalso; omega))) | (with_reducible refine splitE (fun _ => ?_) (fun _ => ?_) <;> (try (exfalso; omega))) | (with_reducible refine splitNE (fun _ => ?_) (fun _ => ?_) <;> (try (exfalso; omega))) | (with_reducible refine splitNot ?_) | (with_reducible refine splitAnd ?_) | (with_reducible refine splitOr ?_)))
      rw [hm]
      refine ⟨⟨trivial, by trivial⟩, .inr ⟨i + 1, ⟨by omega⟩, by omega, ?_⟩⟩
      rw [h3, h4]
      simp [cellsI]
    · obtain rfl : i = ks.length := by omega
      have hLl := l4_len f ks
      rw [List.take_length]
      refine ⟨_, rfl, _, rfl, ?_⟩
      rw [hrm]
      refine ckI (by first | (simp only [Bool.and_eq_true, Bool.and_true, Bool.true_and, decide_eq_true_eq, blt_iff, Nat.ble_eq, nbeq, cellsI_len,  List.length_append, List.length_cons, List.length_nil, Int.toNat_natCast, and_true, true_and, Bool.or_eq_true, Bool.not_eq_true', bne_iff_ne, ne_eq]; done) | (simp only [Bool.and_eq_true, Bool.and_true, Bool.true_and, decide_eq_true_eq, blt_iff, Nat.ble_eq, nbeq, cellsI_len,  List.length_append, List.length_cons, List.length_nil, Int.toNat_natCast, and_true, true_and, Bool.or_eq_true, Bool.not_eq_true', bne_iff_ne, ne_eq]; omega) | rfl | (simp; done) | (simp; omega)) ?_
      rw [hr0]
      have ho : Lf (_ = cellsI (l4M f ks) ∧ ks.length + 1 = (l4M f ks).length ∧ (l4M f ks).length ≤ 4611686018427387904) := ⟨lendI 1 [⟨.exact, true, [.int .u16 s0, .int .u16 s1]⟩, ⟨.exact, true, [.int .i64 f]⟩, ⟨.grow, true, cellsI (l4M f ks)⟩] 7 (l4M f ks) (n := ks.length + 1) (by omega), by omega, by omega⟩
      refine ⟨.inl ⟨0, ⟨trivial⟩, by simp⟩, ?_, ?_, ?_⟩
      · intro _ _
        refine ckI (by first | (simp only [Bool.and_eq_true, Bool.and_true, Bool.true_and, decide_eq_true_eq, blt_iff, Nat.ble_eq, nbeq, cellsI_len, hLl, List.length_append, List.length_cons, List.length_nil, Int.toNat_natCast, and_true, true_and, Bool.or_eq_true, Bool.not_eq_true', bne_iff_ne, ne_eq]; done) | (simp only [Bool.and_eq_true, Bool.and_true, Bool.true_and, decide_eq_true_eq, blt_iff, Nat.ble_eq, nbeq, cellsI_len, hLl, List.length_append, List.length_cons, List.length_nil, Int.toNat_natCast, and_true, true_and, Bool.or_eq_true, Bool.not_eq_true', bne_iff_ne, ne_eq]; omega) | rfl | (simp; done) | (simp; omega)) (⟨(l4M f ks), ho, _, rfl, ckI (by first | (simp only [Bool.and_eq_true, Bool.and_true, Bool.true_and, decide_eq_true_eq, blt_iff, Nat.ble_eq, nbeq, cellsI_len, hLl, List.length_append, List.length_cons, List.length_nil, Int.toNat_natCast, and_true, true_and, Bool.or_eq_true, Bool.not_eq_true', bne_iff_ne, ne_eq]; done) | (simp only [Bool.and_eq_true, Bool.and_true, Bool.true_and, decide_eq_true_eq, blt_iff, Nat.ble_eq, nbeq, cellsI_len, hLl, List.length_append, List.length_cons, List.length_nil, Int.toNat_natCast, and_true, true_and, Bool.or_eq_true, Bool.not_eq_true', bne_iff_ne, ne_eq]; omega) | rfl | (simp; done) | (simp; omega)) (⟨(l4M f ks), ho, ?_⟩)⟩)
        cases hn : nacksM (l4M f ks)
        · simp only [pairsNM, pairsEM, hn, Bool.false_eq_true, if_false, cond_false]
          (repeat' (first | (with_reducible refine trivial) | ((guard_target = False); omega) | (((with_reducible refine wrapI ?_ ?_ ?_)); (focus (omega)); (focus (omega))) | ((fail_if_success (with_reducible refine wrapI ?_ ?_ ?_)); (with_reducible refine ⟨_, rfl, ?_⟩)) | (((with_reducible refine wrapU8 ?_ ?_ ?_)); (focus (omega)); (focus (omega))) | (((with_reducible refine ckI ?_ ?_)); (focus (first | (simp only [Bool.and_eq_true, Bool.and_true, Bool.true_and, decide_eq_true_eq, blt_iff, Nat.ble_eq, nbeq, cellsI_len,  List.length_append, List.length_cons, List.length_nil, Int.toNat_natCast, and_true, true_and, Bool.or_eq_true, Bool.not_eq_true', bne_iff_ne, ne_eq]; done) | (simp only [Bool.and_eq_true, Bool.and_true, Bool.true_and, decide_eq_true_eq, blt_iff, Nat.ble_eq, nbeq, cellsI_len,  List.length_append, List.length_cons, List.length_nil, Int.toNat_natCast, and_true, true_and, Bool.or_eq_true, Bool.not_eq_true', bne_iff_ne, ne_eq]; omega) | rfl | (simp; done) | (simp; omega)))) | (with_reducible refine splitD (fun _ => ?_) (fun _ => ?_) <;> (try (exfalso; omega))) | (with_reducible refine splitE (fun _ => ?_) (fun _ => ?_) <;> (try (exfalso; omega))) | (with_reducible refine splitNE (fun _ => ?_) (fun _ => ?_) <;> (try (exfalso; omega))) | (with_reducible refine splitNot ?_) | (with_reducible refine splitAnd ?_) | (with_reducible refine splitOr ?_)))
          all_goals first | exact ⟨⟨trivial, by trivial⟩, .inr (.inl ⟨0, ⟨trivial⟩, by decide, by simp⟩)⟩ | (rename_i h; simp at h)
        · simp only [pairsNM, pairsEM, hn, if_true, cond_true]
          refine splitNE (fun h => h rfl) (fun _ => ?_)
          have hle := (far_pairs hn).2.2
          have h64 := (nacks_parts hn).2.1.2
          refine ckI (by first | (simp only [Bool.and_eq_true, Bool.and_true, Bool.true_and, decide_eq_true_eq, blt_iff, Nat.ble_eq, nbeq, cellsI_len, hLl, List.length_append, List.length_cons, List.length_nil, Int.toNat_natCast, and_true, true_and, Bool.or_eq_true, Bool.not_eq_true', bne_iff_ne, ne_eq]; done) | (simp only [Bool.and_eq_true, Bool.and_true, Bool.true_and, decide_eq_true_eq, blt_iff, Nat.ble_eq, nbeq, cellsI_len, hLl, List.length_append, List.length_cons, List.length_nil, Int.toNat_natCast, and_true, true_and, Bool.or_eq_true, Bool.not_eq_true', bne_iff_ne, ne_eq]; omega) | rfl | (simp; done) | (simp; omega)) (⟨(l4M f ks), ⟨ho.h.1, ho.h.2.1, hn⟩, pairsM (l4M f ks), pairsM (l4M f ks), ⟨rfl, rfl, by omega, rfl, rfl, by omega⟩, ?_⟩)
          rw [decide_eq_true rfl]
          exact ⟨⟨trivial, by trivial⟩, .inr (.inl ⟨0, ⟨trivial⟩, by decide, by simp⟩)⟩
      · intro _ _
        refine ⟨r, hrl, _, rfl, ⟨r, hrl, ?_⟩⟩
        cases hn : nacksM r
        · simp only [pairsNM, pairsEM, hn, Bool.false_eq_true, if_false, cond_false]
          (repeat' (first | (with_reducible refine trivial) | ((guard_target = False); omega) | (((with_reducible refine wrapI ?_ ?_ ?_)); (focus (omega)); (focus (omega))) | ((fail_if_success (with_reducible refine wrapI ?_ ?_ ?_)); (with_reducible refine ⟨_, rfl, ?_⟩)) | (((with_reducible refine wrapU8 ?_ ?_ ?_)); (focus (omega)); (focus (omega))) | (((with_reducible refine ckI ?_ ?_)); (focus (first | (simp only [Bool.and_eq_true, Bool.and_true, Bool.true_and, decide_eq_true_eq, blt_iff, Nat.ble_eq, nbeq, cellsI_len,  List.length_append, List.length_cons, List.length_nil, Int.toNat_natCast, and_true, true_and, Bool.or_eq_true, Bool.not_eq_true', bne_iff_ne, ne_eq]; done) | (simp only [Bool.and_eq_true, Bool.and_true, Bool.true_and, decide_eq_true_eq, blt_iff, Nat.ble_eq, nbeq, cellsI_len,  List.length_append, List.length_cons, List.length_nil, Int.toNat_natCast, and_true, true_and, Bool.or_eq_true, Bool.not_eq_true', bne_iff_ne, ne_eq]; omega) | rfl | (simp; done) | (simp; omega)))) | (with_reducible refine splitD (fun _ => ?_) (fun _ => ?_) <;> (try (exfalso; omega))) | (with_reducible refine splitE (fun _ => ?_) (fun _ => ?_) <;> (try (exfalso; omega))) | (with_reducible refine splitNE (fun _ => ?_) (fun _ => ?_) <;> (try (exfalso; omega))) | (with_reducible refine splitNot ?_) | (with_reducible refine splitAnd ?_) | (with_reducible refine splitOr ?_)))
          all_goals first | exact ⟨⟨trivial, by trivial⟩, .inr (.inr ⟨0, ⟨trivial⟩, by decide, by simp⟩)⟩ | (rename_i h; simp at h)
        · simp only [pairsNM, pairsEM, hn, if_true, cond_true]
          refine splitNE (fun h => h rfl) (fun _ => ?_)
          have hle := (far_pairs hn).2.2
          have h64 := (nacks_parts hn).2.1.2
          refine ⟨r, ⟨hrl.h.1, hrl.h.2.1, hn⟩, pairsM r, pairsM r, ⟨rfl, rfl, by omega, rfl, rfl, by omega⟩, ?_⟩
          rw [decide_eq_true rfl]
          exact ⟨⟨trivial, by trivial⟩, .inr (.inr ⟨0, ⟨trivial⟩, by decide, by simp⟩)⟩
      · intro _ _
        refine wrapI (by omega) (by omega) (wrapI (by omega) (by omega) (wrapI (by omega) (by omega) ⟨.inl ⟨0, ⟨trivial⟩, by simp⟩, ?_, ?_, ?_, ?_⟩))
        · rintro _ _ x y ⟨e1⟩ x' y' ⟨e2⟩
          rw [e1] at e2
          obtain ⟨rfl, rfl⟩ := Prod.mk.inj e2
          refine splitNE (fun h => h rfl) (fun _ => splitNE (fun h => h rfl) (fun _ => ?_))
          exact ⟨⟨trivial, by trivial⟩, .inr (.inl ⟨0, ⟨trivial⟩, by decide, by simp⟩)⟩
        · rintro _ _ x y ⟨e1⟩ x' y' ⟨e2⟩
          rw [e1] at e2
          obtain ⟨rfl, rfl⟩ := Prod.mk.inj e2
          refine splitNE (fun h => h rfl) (fun _ => splitNE (fun h => h rfl) (fun _ => ?_))
          exact ⟨⟨trivial, by trivial⟩, .inr (.inr (.inl ⟨0, ⟨trivial⟩, by decide, by simp⟩))⟩
        · rintro _ _ x y ⟨e1⟩ x' y' ⟨e2⟩
          rw [e1] at e2
          obtain ⟨rfl, rfl⟩ := Prod.mk.inj e2
          refine splitNE (fun h => h rfl) (fun _ => splitNE (fun h => h rfl) (fun _ => ?_))
          exact ⟨⟨trivial, by trivial⟩, .inr (.inr (.inr ⟨0, ⟨trivial⟩, by decide, by simp⟩))⟩
        · intro _ _
          trivial
end Go.Proofs.YtafchcmemeinlaaDoor

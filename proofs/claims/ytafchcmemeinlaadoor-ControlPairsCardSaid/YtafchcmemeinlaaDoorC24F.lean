/-
  Chapter 24: the reference's Nacks.
-/
import Derived.Test.YtafchcmemeinlaaDoorC24E
set_option linter.unusedSimpArgs false
set_option linter.unusedVariables false
namespace Go.Proofs.YtafchcmemeinlaaDoor
open Go.RowKit
set_option maxRecDepth 1000000

def inv_19 (t : Nat) (xs : List Int) : LInv where
  α := Nat × Int
  pre p := Lf (1 ≤ xs.length ∧ xs.length ≤ 64 ∧ p.1 ≤ xs.length ∧ (xs.take p.1).any (badM 16) = false ∧ -1 ≤ p.2 ∧ p.2 ≤ 32767 ∧ nackGoM (xs.getD 0 0) (-1) xs = nackGoM (xs.getD 0 0) p.2 (xs.drop p.1))
  st p := ⟨mkT [(0, .lst t (cellsI xs) xs.length 1), (3, .int .i64 p.2), (4, .int .i64 p.1)], []⟩
  mu p := xs.length - p.1
noncomputable def goal_19 (hv : Nat → Option Pa) (hb : Nat → Option Bool) (t : Nat) (xs : List Int) (Q : Out → List Blk → Gh → Prop) : Prop :=
  callx (e24 sm0 (fun i => bif Nat.beq i 19000 then some (fun _ => [[inv_19 t xs]]) else none) hv hb) (wpx (e24 sm0 (fun i => bif Nat.beq i 19000 then some (fun _ => [[inv_19 t xs]]) else none) hv hb) 1000) 19 [.lst t (cellsI xs) xs.length 1] [] {} Q
theorem vc_19 (t : Nat) (xs : List Int) (Q : Out → List Blk → Gh → Prop) : goal_19 (lookV [(77831, .int .i64), (77835, .int .i64), (77838, .int .i64), (77840, .int .i64), (77845, .int .i64), (77847, .int .i64), (77851, .int .i64), (77853, .int .i64), (77856, .int .i64), (77857, .int .i64), (77858, .int .i64), (77859, .int .i64), (77842, .int .i64), (77843, .int .i64)]) (lookB []) t xs Q = (
(∃ n_0 : Int, (((AV.int IntKind.i64 (Nat.cast (List.length xs) : Int)) = (AV.int IntKind.i64 n_0)) ∧
 (bif (decide (n_0 < (1 : Int))) then (Q (Out.ret (AV.bool Bool.false)) [] (Gh.mk (0 : Nat) (0 : Nat) []))
else (∃ n_1 : Int, (((AV.int IntKind.i64 (Nat.cast (List.length xs) : Int)) = (AV.int IntKind.i64 n_1)) ∧
 (bif (decide (n_1 > (64 : Int))) then (Q (Out.ret (AV.bool Bool.false)) [] (Gh.mk (0 : Nat) (0 : Nat) []))
else ((∃ x_2 : (Prod Nat Int), ((Lf (((1 : Nat) ≤ (List.length xs)) ∧
 (((List.length xs) ≤ (64 : Nat)) ∧
 (((Prod.fst x_2) ≤ (List.length xs)) ∧
 (((List.any (List.take (Prod.fst x_2) xs) (badM (16 : Int))) = Bool.false) ∧
 (((- (1 : Int)) ≤ (Prod.snd x_2)) ∧
 (((Prod.snd x_2) ≤ (32767 : Int)) ∧
 ((nackGoM (List.getD xs (0 : Nat) (0 : Int)) (- (1 : Int)) xs) = (nackGoM (List.getD xs (0 : Nat) (0 : Int)) (Prod.snd x_2) (List.drop (Prod.fst x_2) xs)))))))))) ∧
 (((AV.lst t (cellsI xs) (List.length xs) (1 : Nat)) = (AV.lst t (cellsI xs) (List.length xs) (1 : Nat))) ∧
 (((AV.int IntKind.i64 (- (1 : Int))) = (AV.int IntKind.i64 (Prod.snd x_2))) ∧
 (((AV.int IntKind.i64 (0 : Int)) = (AV.int IntKind.i64 (Nat.cast (Prod.fst x_2) : Int))) ∧
 True))))) ∧
 (∀ x_2 : (Prod Nat Int), ((Lf (((1 : Nat) ≤ (List.length xs)) ∧
 (((List.length xs) ≤ (64 : Nat)) ∧
 (((Prod.fst x_2) ≤ (List.length xs)) ∧
 (((List.any (List.take (Prod.fst x_2) xs) (badM (16 : Int))) = Bool.false) ∧
 (((- (1 : Int)) ≤ (Prod.snd x_2)) ∧
 (((Prod.snd x_2) ≤ (32767 : Int)) ∧
 ((nackGoM (List.getD xs (0 : Nat) (0 : Int)) (- (1 : Int)) xs) = (nackGoM (List.getD xs (0 : Nat) (0 : Int)) (Prod.snd x_2) (List.drop (Prod.fst x_2) xs)))))))))) →
(∃ n_3 : Int, (((AV.int IntKind.i64 (Nat.cast (Prod.fst x_2) : Int)) = (AV.int IntKind.i64 n_3)) ∧
 (∃ n_4 : Int, (((AV.int IntKind.i64 (Nat.cast (List.length xs) : Int)) = (AV.int IntKind.i64 n_4)) ∧
 (bif (decide (n_3 < n_4)) then (∃ n_5 : Int, (((AV.int IntKind.i64 (Nat.cast (Prod.fst x_2) : Int)) = (AV.int IntKind.i64 n_5)) ∧
 (bif (((decide ((0 : Int) ≤ n_5)) && (Nat.blt (Int.toNat n_5) (List.length xs))) && Bool.true) then (bif (Nat.blt ((Int.toNat n_5) * (1 : Nat)) (List.length (cellsI xs))) then (∃ n_6 : Int, (((List.getD (cellsI xs) ((Int.toNat n_5) * (1 : Nat)) AV.undef) = (AV.int IntKind.i64 n_6)) ∧
 (bif (decide (n_6 ≥ (0 : Int))) then (bif (decide (n_6 < (65536 : Int))) then (∃ n_7 : Int, (((AV.int IntKind.i64 (Nat.cast (Prod.fst x_2) : Int)) = (AV.int IntKind.i64 n_7)) ∧
 (bif (((decide ((0 : Int) ≤ n_7)) && (Nat.blt (Int.toNat n_7) (List.length xs))) && Bool.true) then (bif (Nat.blt ((Int.toNat n_7) * (1 : Nat)) (List.length (cellsI xs))) then (∃ n_8 : Int, (((List.getD (cellsI xs) ((Int.toNat n_7) * (1 : Nat)) AV.undef) = (AV.int IntKind.i64 n_8)) ∧
 (bif ((Nat.blt (0 : Nat) (List.length xs)) && Bool.true) then (bif (Nat.blt (0 : Nat) (List.length (cellsI xs))) then (∃ n_9 : Int, (((List.getD (cellsI xs) (0 : Nat) AV.undef) = (AV.int IntKind.i64 n_9)) ∧
 (∃ n_10 : Int, (((AV.int IntKind.i64 (IntKind.wrap IntKind.i64 (n_8 - n_9))) = (AV.int IntKind.i64 n_10)) ∧
 (∃ n_11 : Int, (((AV.int IntKind.i64 (IntKind.wrap IntKind.i64 (n_10 + (65536 : Int)))) = (AV.int IntKind.i64 n_11)) ∧
 (∃ n_12 : Int, (((AV.int IntKind.i64 (Int.tmod n_11 (65536 : Int))) = (AV.int IntKind.i64 n_12)) ∧
 (bif (decide (n_12 ≤ (Prod.snd x_2))) then (Q (Out.ret (AV.bool Bool.false)) [] (Gh.mk (0 : Nat) (0 : Nat) []))
else (bif (decide (n_12 > (32767 : Int))) then (Q (Out.ret (AV.bool Bool.false)) [] (Gh.mk (0 : Nat) (0 : Nat) []))
else (∃ n_13 : Int, (((AV.int IntKind.i64 (Nat.cast (Prod.fst x_2) : Int)) = (AV.int IntKind.i64 n_13)) ∧
 (∃ n_14 : Int, (((AV.int IntKind.i64 (IntKind.wrap IntKind.i64 (n_13 + (1 : Int)))) = (AV.int IntKind.i64 n_14)) ∧
 ((True ∧
 ((0 : Nat) = (0 : Nat))) ∧
 (∃ y_15 : (Prod Nat Int), ((Lf (((1 : Nat) ≤ (List.length xs)) ∧
 (((List.length xs) ≤ (64 : Nat)) ∧
 (((Prod.fst y_15) ≤ (List.length xs)) ∧
 (((List.any (List.take (Prod.fst y_15) xs) (badM (16 : Int))) = Bool.false) ∧
 (((- (1 : Int)) ≤ (Prod.snd y_15)) ∧
 (((Prod.snd y_15) ≤ (32767 : Int)) ∧
 ((nackGoM (List.getD xs (0 : Nat) (0 : Int)) (- (1 : Int)) xs) = (nackGoM (List.getD xs (0 : Nat) (0 : Int)) (Prod.snd y_15) (List.drop (Prod.fst y_15) xs)))))))))) ∧
 ((((List.length xs) - (Prod.fst y_15)) < ((List.length xs) - (Prod.fst x_2))) ∧
 (((AV.lst t (cellsI xs) (List.length xs) (1 : Nat)) = (AV.lst t (cellsI xs) (List.length xs) (1 : Nat))) ∧
 (((AV.int IntKind.i64 n_12) = (AV.int IntKind.i64 (Prod.snd y_15))) ∧
 (((AV.int IntKind.i64 n_14) = (AV.int IntKind.i64 (Nat.cast (Prod.fst y_15) : Int))) ∧
 True)))))))))))))))))))))
else False)
else False)))
else False)
else False)))
else (Q (Out.ret (AV.bool Bool.false)) [] (Gh.mk (0 : Nat) (0 : Nat) [])))
else (Q (Out.ret (AV.bool Bool.false)) [] (Gh.mk (0 : Nat) (0 : Nat) [])))))
else False)
else False)))
else (Q (Out.ret (AV.bool Bool.true)) [] (Gh.mk (0 : Nat) (0 : Nat) []))))))))))))))))) := by kernel_rfl

theorem badM16 (x : Int) : badM 16 x = true ↔ x < 0 ∨ 65536 ≤ x := by
  simp only [badM, Bool.or_eq_true, decide_eq_true_eq]
  have e : (2 : Int) ^ min (16 : Int).toNat 64 = 65536 := rfl
  rw [e, Int.fdiv_eq_ediv_of_nonneg _ (by omega), bne_iff_ne]
  omega

theorem refNacks_run (t : Nat) (xs : List Int) (Q : Out → List Blk → Gh → Prop) (hl : xs.length ≤ 4611686018427387904) (hq : Q (.ret (.bool (nacksM xs))) [] {}) : ∃ hv hb, goal_19 hv hb t xs Q := by
  obtain ⟨hv, hb', e⟩ : ∃ hv hb, goal_19 hv hb t xs Q = _ := ⟨_, _, vc_19 t xs Q⟩
  refine ⟨hv, hb', e.mpr ?_⟩
  clear e
  refine ⟨_, rfl, ?_⟩
  refine splitI (fun h1 => ?_) (fun h1 => ?_)
  · have : nacksM xs = false := by
      simp only [decide_eq_true_eq] at h1
      have h0 : ¬ 1 ≤ xs.length := by omega
      simp only [nacksM, decide_eq_false h0, Bool.false_and]
    rw [this] at hq; exact hq
  refine ⟨_, rfl, ?_⟩
  refine splitI (fun h2 => ?_) (fun h2 => ?_)
  · have : nacksM xs = false := by
      simp only [gt_iff_lt, decide_eq_true_eq] at h2
      have h0 : ¬ xs.length ≤ 64 := by omega
      simp only [nacksM, decide_eq_false h0, Bool.false_and, Bool.and_false]
    rw [this] at hq; exact hq
  simp only [decide_eq_false_iff_not, gt_iff_lt, Int.not_lt] at h1 h2
  refine ⟨⟨(0, -1), ⟨⟨by omega, by omega, by omega, by simp, by omega, by omega, by simp⟩⟩, by simp⟩, ?_⟩
  rintro ⟨i, far⟩ ⟨g1, g2, g3, g4, g5, g6, g7⟩
  simp only at g3 g4 g5 g6 g7
  refine ⟨_, rfl, _, rfl, splitI (fun hlt => ?_) (fun hge => ?_)⟩
  · have hlt' : i < xs.length := by simpa using hlt
    have hbad : ∀ j, (hj : j < xs.length) → badM 16 xs[j] = true → nacksM xs = false := fun j hj hb => by
      have : xs.any (badM 16) = true := List.any_eq_true.2 ⟨xs[j], List.getElem_mem hj, hb⟩
      simp only [nacksM, this, Bool.not_true, Bool.and_false, Bool.false_and]
    have hgo : nackGoM (xs.getD 0 0) (-1) xs = false → nacksM xs = false := fun h => by simp only [nacksM, h, Bool.and_false]
    have hx0 : xs.getD 0 0 = xs[0] := by simp [show 0 < xs.length by omega]
    refine ⟨_, rfl, ckI (by simp [Nat.blt]; exact hlt') (ckI (blt_of (by rw [cellsI_length]; simpa using hlt')) (cellsI_get hlt' ?_ (by simp)))⟩
    refine splitI (fun b1 => splitI (fun b2 => ?_) (fun b2 => ?_)) (fun b1 => ?_)
    · simp only [ge_iff_le, decide_eq_true_eq] at b1 b2
      have hbi : badM 16 xs[i] = false := by
        cases h : badM 16 xs[i] with
        | false => rfl
        | true => have := (badM16 _).1 h; omega
      have hstep : (xs.take (i + 1)).any (badM 16) = false := by
        rw [List.take_add_one, List.any_append, g4]; simp [hlt', hbi]
      have b0 : 0 ≤ xs[0] ∧ xs[0] < 65536 := by
        have h0 : badM 16 xs[0] = false := by
          have := List.any_eq_false.1 hstep xs[0] (by
            rw [List.mem_take_iff_getElem]
            exact ⟨0, by omega, rfl⟩)
          simpa using this
        have : ¬ (xs[0] < 0 ∨ 65536 ≤ xs[0]) := fun h => by rw [(badM16 _).2 h] at h0; cases h0
        omega
      refine ⟨_, rfl, ckI (by simp [Nat.blt]; exact hlt') (ckI (blt_of (by rw [cellsI_length]; simpa using hlt')) (cellsI_get hlt' ?_ (by simp)))⟩
      refine ckI (by simp [Nat.blt]; omega) (ckI (blt_of (by rw [cellsI_length]; omega)) (cellsI_get (show 0 < xs.length by omega) ?_ rfl))
      refine wrapI (by omega) (by omega) (wrapI (by omega) (by omega) ⟨_, rfl, ?_⟩)
      have em : (xs[i] - xs[0] + 65536).tmod 65536 = (xs[i] - xs[0]) % 65536 := by
        rw [Int.tmod_eq_emod_of_nonneg (by omega)]; omega
      rw [em]
      rw [List.drop_eq_getElem_cons hlt', nackGoM, hx0] at g7
      refine splitI (fun h4 => ?_) (fun h4 => splitI (fun h5 => ?_) (fun h5 => ?_))
      · rw [if_pos (.inl (by simpa using h4))] at g7
        rw [hgo (by rw [hx0]; exact g7)] at hq; exact hq
      · rw [if_pos (.inr (by simpa using h5))] at g7
        rw [hgo (by rw [hx0]; exact g7)] at hq; exact hq
      · simp only [decide_eq_false_iff_not, gt_iff_lt, Int.not_lt, Int.not_le] at h4 h5
        rw [if_neg (by omega)] at g7
        exact ⟨_, rfl, wrapI (by omega) (by omega) ⟨⟨trivial, rfl⟩, (i + 1, (xs[i] - xs[0]) % 65536), ⟨⟨g1, g2, hlt', hstep, by omega, h5, by rw [hx0]; exact g7⟩⟩, Nat.sub_succ_lt_self _ _ hlt', by simp⟩⟩
    · simp only [decide_eq_false_iff_not] at b2
      rw [hbad i hlt' ((badM16 _).2 (by omega))] at hq; exact hq
    · simp only [ge_iff_le, decide_eq_false_iff_not] at b1
      rw [hbad i hlt' ((badM16 _).2 (by omega))] at hq; exact hq
  · have hle : xs.length ≤ i := by simpa using hge
    rw [List.drop_of_length_le hle, nackGoM] at g7
    rw [List.take_of_length_le hle] at g4
    have : nacksM xs = true := by
      simp only [nacksM, g4, g7, Bool.not_false, Bool.and_true]
      rw [decide_eq_true (by omega), decide_eq_true (by omega)]; rfl
    rw [this] at hq; exact hq

theorem refNacks_ok : ValidF Tryd.prog glC 19 cNacksV := by
  refine valid_view (c := cNacks) (valid_flat (enters_of (by kernel_rfl)) glC_noY fun args H Q hc => ?_) glC_noY [1] cNacks_view
  unfold cNacks at hc
  split at hc
  · rename_i t l n
    obtain ⟨xs, ⟨rfl, rfl, hl⟩, hq⟩ := hc
    obtain ⟨hv, hb', h⟩ := refNacks_run t xs (hl := hl) (Q := fun o H' _ => H' = [] ∧ (∃ v, o = .ret v ∧ old 0 v = true ∧ noY v = true) ∧ Q o H) ⟨rfl, ⟨_, rfl, rfl, rfl⟩, hq⟩
    exact ⟨rfl, rfl, _, 1000, envFor24 sm0_ok _ _ _, rfl, h⟩
  · exact hc.elim
end Go.Proofs.YtafchcmemeinlaaDoor

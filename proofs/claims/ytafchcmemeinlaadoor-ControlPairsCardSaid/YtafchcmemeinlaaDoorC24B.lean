/-
  Chapter 24: Fraction.
-/
import Derived.Test.YtafchcmemeinlaaDoorC24A
set_option linter.unusedSimpArgs false
set_option linter.unusedVariables false
namespace Go.Proofs.YtafchcmemeinlaaDoor
open Go.RowKit

set_option maxRecDepth 1000000
def fracM (a b : Int) : Int × Int := if a < 0 ∨ b < 0 ∨ 4294967296 < imax a b then (0, 2) else if a ≤ b then (0, 0) else (imin 255 (((a - b) * 256).tdiv a), 0)
def cFrac : List AV → List Blk → (Out → List Blk → Prop) → Prop
  | [.int .i64 a, .int .i64 b], H, K => ∀ x y : Int, Lf (fracM a b = (x, y)) → K (.ret (.tup [.int .i64 x, .int .i64 y])) H
  | _, _, _ => False
--GOAL 22
noncomputable def goal_22 (hv : Nat → Option Pa) (hb : Nat → Option Bool) (a b : Int) (Q : Out → List Blk → Gh → Prop) : Prop :=
  callx (e24 sm0 (fun _ => none) hv hb) (wpx (e24 sm0 (fun _ => none) hv hb) 1000) 22 [.int .i64 a, .int .i64 b] [] {} Q
theorem vc_22 (a : Int) (b : Int) (Q : Out → List Blk → Gh → Prop) : goal_22 (lookV [(90127, .int .i64), (90135, .int .i64), (90136, .int .i64), (90138, .int .i64), (90139, .int .i64)]) (lookB []) a b Q = (
(bif (decide (a < (0 : Int))) then (Q (Out.ret (AV.tup ((AV.int IntKind.i64 (0 : Int)) :: ((AV.int IntKind.i64 (2 : Int)) :: [])))) [] (Gh.mk (0 : Nat) (0 : Nat) []))
else (bif (decide (b < (0 : Int))) then (Q (Out.ret (AV.tup ((AV.int IntKind.i64 (0 : Int)) :: ((AV.int IntKind.i64 (2 : Int)) :: [])))) [] (Gh.mk (0 : Nat) (0 : Nat) []))
else (∃ n_0 : Int, (((AV.int IntKind.i64 (imax a b)) = (AV.int IntKind.i64 n_0)) ∧
 (bif (decide (n_0 > (4294967296 : Int))) then (Q (Out.ret (AV.tup ((AV.int IntKind.i64 (0 : Int)) :: ((AV.int IntKind.i64 (2 : Int)) :: [])))) [] (Gh.mk (0 : Nat) (0 : Nat) []))
else (bif (decide (b ≥ a)) then (Q (Out.ret (AV.tup ((AV.int IntKind.i64 (0 : Int)) :: ((AV.int IntKind.i64 (0 : Int)) :: [])))) [] (Gh.mk (0 : Nat) (0 : Nat) []))
else (∃ n_1 : Int, (((AV.int IntKind.i64 (IntKind.wrap IntKind.i64 (a - b))) = (AV.int IntKind.i64 n_1)) ∧
 (∃ n_2 : Int, (((AV.int IntKind.i64 (IntKind.wrap IntKind.i64 (n_1 * (256 : Int)))) = (AV.int IntKind.i64 n_2)) ∧
 (bif ((a != (0 : Int)) && Bool.true) then (∃ n_3 : Int, (((AV.int IntKind.i64 (IntKind.wrap IntKind.i64 (Int.tdiv n_2 a))) = (AV.int IntKind.i64 n_3)) ∧
 (∃ n_4 : Int, (((AV.int IntKind.i64 (imin (255 : Int) n_3)) = (AV.int IntKind.i64 n_4)) ∧
 (Q (Out.ret (AV.tup ((AV.int IntKind.i64 n_4) :: ((AV.int IntKind.i64 (0 : Int)) :: [])))) [] (Gh.mk (0 : Nat) (0 : Nat) []))))))
else False)))))))))))) := by kernel_rfl

theorem frac_leaf {a b x y : Int} {H : List Blk} {Q : Out → List Blk → Prop} (hc : ∀ x y : Int, Lf (fracM a b = (x, y)) → Q (.ret (.tup [.int .i64 x, .int .i64 y])) H) (e : fracM a b = (x, y)) :
    ([] : List Blk) = [] ∧ (∃ v, Out.ret (.tup [.int .i64 x, .int .i64 y]) = .ret v ∧ old 0 v = true ∧ noY v = true) ∧ Q (.ret (.tup [.int .i64 x, .int .i64 y])) H := by
  exact ⟨rfl, ⟨_, rfl, rfl, rfl⟩, hc x y ⟨e⟩⟩

theorem frac_ok : ValidF Tryd.prog glC 22 cFrac := by
  refine valid_flat (enters_of (by kernel_rfl)) glC_noY fun args H Q hc => ?_
  unfold cFrac at hc
  split at hc
  · rename_i a b
    refine ⟨rfl, rfl, _, 1000, envFor24 sm0_ok _ _ _, rfl, (vc_22 a b _).mpr ?_⟩
    refine splitI (fun h1 => ?_) (fun h1 => splitI (fun h2 => ?_) (fun h2 => ⟨_, rfl, splitI (fun h3 => ?_) (fun h3 => splitI (fun h4 => ?_) (fun h4 => ?_))⟩)) <;> (try simp only [decide_eq_true_eq, decide_eq_false_iff_not] at h1) <;> (try simp only [decide_eq_true_eq, decide_eq_false_iff_not] at h2) <;> (try simp only [decide_eq_true_eq, decide_eq_false_iff_not] at h3) <;> (try simp only [decide_eq_true_eq, decide_eq_false_iff_not] at h4)
    · exact frac_leaf hc (if_pos (.inl h1))
    · exact frac_leaf hc (if_pos (.inr (.inl h2)))
    · exact frac_leaf hc (if_pos (.inr (.inr h3)))
    · refine frac_leaf hc ?_
      rw [fracM, if_neg (by omega), if_pos h4]
    · have hm : a ≤ 4294967296 ∧ b ≤ 4294967296 := by
        unfold imax at h3
        split at h3 <;> omega
      refine wrapI (by omega) (by omega) ?_
      show ∃ n : Int, AV.int .i64 (IntKind.wrap .i64 ((a - b) * 256)) = AV.int .i64 n ∧ _
      refine wrapI (by omega) (by omega) (ckI (by simp; omega) ?_)
      have hq : 0 ≤ ((a - b) * 256).tdiv a ∧ ((a - b) * 256).tdiv a ≤ (a - b) * 256 := by
        rw [Int.tdiv_eq_ediv_of_nonneg (by omega)]
        exact ⟨Int.ediv_nonneg (by omega) (by omega), Int.ediv_le_self _ (by omega)⟩
      refine wrapI (by omega) (by omega) ⟨_, rfl, ?_⟩
      refine frac_leaf hc ?_
      rw [fracM, if_neg (by omega), if_neg (by omega)]
  · exact hc.elim

/-! ## ControlLess -/
def smLess : SM := fun f => bif Nat.beq f 17 then some cTrue else bif Nat.beq f 22 then some cFrac else none
theorem smLess_ok : ∀ f g, smLess f = some g → ValidF Tryd.prog glC f g := by
  intro f g h
  unfold smLess at h
  cases h1 : Nat.beq f 17
  · rw [h1] at h
    cases h2 : Nat.beq f 22
    · rw [h2] at h; cases h
    · rw [h2] at h
      obtain rfl := Nat.eq_of_beq_eq_true h2
      cases h
      exact frac_ok
  · rw [h1] at h
    obtain rfl := Nat.eq_of_beq_eq_true h1
    cases h
    exact works_ok
noncomputable def goal_7 (hv : Nat → Option Pa) (hb : Nat → Option Bool) (a b c : Int) : Prop :=
  callx (e24 smLess (fun _ => none) hv hb) (wpx (e24 smLess (fun _ => none) hv hb) 1000) 7 [.int .u32 a, .int .u32 b, .int .u16 c] [] {} isT
theorem vc_7 (a : Int) (b : Int) (c : Int) : goal_7 (lookV [(28689, .int .i64), (28691, .int .i64), (28696, .int .i64), (28698, .int .i64), (28699, .int .i64), (28700, .int .i64), (28703, .int .i64), (28729, .int .i64), (28731, .int .i64), (28739, .int .i64), (28741, .int .i64), (28751, .int .i64), (28752, .int .i64), (28754, .int .i64), (28758, .int .i64), (28760, .int .i64), (28762, .int .i64), (28763, .int .i64)]) (lookB []) a b c = (
(∃ n_0 : Int, (((AV.int IntKind.i64 (IntKind.wrap IntKind.i64 a)) = (AV.int IntKind.i64 n_0)) ∧
 (∃ n_1 : Int, (((AV.int IntKind.i64 (IntKind.wrap IntKind.i64 b)) = (AV.int IntKind.i64 n_1)) ∧
 (∀ x_2 : Int, (∀ y_3 : Int, ((Lf ((fracM n_0 n_1) = (Prod.mk x_2 y_3))) →
(∃ n_4 : Int, (((AV.int IntKind.i64 (IntKind.wrap IntKind.i64 b)) = (AV.int IntKind.i64 n_4)) ∧
 (∃ n_5 : Int, (((AV.int IntKind.i64 (IntKind.wrap IntKind.i64 c)) = (AV.int IntKind.i64 n_5)) ∧
 (∃ n_6 : Int, (((AV.int IntKind.i64 (IntKind.wrap IntKind.i64 (n_4 - n_5))) = (AV.int IntKind.i64 n_6)) ∧
 (∃ n_7 : Int, (((AV.int IntKind.i64 (imax (0 : Int) n_6)) = (AV.int IntKind.i64 n_7)) ∧
 (∃ n_8 : Int, (((AV.int IntKind.i64 (IntKind.wrap IntKind.i64 a)) = (AV.int IntKind.i64 n_8)) ∧
 (∀ x_9 : Int, (∀ y_10 : Int, ((Lf ((fracM n_8 n_7) = (Prod.mk x_9 y_10))) →
(bif (y_3 != (0 : Int)) then False
else (bif (y_10 != (0 : Int)) then False
else (bif (decide (x_2 < (0 : Int))) then False
else (bif (decide (x_2 > x_9)) then False
else (bif (decide (x_9 > (255 : Int))) then False
else (∃ n_11 : Int, (((AV.int IntKind.i64 (IntKind.wrap IntKind.i64 b)) = (AV.int IntKind.i64 n_11)) ∧
 (∃ n_12 : Int, (((AV.int IntKind.i64 (IntKind.wrap IntKind.i64 a)) = (AV.int IntKind.i64 n_12)) ∧
 (bif (decide (n_11 ≥ n_12)) then (bif (x_2 != (0 : Int)) then False
else (∃ n_13 : Int, (((AV.int IntKind.i64 (IntKind.wrap IntKind.i64 a)) = (AV.int IntKind.i64 n_13)) ∧
 (∃ n_14 : Int, (((AV.int IntKind.i64 (IntKind.wrap IntKind.i64 (n_13 - n_7))) = (AV.int IntKind.i64 n_14)) ∧
 (bif (decide (n_14 ≤ (0 : Int))) then True
else (bif (x_9 == (255 : Int)) then True
else (∃ n_15 : Int, (((AV.int IntKind.i64 (IntKind.wrap IntKind.i64 a)) = (AV.int IntKind.i64 n_15)) ∧
 (∃ n_16 : Int, (((AV.int IntKind.i64 (IntKind.wrap IntKind.i64 (x_9 * n_15))) = (AV.int IntKind.i64 n_16)) ∧
 (∃ n_17 : Int, (((AV.int IntKind.i64 (IntKind.wrap IntKind.i64 ((256 : Int) * n_14))) = (AV.int IntKind.i64 n_17)) ∧
 (bif (decide (n_16 ≤ n_17)) then (∃ n_18 : Int, (((AV.int IntKind.i64 (IntKind.wrap IntKind.i64 ((256 : Int) * n_14))) = (AV.int IntKind.i64 n_18)) ∧
 (∃ n_19 : Int, (((AV.int IntKind.i64 (IntKind.wrap IntKind.i64 (x_9 + (1 : Int)))) = (AV.int IntKind.i64 n_19)) ∧
 (∃ n_20 : Int, (((AV.int IntKind.i64 (IntKind.wrap IntKind.i64 a)) = (AV.int IntKind.i64 n_20)) ∧
 (∃ n_21 : Int, (((AV.int IntKind.i64 (IntKind.wrap IntKind.i64 (n_19 * n_20))) = (AV.int IntKind.i64 n_21)) ∧
 (bif (decide (n_18 < n_21)) then True
else False)))))))))
else False))))))))))))))
else (∃ n_13 : Int, (((AV.int IntKind.i64 (IntKind.wrap IntKind.i64 a)) = (AV.int IntKind.i64 n_13)) ∧
 (∃ n_14 : Int, (((AV.int IntKind.i64 (IntKind.wrap IntKind.i64 (n_13 - n_7))) = (AV.int IntKind.i64 n_14)) ∧
 (bif (decide (n_14 ≤ (0 : Int))) then True
else (bif (x_9 == (255 : Int)) then True
else (∃ n_15 : Int, (((AV.int IntKind.i64 (IntKind.wrap IntKind.i64 a)) = (AV.int IntKind.i64 n_15)) ∧
 (∃ n_16 : Int, (((AV.int IntKind.i64 (IntKind.wrap IntKind.i64 (x_9 * n_15))) = (AV.int IntKind.i64 n_16)) ∧
 (∃ n_17 : Int, (((AV.int IntKind.i64 (IntKind.wrap IntKind.i64 ((256 : Int) * n_14))) = (AV.int IntKind.i64 n_17)) ∧
 (bif (decide (n_16 ≤ n_17)) then (∃ n_18 : Int, (((AV.int IntKind.i64 (IntKind.wrap IntKind.i64 ((256 : Int) * n_14))) = (AV.int IntKind.i64 n_18)) ∧
 (∃ n_19 : Int, (((AV.int IntKind.i64 (IntKind.wrap IntKind.i64 (x_9 + (1 : Int)))) = (AV.int IntKind.i64 n_19)) ∧
 (∃ n_20 : Int, (((AV.int IntKind.i64 (IntKind.wrap IntKind.i64 a)) = (AV.int IntKind.i64 n_20)) ∧
 (∃ n_21 : Int, (((AV.int IntKind.i64 (IntKind.wrap IntKind.i64 (n_19 * n_20))) = (AV.int IntKind.i64 n_21)) ∧
 (bif (decide (n_18 < n_21)) then True
else False)))))))))
else False)))))))))))))))))))))))))))))))))))))))))))) := by kernel_rfl

theorem frac_le {a b : Int} (ha : 0 ≤ a) (hb : 0 ≤ b) (ha2 : a ≤ 4294967296) (hb2 : b ≤ 4294967296) (h : a ≤ b) : fracM a b = (0, 0) := by
  have : ¬ 4294967296 < imax a b := by unfold imax; split <;> omega
  rw [fracM, if_neg (by omega), if_pos h]

theorem frac_gt {a b : Int} (ha : 0 ≤ a) (hb : 0 ≤ b) (ha2 : a ≤ 4294967296) (hb2 : b ≤ 4294967296) (h : b < a) : fracM a b = (imin 255 ((a - b) * 256 / a), 0) := by
  have : ¬ 4294967296 < imax a b := by unfold imax; split <;> omega
  rw [fracM, if_neg (by omega), if_neg (by omega), Int.tdiv_eq_ediv_of_nonneg (by omega)]

theorem imin_le (x y : Int) : imin x y ≤ x ∧ imin x y ≤ y ∧ (imin x y = x ∨ imin x y = y) := by unfold imin; split <;> omega

theorem less_run (a b c : Int) (ha : 0 ≤ a ∧ a ≤ 4294967295) (hb : 0 ≤ b ∧ b ≤ 4294967295) (hc : 0 ≤ c ∧ c ≤ 65535) : ∃ hv hb, goal_7 hv hb a b c := by
  refine ⟨_, _, (vc_7 a b c).mpr ?_⟩
  have T : ∀ b' : Int, 0 ≤ b' → b' ≤ b → ∀ x y, fracM a b = (x, 0) → fracM a b' = (y, 0) → 0 ≤ x ∧ x ≤ y ∧ y ≤ 255 ∧ (a ≤ b → x = 0) ∧ (0 < a - b' → y = 255 ∨ (y * a ≤ 256 * (a - b') ∧ 256 * (a - b') < (y + 1) * a)) := by
    intro b' h1 h2 x y e1 e2
    have hx : 0 ≤ x ∧ x ≤ 255 ∧ (a ≤ b → x = 0) ∧ (b < a → x = imin 255 ((a - b) * 256 / a)) := by
      by_cases h : a ≤ b
      · rw [frac_le (by omega) (by omega) (by omega) (by omega) h] at e1
        cases e1
        exact ⟨by omega, by omega, fun _ => rfl, fun h' => by omega⟩
      · rw [frac_gt (by omega) (by omega) (by omega) (by omega) (by omega)] at e1
        cases e1
        have hm := imin_le 255 ((a - b) * 256 / a)
        have : 0 ≤ (a - b) * 256 / a := Int.ediv_nonneg (by omega) (by omega)
        exact ⟨by omega, hm.1, fun h' => by omega, fun _ => rfl⟩
    by_cases h' : a ≤ b'
    · rw [frac_le (by omega) (by omega) (by omega) (by omega) h'] at e2
      cases e2
      have := hx.2.2.1 (by omega)
      exact ⟨hx.1, by omega, by omega, hx.2.2.1, fun h => by omega⟩
    · rw [frac_gt (by omega) (by omega) (by omega) (by omega) (by omega)] at e2
      cases e2
      have hm := imin_le 255 ((a - b') * 256 / a)
      have h0 : 0 ≤ (a - b') * 256 / a := Int.ediv_nonneg (by omega) (by omega)
      have hd := Int.mul_ediv_add_emod ((a - b') * 256) a
      have hr := Int.emod_nonneg ((a - b') * 256) (show a ≠ 0 by omega)
      have hr2 := Int.emod_lt_of_pos ((a - b') * 256) (show 0 < a by omega)
      refine ⟨hx.1, ?_, hm.1, hx.2.2.1, fun _ => ?_⟩
      · by_cases h : a ≤ b
        · have := hx.2.2.1 h; omega
        · have h3 := hx.2.2.2 (by omega)
          have hle : (a - b) * 256 / a ≤ (a - b') * 256 / a := Int.ediv_le_ediv (by omega) (by omega)
          have hm2 := imin_le 255 ((a - b) * 256 / a)
          omega
      · rcases hm.2.2 with e | e
        · exact .inl e
        · right
          rw [e, Int.add_mul, Int.mul_comm ((a - b') * 256 / a) a]
          generalize a * ((a - b') * 256 / a) = z at *
          omega
  have F : ∀ u v : Int, 0 ≤ u → 0 ≤ v → u ≤ 4294967296 → v ≤ 4294967296 → (fracM u v).2 = 0 := by
    intro u v h1 h2 h3 h4
    by_cases h : u ≤ v
    · rw [frac_le h1 h2 h3 h4 h]
    · rw [frac_gt h1 h2 h3 h4 (by omega)]
  refine wrapI (by omega) (by omega) (wrapI (by omega) (by omega) ?_)
  rintro x y ⟨e1⟩
  refine wrapI (by omega) (by omega) (wrapI (by omega) (by omega) (wrapI (by omega) (by omega) ⟨_, rfl, wrapI (by omega) (by omega) ?_⟩))
  rintro x2 y2 ⟨e2⟩
  have hm : 0 ≤ imax 0 (b - c) ∧ imax 0 (b - c) ≤ b := by unfold imax; split <;> omega
  have y0 : y = 0 := by have := F a b (by omega) (by omega) (by omega) (by omega); rw [e1] at this; exact this
  have y20 : y2 = 0 := by have := F a (imax 0 (b - c)) (by omega) (by omega) (by omega) (by omega); rw [e2] at this; exact this
  subst y0 y20
  obtain ⟨t1, t2, t3, t4, t5⟩ := T _ hm.1 hm.2 _ _ e1 e2
  have hx2a : 0 ≤ x2 * a ∧ x2 * a ≤ 255 * 4294967295 := ⟨Int.mul_nonneg (by omega) (by omega), Int.mul_le_mul t3 ha.2 ha.1 (by omega)⟩
  have hx2b : (x2 + 1) * a = x2 * a + a := by rw [Int.add_mul, Int.one_mul]
  have fin : bif decide (a - imax 0 (b - c) ≤ 0) then True else bif x2 == 255 then True else ∃ n, AV.int .i64 (IntKind.wrap .i64 a) = AV.int .i64 n ∧ ∃ n_9, AV.int .i64 (IntKind.wrap .i64 (x2 * n)) = AV.int .i64 n_9 ∧ ∃ n, AV.int .i64 (IntKind.wrap .i64 (256 * (a - imax 0 (b - c)))) = AV.int .i64 n ∧
      bif decide (n_9 ≤ n) then ∃ n, AV.int .i64 (IntKind.wrap .i64 (256 * (a - imax 0 (b - c)))) = AV.int .i64 n ∧ ∃ n_10, AV.int .i64 (IntKind.wrap .i64 (x2 + 1)) = AV.int .i64 n_10 ∧ ∃ n_11, AV.int .i64 (IntKind.wrap .i64 a) = AV.int .i64 n_11 ∧ ∃ n_12, AV.int .i64 (IntKind.wrap .i64 (n_10 * n_11)) = AV.int .i64 n_12 ∧ bif decide (n < n_12) then True else False else False := by
    refine splitI (fun _ => trivial) (fun h1 => splitI (fun _ => trivial) (fun h2 => ?_))
    simp only [decide_eq_false_iff_not, beq_eq_false_iff_ne, ne_eq] at h1 h2
    have h3 := (t5 (by omega)).resolve_left h2
    rw [hx2b] at h3
    refine wrapI (by omega) (by omega) (wrapI (by omega) (by omega) (wrapI (by omega) (by omega) (ckI (by simpa using h3.1) (wrapI (by omega) (by omega) (wrapI (by omega) (by omega) (wrapI (by omega) (by omega) ?_))))))
    rw [hx2b]
    exact wrapI (by omega) (by omega) (ckI (by simpa using h3.2) trivial)
  refine splitI (fun h => by simp at h) (fun _ => splitI (fun h => by simp at h) (fun _ => splitI (fun h => ?_) (fun _ => splitI (fun h => ?_) (fun _ => splitI (fun h => ?_) (fun _ => ?_)))))
  · simp only [decide_eq_true_eq] at h; omega
  · simp only [decide_eq_true_eq] at h; omega
  · simp only [decide_eq_true_eq] at h; omega
  refine wrapI (by omega) (by omega) (wrapI (by omega) (by omega) (splitI (fun h => ?_) (fun h => ?_)))
  · simp only [ge_iff_le, decide_eq_true_eq] at h
    have hx0 := t4 h
    subst hx0
    refine splitI (fun h => by simp at h) (fun _ => wrapI (by omega) (by omega) (wrapI (by omega) (by omega) fin))
  · exact wrapI (by omega) (by omega) (wrapI (by omega) (by omega) fin)
end Go.Proofs.YtafchcmemeinlaaDoor

/-
  Chapter 18: lists of fingerprints: proved.
-/
import Derived.Test.YtifjpcdpmimccaaGreatDoorB18FA
import Derived.Test.YtifjpcdpmimccaaGreatDoorBnD
set_option linter.unusedSimpArgs false
set_option linter.unusedVariables false
set_option linter.unusedSectionVars false
namespace Go.Proofs.YtifjpcdpmimccaaGreatDoor
open Go.RowKit
set_option maxRecDepth 1000000

theorem dr_len (x : Dr) : (drC x).length = 5 := rfl
theorem drs_cons (x : Dr) (l : List Dr) : cellsDM (x :: l) = drC x ++ cellsDM l := by
  rw [cellsDM, List.map_cons, List.flatten_cons]; rfl
theorem drs_len : ∀ l : List Dr, (cellsDM l).length = 5 * l.length
  | [] => rfl
  | x :: l => by rw [drs_cons, List.length_append, drs_len l, dr_len, List.length_cons]; omega
theorem dropL {α : Type} (a b : List α) (k : Nat) : (a ++ b).drop (a.length + k) = b.drop k := by
  rw [← List.drop_drop, List.drop_left]
theorem drs_at : ∀ (l : List Dr) (i : Nat) (hi : i < l.length), ((cellsDM l).drop (i * 5)).take 5 = drC l[i]
  | x :: l, 0, _ => by rw [drs_cons, Nat.zero_mul, List.drop_zero, List.take_left' (dr_len x)]; rfl
  | x :: l, i + 1, hi => by
    rw [drs_cons, show (i + 1) * 5 = (drC x).length + i * 5 by rw [dr_len]; omega, dropL, List.getElem_cons_succ]
    exact drs_at l i (by rw [List.length_cons] at hi; omega)
theorem drs_sub {l : List Dr} {m i : Nat} (hm : m ≤ l.length) (hi : i < m) : List.take 5 (List.drop (i * 5) (List.take (m * 5) (List.drop 0 (cellsDM l)))) = drC (l[i]'(by omega)) := by
  rw [List.drop_zero, List.drop_take, List.take_take, Nat.min_eq_left (by omega)]
  exact drs_at l i (by omega)
theorem setS {P : List (List UInt8)} {n : Int} {j : Nat} (hn : n = j) (hj : j < P.length) (s : List UInt8) : setRange (cellsSM P) (0 + n.toNat * 1) [AV.str s] = cellsSM (P.set j s) := by
  subst hn
  rw [show 0 + (j : Int).toNat * 1 = j by omega]
  unfold setRange
  rw [cellsSM, cellsSM, List.map_set, List.set_eq_take_append_cons_drop, if_pos (by rw [List.length_map]; exact hj), List.append_assoc]
  rfl
theorem cS_snoc (P : List (List UInt8)) (s : List UInt8) : cellsSM P ++ [AV.str s] = cellsSM (P ++ [s]) := by
  rw [cellsSM, cellsSM, List.map_append]; rfl
theorem lists_run (l : List Dr) (own c : List UInt8) (at' a b : Int) (hd : ∀ x ∈ l, okDr x) (ho : own.length ≤ 1000) (hat : 0 ≤ at' ∧ at' ≤ 255) (ha : 0 ≤ a ∧ a ≤ 255) (hb : 0 ≤ b ∧ b ≤ 255) (Q : Out → List Blk → Gh → Prop)
    (h0 : Q (.ret (.agg [.nils, .nils, .nils])) [] {}) (hq : ∀ (n : Nat) (l0 l1 l2 : List (List UInt8)) c0 c1 c2 c3, l0.length = n → l1.length = n → l2.length = n → (∀ s, s ∈ l0 ∨ s ∈ l1 ∨ s ∈ l2 → s.length ≤ 100000) → Q (.ret (.agg [.sl 4 n 0 n 1, .sl 5 n 0 n 1, .sl 6 n 0 n 1])) [c0, c1, c2, c3, ⟨.grow, true, cellsSM l0⟩, ⟨.grow, true, cellsSM l1⟩, ⟨.grow, true, cellsSM l2⟩] {}) :
    ∃ hv hb, goal_27 hv hb l own c at' a b Q := by
  obtain ⟨hv', hb', e'⟩ : ∃ hv hb, goal_27 hv hb l own c at' a b Q = _ := ⟨_, _, vc_27 l own c at' a b Q⟩
  refine ⟨hv', hb', e'.mpr ?_⟩
  clear e'
  obtain ⟨m, hm, hml, hm9⟩ : ∃ m : Nat, imin (l.length : Int) 9 = (m : Int) ∧ m ≤ l.length ∧ m ≤ 9 := by
    have := imin_le (l.length : Int) 9
    exact ⟨(imin (l.length : Int) 9).toNat, by omega, by omega, by omega⟩
  refine ⟨_, rfl, (m : Int), congrArg _ hm, ckI (by simp; omega) ?_⟩
  have em : (m : Int).toNat - 0 = m := by omega
  rw [em]
  refine ⟨_, rfl, .inl ⟨0, ⟨rfl⟩, rfl, rfl, rfl, rfl, rfl, rfl, rfl, rfl, rfl, rfl, rfl, trivial⟩, ?_, ?_⟩
  · rintro _ ⟨rfl⟩
    refine splitD (fun h => ?_) (fun h => ?_)
    · have h1 : 0 < m := by omega
      have e0 := drs_sub hml h1
      rw [Nat.zero_mul] at e0
      have hx := hd _ (List.getElem_mem (show 0 < l.length by omega))
      rw [e0]
      generalize l[0]'(by omega) = x at *
      refine ckI (by simp; omega) (ckI (by rw [List.length_take, List.drop_zero, drs_len]; simp; omega) (ckI rfl (ckI rfl ⟨x, ⟨rfl, hx⟩, ?_⟩)))
      rintro n5 k6 f7 u8 m9 ⟨hr⟩
      have hk := ((right_iff _ _ _ _ _).1 hr).2.1
      refine ⟨⟨by omega⟩, ?_⟩
      rintro s ⟨hs⟩
      have hsl : s.length = 103 := by rw [hs]; exact shown_len hk
      refine ⟨_, rfl, ⟨trivial, rfl⟩, .inr ⟨([s], drC x), ⟨Nat.le_refl _, by show (1 : Int) ≤ m; omega, by show 1 ≤ 9; decide, fun t ht => by rw [List.mem_singleton] at ht; subst ht; omega⟩, by show 10 - 1 < 1000; decide, rfl, rfl, rfl, ckI rfl ⟨rfl, rfl, rfl, rfl, rfl, rfl, rfl, rfl, rfl, rfl, rfl, rfl, trivial⟩⟩⟩
    · refine ⟨_, rfl, splitD (fun h => absurd h (by decide)) (fun _ => h0)⟩
  · rintro ⟨P, dc⟩ ⟨p1, p2, p3, p4⟩
    dsimp only at p1 p2 p3 p4
    dsimp only
    have hcl := cellsS_len P
    refine splitD (fun h => ?_) (fun h => ?_)
    · have hi : P.length < m := by omega
      have e0 := drs_sub hml hi
      have hx := hd _ (List.getElem_mem (show P.length < l.length by omega))
      rw [Int.toNat_natCast, e0]
      generalize l[P.length]'(by omega) = x at *
      refine ckI (by simp; omega) (ckI (by rw [List.length_take, List.drop_zero, drs_len]; simp; omega) (ckI rfl (ckI rfl ⟨x, ⟨rfl, hx⟩, ?_⟩)))
      rintro n5 k6 f7 u8 m9 ⟨hr⟩
      have hk := ((right_iff _ _ _ _ _).1 hr).2.1
      refine ⟨⟨by omega⟩, ?_⟩
      rintro s ⟨hs⟩
      have hsl : s.length = 103 := by rw [hs]; exact shown_len hk
      refine ckI (by rw [hcl]; simp; omega) (ckI (by rw [hcl]; simp; omega) (ckI (by rw [hcl]; simp; omega) (wrapI (by omega) (by omega) ⟨⟨trivial, rfl⟩, .inr ⟨(P ++ [s], dc), ⟨?_, ?_, ?_, ?_⟩, ?_, rfl, rfl, ?_, rfl, cS_snoc _ _, cS_snoc _ _, cS_snoc _ _, rfl, rfl, rfl, rfl, ?_, rfl, rfl, rfl, trivial⟩⟩)))
      · rw [List.length_append]; omega
      · rw [List.length_append, List.length_singleton]; omega
      · rw [List.length_append, List.length_singleton]; omega
      · intro t ht
        rw [List.mem_append, List.mem_singleton] at ht
        rcases ht with ht | rfl
        · exact p4 t ht
        · omega
      · rw [List.length_append, List.length_singleton]; omega
      · rw [List.length_append, List.length_singleton]
      · rw [List.length_append, List.length_singleton]; exact congrArg _ (by omega)
    · obtain ⟨j, hj, hjl⟩ : ∃ j : Nat, Int.tmod at' (P.length : Int) = (j : Int) ∧ j < P.length := ⟨(Int.tmod at' (P.length : Int)).toNat, by have := Int.tmod_nonneg (P.length : Int) hat.1; omega, by have := Int.tmod_lt_of_pos at' (show (0 : Int) < (P.length : Int) by omega); omega⟩
      have hel := ed_len a b c own
      refine ckI (by rw [hcl, nbeq]) ⟨_, rfl, splitD (fun h2 => ?_) (fun h2 => absurd h2 (by omega))⟩
      refine wrapI (by omega) (by omega) (ckI (by rw [Bool.and_true, bne_iff_ne]; omega) ⟨(j : Int), congrArg _ hj, ckI (by rw [hcl]; simp; omega) (ckI (by rw [hcl]; simp; omega) (wrapI (by omega) (by omega) (ckI (by rw [Bool.and_true, bne_iff_ne]; omega) ⟨(j : Int), congrArg _ hj, ⟨ha, hb, by omega⟩, ?_⟩)))⟩)
      rintro x ⟨hx⟩
      refine ckI (by simp [eqAVL, eqAV]) (ckI (by rw [hcl]; simp; omega) (ckI (by rw [hcl]; simp; omega) ?_))
      rw [setS rfl hjl, setS rfl hjl]
      refine hq P.length P (P.set j own) (P.set j x) _ _ _ _ rfl (by rw [List.length_set]) (by rw [List.length_set]) fun t ht => ?_
      rcases ht with ht | ht | ht
      · have := p4 t ht; omega
      · rcases List.mem_or_eq_of_mem_set ht with ht | rfl
        · have := p4 t ht; omega
        · omega
      · rcases List.mem_or_eq_of_mem_set ht with ht | rfl
        · have := p4 t ht; omega
        · rw [hx]; omega
def kA3 : AV → AV
  | .agg [a, b, c] => .agg [nlV 1 a, nlV 1 b, nlV 1 c]
  | v => v
def cLists : Con
  | [.lst 0 dc c 5, .str own, .int .u8 at', .agg [.int .u8 a, .int .u8 b, .str cc]], H, K => ∃ l : List Dr, Lf ((dc = cellsDM l ∧ c = l.length) ∧ (∀ x ∈ l, okDr x) ∧ own.length ≤ 1000 ∧ (0 ≤ at' ∧ at' ≤ 255) ∧ (0 ≤ a ∧ a ≤ 255) ∧ (0 ≤ b ∧ b ≤ 255)) ∧
      ∀ l0 l1 l2 : List (List UInt8), Lf (∀ s, s ∈ l0 ∨ s ∈ l1 ∨ s ∈ l2 → s.length ≤ 100000) → K (.ret (.agg [.lst 0 (cellsSM l0) l0.length 1, .lst 0 (cellsSM l1) l1.length 1, .lst 0 (cellsSM l2) l2.length 1])) H
  | _, _, _ => False
theorem wk_kA3 (v : AV) : wk v (kA3 v) := by
  unfold kA3
  split
  · exact wk_agg (wkL_cons (wk_nl _ _) (wkL_cons (wk_nl _ _) (wkL_cons (wk_nl _ _) wkL_nil)))
  · exact wk_refl _
theorem frz_sS {H : List Blk} {i n : Nat} {l : List (List UInt8)} (hb : H[i]? = some ⟨.grow, true, cellsSM l⟩) (hn : l.length = n) : frzV 0 H 8 (.sl i n 0 n 1) = .lst 0 (cellsSM l) l.length 1 := by
  subst hn
  have hl := cellsS_len l
  have c1 : (cellsSM l).length.beq l.length = true := by rw [hl]; exact Nat.beq_refl _
  have c2 : (0 + l.length * 1).ble l.length = true := Nat.ble_eq.mpr (by omega)
  rw [frzV]
  simp only [hb, c1, c2, Bool.and_true, cond_true, List.drop_zero]
  rw [Nat.mul_one, List.take_of_length_le (by omega), cellsSM, List.map_map]
  rfl
theorem lists_ok : ValidF Tryz.prog gl0 27 cLists := by
  refine valid_frz (enters_of (by kernel_rfl)) gl0_noY 9 kA3 wk_kA3 fun args H Q hc => ?_
  unfold cLists at hc
  split at hc
  · rename_i dc c own at' a b cc
    obtain ⟨l, ⟨⟨rfl, rfl⟩, a1, a2, a3, a4, a5⟩, hq⟩ := hc
    obtain ⟨hv, hb', h⟩ := lists_run l own cc at' a b a1 a2 a3 a4 a5 (fun o H' _ => ∃ v, o = .ret v ∧ Q (.ret (kA3 (frzV 0 H' 9 v))) H) ⟨_, rfl, hq [] [] [] ⟨by simp⟩⟩ (fun n l0 l1 l2 c0 c1 c2 c3 e0 e1 e2 hs => ⟨_, rfl, by
      have := hq l0 l1 l2 ⟨hs⟩
      show Q (.ret (.agg [nlV 1 (frzV 0 _ 8 (.sl 4 n 0 n 1)), nlV 1 (frzV 0 _ 8 (.sl 5 n 0 n 1)), nlV 1 (frzV 0 _ 8 (.sl 6 n 0 n 1))])) H
      rw [frz_sS rfl e0, frz_sS rfl e1, frz_sS rfl e2]
      exact this⟩)
    refine ⟨rfl, rfl, _, 1000, ?_, rfl, h⟩
    exact envFor_27 _ _
  · exact hc.elim
end Go.Proofs.YtifjpcdpmimccaaGreatDoor

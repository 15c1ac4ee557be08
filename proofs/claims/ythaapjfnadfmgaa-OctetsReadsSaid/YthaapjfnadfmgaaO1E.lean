/-
  Chapter 01 (OctetsReads): the law's run.
-/
import Derived.Test.YthaapjfnadfmgaaO1D
set_option linter.unusedSimpArgs false
set_option linter.unusedVariables false
set_option linter.unusedSectionVars false
namespace Go.Proofs.Ythaapjfnadfmgaa
open Go.RowKit
set_option maxRecDepth 1000000

theorem takeBad {s : List UInt8} {a n : Int} (h : ¬ (0 ≤ a ∧ a ≤ (s.length : Int))) : takeM s a n = ([], [], 0, 2) := by unfold takeM; rw [if_pos (by omega)]
theorem uintBad {s : List UInt8} {a n : Int} (h : ¬ (0 ≤ a ∧ a ≤ (s.length : Int))) : uintM s a n = (0, [], 0, 2) := by unfold uintM; rw [if_pos (by omega)]
theorem skipBad {s : List UInt8} {a n : Int} (h : ¬ (0 ≤ a ∧ a ≤ (s.length : Int))) : skipM s a n = ([], 0, 2) := by unfold skipM; rw [if_pos (by omega)]
theorem reads_run (s : List UInt8) (a n pl k : Int) (Q : Out → List Blk → Gh → Prop) (hs : s.length ≤ 9223372036854775807) (hp : 0 ≤ pl ∧ pl ≤ 65535) (hk : 0 ≤ k ∧ k ≤ 255) (hq : Q (.ret (.bool true)) [] {}) : ∃ hv hb, goal_8 hv hb s a n pl k Q := by
  refine ⟨_, _, (vc_8 s a n pl k Q).mpr ?_⟩
  refine ⟨_, rfl, _, rfl, ?_⟩
  have hm : imin (s.length : Int) 300 = (if (s.length : Int) ≤ 300 then (s.length : Int) else 300) := by unfold imin; split <;> split <;> omega
  refine ckI (by rw [hm]; split <;> simp <;> omega) ?_
  refine ⟨_, rfl, ?_⟩
  generalize hS : (s.drop 0).take ((imin (s.length : Int) 300).toNat - 0) = S
  have hS3 : S.length ≤ 300 := by rw [← hS, List.length_take, hm]; split <;> omega
  refine wrapI (by omega) (by omega) ⟨_, rfl, wrapI (by omega) (by omega) (ckI (by simp; omega) ⟨_, rfl, ?_⟩)⟩
  have hb : 0 ≤ pl.tmod ((S.length : Int) + 1) ∧ pl.tmod ((S.length : Int) + 1) ≤ (S.length : Int) := by
    rw [Int.tmod_eq_emod_of_nonneg (by omega)]
    have := Int.emod_nonneg pl (show (S.length : Int) + 1 ≠ 0 by omega)
    have := Int.emod_lt_of_pos pl (show (0 : Int) < (S.length : Int) + 1 by omega)
    omega
  generalize hB : pl.tmod ((S.length : Int) + 1) = b
  rw [hB] at hb
  have hk2 : k.tmod 12 = k % 12 := Int.tmod_eq_emod_of_nonneg (by omega)
  rw [hk2]
  generalize hM : k % 12 = m
  have hm2 : 0 ≤ m ∧ m ≤ 11 := by omega
  clear hM hB hk2 hm hS
  refine ⟨.inl ⟨0, ⟨rfl⟩, rfl, rfl, rfl, rfl, rfl, trivial⟩, ?_, ?_, fun _ _ => hq⟩
  · rintro x -
    rintro _ ⟨rfl⟩
    cases hr : rightR S a with
    | true =>
      have hR : 0 ≤ a ∧ a ≤ (S.length : Int) := of_decide_eq_true hr
      refine uT rfl ?_
      refine ⟨⟨hR.1, hR.2, by omega⟩, ?_⟩
      rintro _ ⟨rfl⟩
      refine ⟨⟨by omega⟩, ?_⟩
      rintro l e ⟨he⟩
      rw [if_pos rfl] at he
      cases he
      rintro _ ⟨rfl⟩
      rw [if_pos rfl]
      refine nEq rfl (nEq rfl (nEq rfl ⟨_, rfl, wrapI (by omega) (by omega) ?_⟩))
      refine ⟨.inl ⟨0, ⟨rfl⟩, rfl, rfl, rfl, rfl, rfl, rfl, rfl, rfl, rfl, rfl, rfl, rfl, trivial⟩, bodyT_ok hR.1 hR.2 hS3 rfl ?_, bodyT_ok hR.1 hR.2 hS3 rfl ?_, fun _ _ => ⟨⟨trivial, rfl⟩, .inr (.inl ⟨0, ⟨rfl⟩, by decide, rfl, rfl, rfl, rfl, rfl, trivial⟩)⟩⟩
      · exact ⟨⟨trivial, rfl⟩, .inr (.inl ⟨0, ⟨rfl⟩, by decide, rfl, rfl, rfl, rfl, rfl, rfl, rfl, rfl, rfl, rfl, rfl, rfl, trivial⟩)⟩
      · exact ⟨⟨trivial, rfl⟩, .inr (.inr ⟨0, ⟨rfl⟩, by decide, rfl, rfl, rfl, rfl, rfl, rfl, rfl, rfl, rfl, rfl, rfl, rfl, trivial⟩)⟩
    | false =>
      have hR : ¬ (0 ≤ a ∧ a ≤ (S.length : Int)) := of_decide_eq_false hr
      refine uF rfl ⟨⟨by omega⟩, ?_⟩
      rintro l e ⟨he⟩
      rw [if_neg (by decide)] at he
      cases he
      rintro _ ⟨rfl⟩
      rw [if_neg (by decide)]
      refine nEq rfl (nEq rfl (nEq rfl ⟨_, rfl, wrapI (by omega) (by omega) ?_⟩))
      refine ⟨.inl ⟨0, ⟨rfl⟩, rfl, rfl, rfl, rfl, rfl, rfl, rfl, rfl, rfl, rfl, rfl, rfl, trivial⟩, ?_, ?_, fun _ _ => ⟨⟨trivial, rfl⟩, .inr (.inl ⟨0, ⟨rfl⟩, by decide, rfl, rfl, rfl, rfl, rfl, trivial⟩)⟩⟩
      all_goals
        intro x _
        refine ⟨⟨by omega⟩, ?_⟩
        rintro v t b f ⟨he⟩
        rw [takeBad hR] at he
        cases he
        refine ⟨⟨by omega⟩, ?_⟩
        rintro v t b f ⟨he⟩
        rw [uintBad hR] at he
        cases he
        refine ⟨⟨by omega⟩, ?_⟩
        rintro t b f ⟨he⟩
        rw [skipBad hR] at he
        cases he
        refine nEq rfl (nStr rfl (nRd rfl rfl (nEq rfl (nEq rfl (nRd rfl rfl (nEq rfl (nRd rfl rfl ?_)))))))
      · exact ⟨⟨trivial, rfl⟩, .inr (.inl ⟨0, ⟨rfl⟩, by decide, rfl, rfl, rfl, rfl, rfl, rfl, rfl, rfl, rfl, rfl, rfl, rfl, trivial⟩)⟩
      · exact ⟨⟨trivial, rfl⟩, .inr (.inr ⟨0, ⟨rfl⟩, by decide, rfl, rfl, rfl, rfl, rfl, rfl, rfl, rfl, rfl, rfl, rfl, rfl, trivial⟩)⟩
  · rintro x -
    rintro _ ⟨rfl⟩
    have hr : rightR S b = true := decide_eq_true hb
    rw [hr]
    refine uT rfl ?_
    refine ⟨⟨hb.1, hb.2, by omega⟩, ?_⟩
    rintro _ ⟨rfl⟩
    refine ⟨⟨by omega⟩, ?_⟩
    rintro l e ⟨he⟩
    rw [if_pos rfl] at he
    cases he
    rintro _ ⟨rfl⟩
    rw [if_pos rfl]
    refine nEq rfl (nEq rfl (nEq rfl ⟨_, rfl, wrapI (by omega) (by omega) ?_⟩))
    refine ⟨.inl ⟨0, ⟨rfl⟩, rfl, rfl, rfl, rfl, rfl, rfl, rfl, rfl, rfl, rfl, rfl, rfl, trivial⟩, bodyT_ok hb.1 hb.2 hS3 rfl ?_, bodyT_ok hb.1 hb.2 hS3 rfl ?_, fun _ _ => ⟨⟨trivial, rfl⟩, .inr (.inr ⟨0, ⟨rfl⟩, by decide, rfl, rfl, rfl, rfl, rfl, trivial⟩)⟩⟩
    · exact ⟨⟨trivial, rfl⟩, .inr (.inl ⟨0, ⟨rfl⟩, by decide, rfl, rfl, rfl, rfl, rfl, rfl, rfl, rfl, rfl, rfl, rfl, rfl, trivial⟩)⟩
    · exact ⟨⟨trivial, rfl⟩, .inr (.inr ⟨0, ⟨rfl⟩, by decide, rfl, rfl, rfl, rfl, rfl, rfl, rfl, rfl, rfl, rfl, rfl, rfl, trivial⟩)⟩
end Go.Proofs.Ythaapjfnadfmgaa

/-
  Chapter 18: Accept, few, edits: proved.
-/
import Derived.Test.YtifjpcdpmimccaaGreatDoorB18ZE
set_option linter.unusedSimpArgs false
set_option linter.unusedVariables false
set_option linter.unusedSectionVars false
namespace Go.Proofs.YtifjpcdpmimccaaGreatDoor
open Go.RowKit
set_option maxRecDepth 1000000

theorem acc_run (tg : Nat) (l : List (List UInt8)) (n k : List UInt8) (f u m t : Int) (hn : n.length ≤ 9223372036854775807) (hl : ∀ s ∈ l, s.length ≤ 9223372036854775807) (Q : Out → List Blk → Gh → Prop) (hq : ∀ g, Q (.ret (.int .i64 (accM n k f u m l t))) [] g) : ∃ hv hb, goal_30 hv hb tg l n k f u m t Q := by
  obtain ⟨hv', hb', e'⟩ : ∃ hv hb, goal_30 hv hb tg l n k f u m t Q = _ := ⟨_, _, vc_30 tg l n k f u m t Q⟩
  refine ⟨hv', hb', e'.mpr ?_⟩
  clear e'
  refine ⟨l, ⟨⟨rfl, rfl⟩, hn, hl⟩, ?_⟩
  rintro i e ⟨h⟩
  have hm : (matchM n k f u m l).2 = e := by rw [h]
  unfold accM at hq
  rw [hm] at hq
  refine splitNE (fun h1 => ?_) (fun h1 => splitD (fun h2 => ?_) (fun h2 => splitD (fun h3 => ?_) (fun h3 => splitD (fun h4 => ?_) (fun h4 => splitD (fun h5 => ?_) (fun h5 => ?_)))))
  · have := hq {}; rwa [if_pos h1] at this
  · have := hq {}; rwa [if_neg (by omega), if_pos (by omega)] at this
  · have := hq {}; rwa [if_neg (by omega), if_pos (by omega)] at this
  · have := hq {}; rwa [if_neg (by omega), if_neg (by omega), if_pos (by omega)] at this
  · have := hq {}; rwa [if_neg (by omega), if_neg (by omega), if_pos (by omega)] at this
  · have := hq {}; rwa [if_neg (by omega), if_neg (by omega), if_neg (by omega)] at this
def cAcc : Con
  | [.agg [.str n, .str k, .int .i64 f, .int .i64 u, .int .i64 m], .lst _ ss c 1, .int .i64 t], H, K => ∃ l : List (List UInt8), Lf ((ss = cellsSM l ∧ c = l.length) ∧ n.length ≤ 9223372036854775807 ∧ ∀ s ∈ l, s.length ≤ 9223372036854775807) ∧ ∀ e, Lf (e = accM n k f u m l t) → K (.ret (.int .i64 e)) H
  | _, _, _ => False
theorem acc_ok : ValidF Tryz.prog gl0 30 cAcc := by
  refine valid_flat (enters_of (by kernel_rfl)) gl0_noY fun args H Q hc => ?_
  unfold cAcc at hc
  split at hc
  · rename_i n k f u m tg ss c t
    obtain ⟨l, ⟨⟨rfl, rfl⟩, h1, h2⟩, hq⟩ := hc
    obtain ⟨hv, hb', h⟩ := acc_run tg l n k f u m t h1 h2 (Q := fun o H' _ => H' = [] ∧ (∃ v, o = .ret v ∧ old 0 v = true ∧ noY v = true) ∧ Q o H) (fun _ => ⟨rfl, ⟨_, rfl, rfl, rfl⟩, hq _ ⟨rfl⟩⟩)
    exact ⟨by simp [oldL, old], by simp [noYL, noY], _, 1000, envFor18 smAc_ok _ _ _, rfl, h⟩
  · exact hc.elim
def cMatchV : Con := fun args H Q => lendL [0, 1] H args fun a => cMatch a H Q
theorem matchV_ok : ValidF Tryz.prog gl0 28 cMatchV := valid_view match_ok gl0_noY [0, 1] fun args H Q hc => by
  unfold cMatch at hc
  split at hc
  · obtain ⟨l, h, hq⟩ := hc
    exact ⟨l, h, fun i e hx => ⟨rfl, ⟨_, rfl, rfl⟩, hq i e hx⟩⟩
  · exact hc.elim
def cAccV : Con := fun args H Q => lendL [0, 1] H args fun a => cAcc a H Q
theorem accV_ok : ValidF Tryz.prog gl0 30 cAccV := valid_view acc_ok gl0_noY [0, 1] fun args H Q hc => by
  unfold cAcc at hc
  split at hc
  · obtain ⟨l, h, hq⟩ := hc
    exact ⟨l, h, fun e hx => ⟨rfl, ⟨_, rfl, rfl⟩, hq e hx⟩⟩
  · exact hc.elim
theorem imin_le (a b : Int) : imin a b ≤ a ∧ imin a b ≤ b ∧ (imin a b = a ∨ imin a b = b) := by
  unfold imin
  split <;> omega
def few60 (s : List UInt8) : List UInt8 := (s.drop 0).take ((imin (s.length : Int) 60).toNat - 0)
theorem few_run (n k : List UInt8) (f u m : Int) (Q : Out → List Blk → Gh → Prop) (hq : ∀ g, Q (.ret (.agg [.str (few60 n), .str (few60 k), .int .i64 f, .int .i64 u, .int .i64 m])) [] g) : ∃ hv hb, goal_19 hv hb n k f u m Q := by
  obtain ⟨hv', hb', e'⟩ : ∃ hv hb, goal_19 hv hb n k f u m Q = _ := ⟨_, _, vc_19 n k f u m Q⟩
  refine ⟨hv', hb', e'.mpr ?_⟩
  clear e'
  have m1 := imin_le (n.length : Int) 60
  have m2 := imin_le (k.length : Int) 60
  refine ⟨_, rfl, _, rfl, ckI ?_ ⟨_, rfl, _, rfl, _, rfl, ckI ?_ ⟨_, rfl, hq _⟩⟩⟩
  all_goals simp only [Bool.and_eq_true, decide_eq_true_eq, Nat.ble_eq, and_true]
  all_goals omega
end Go.Proofs.YtifjpcdpmimccaaGreatDoor

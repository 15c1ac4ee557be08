/-
  Chapter 18: Accept; what the law's helpers compute: residuals.
-/
import Derived.Test.YtifjpcdpmimccaaGreatDoorBmC
set_option linter.unusedSimpArgs false
set_option linter.unusedVariables false
set_option linter.unusedSectionVars false
namespace Go.Proofs.YtifjpcdpmimccaaGreatDoor
open Go.RowKit
set_option maxRecDepth 1000000

def smAc : SM := lookS [(28, cMatch)]
theorem smAc_ok : ∀ f g, smAc f = some g → ValidF Tryz.prog gl0 f g := lookS_ok _ (by simp only [List.mem_cons, List.not_mem_nil, or_false, forall_eq_or_imp, forall_eq]; exact match_ok)
noncomputable def goal_30 (hv : Nat → Option Pa) (hb : Nat → Option Bool) (tg : Nat) (l : List (List UInt8)) (n k : List UInt8) (f u m t : Int) (Q : Out → List Blk → Gh → Prop) : Prop :=
  callx (e18 smAc (fun _ => none) hv hb) (wpx (e18 smAc (fun _ => none) hv hb) 1000) 30 [.agg (bdg n k f u m), .lst tg (cellsSM l) l.length 1, .int .i64 t] [] {} Q
theorem vc_30 (tg : Nat) (l : List (List UInt8)) (n : List UInt8) (k : List UInt8) (f : Int) (u : Int) (m : Int) (t : Int) (Q : Out → List Blk → Gh → Prop) : goal_30 (lookV []) (lookB []) tg l n k f u m t Q = (
(∃ l_0 : (List (List UInt8)), ((Lf ((((cellsSM l) = (cellsSM l_0)) ∧
 ((List.length l) = (List.length l_0))) ∧
 (((List.length n) ≤ (9223372036854775807 : Nat)) ∧
 (∀ s_1 : (List UInt8), ((Membership.mem l_0 s_1) →
((List.length s_1) ≤ (9223372036854775807 : Nat))))))) ∧
 (∀ i_1 : Int, (∀ e_2 : Int, ((Lf ((matchM n k f u m l_0) = (Prod.mk i_1 e_2))) →
(bif (e_2 != (0 : Int)) then (Q (Out.ret (AV.int .i64 e_2)) [] (Gh.mk (0 : Nat) (0 : Nat) []))
else (bif (decide (t < (0 : Int))) then (Q (Out.ret (AV.int .i64 (2 : Int))) [] (Gh.mk (0 : Nat) (0 : Nat) []))
else (bif (decide (t > (1099511627776 : Int))) then (Q (Out.ret (AV.int .i64 (2 : Int))) [] (Gh.mk (0 : Nat) (0 : Nat) []))
else (bif (decide (t < f)) then (Q (Out.ret (AV.int .i64 (10 : Int))) [] (Gh.mk (0 : Nat) (0 : Nat) []))
else (bif (decide (t > u)) then (Q (Out.ret (AV.int .i64 (10 : Int))) [] (Gh.mk (0 : Nat) (0 : Nat) []))
else (Q (Out.ret (AV.int .i64 (0 : Int))) [] (Gh.mk (0 : Nat) (0 : Nat) []))))))))))))) := by kernel_rfl

def accM (n k : List UInt8) (f u m : Int) (l : List (List UInt8)) (t : Int) : Int :=
  if (matchM n k f u m l).2 ≠ 0 then (matchM n k f u m l).2 else if t < 0 ∨ 1099511627776 < t then 2 else if t < f ∨ u < t then 10 else 0
end Go.Proofs.YtifjpcdpmimccaaGreatDoor

set_option linter.unusedSimpArgs false
set_option linter.unusedVariables false
set_option linter.unusedSectionVars false
namespace Go.Proofs.YtifjpcdpmimccaaGreatDoor
open Go.RowKit
set_option maxRecDepth 1000000

theorem acc_run (tg : Nat) (l : List (List UInt8)) (n k : List UInt8) (f u m t : Int) (hn : n.length ≤ 9223372036854775807) (hl : ∀ s ∈ l, s.length ≤ 9223372036854775807) (Q : Out → List Blk → Gh → Prop) (hq : ∀ g, Q (.ret (.int .i64 (accM n k f u m l t))) [] g) : ∃ hv hb, goal_30 hv hb tg l n k f u m t Q := by
  obtain ⟨hv', hb', e'⟩ : ∃ hv hb, goal_30 hv hb tg l n k f u m t Q = _ := ⟨_, _, vc_30 tg l n k f u m t Q⟩
  refine ⟨hv', hb', e'.mpr ?_⟩
  clear e'
  refine ⟨l, ⟨⟨rfl, rfl⟩, hn, hl⟩, ?_⟩
  rintro i e ⟨h⟩
  have hm : (matchM n k f u m l).2 = e := by rw [h]
  unfold accM at hq
  rw [hm] at hq
  refine splitNE (fun h1 => ?_) (fun h1 => splitD (fun h2 => ?_) (fun h2 => splitD (fun h3 => ?_) (fun h3 => splitD (fun h4 => ?_) (fun h4 => splitD (fun h5 => ?_) (fun h5 => ?_)))))
  · have := hq {}; rwa [if_pos h1] at this
  · have := hq {}; rwa [if_neg (by omega), if_pos (by omega)] at this
  · have := hq {}; rwa [if_neg (by omega), if_pos (by omega)] at this
  · have := hq {}; rwa [if_neg (by omega), if_neg (by omega), if_pos (by omega)] at this
  · have := hq {}; rwa [if_neg (by omega), if_neg (by omega), if_pos (by omega)] at this
  · have := hq {}; rwa [if_neg (by omega), if_neg (by omega), if_neg (by omega)] at this
def cAcc : Con
  | [.agg [.str n, .str k, .int .i64 f, .int .i64 u, .int .i64 m], .lst _ ss c 1, .int .i64 t], H, K => ∃ l : List (List UInt8), Lf ((ss = cellsSM l ∧ c = l.length) ∧ n.length ≤ 9223372036854775807 ∧ ∀ s ∈ l, s.length ≤ 9223372036854775807) ∧ ∀ e, Lf (e = accM n k f u m l t) → K (.ret (.int .i64 e)) H
  | _, _, _ => False
theorem acc_ok : ValidF Tryz.prog gl0 30 cAcc := by
  refine valid_flat (enters_of (by kernel_rfl)) gl0_noY fun args H Q hc => ?_
  unfold cAcc at hc
  split at hc
  · rename_i n k f u m tg ss c t
    obtain ⟨l, ⟨⟨rfl, rfl⟩, h1, h2⟩, hq⟩ := hc
    obtain ⟨hv, hb', h⟩ := acc_run tg l n k f u m t h1 h2 (Q := fun o H' _ => H' = [] ∧ (∃ v, o = .ret v ∧ old 0 v = true ∧ noY v = true) ∧ Q o H) (fun _ => ⟨rfl, ⟨_, rfl, rfl, rfl⟩, hq _ ⟨rfl⟩⟩)
    exact ⟨by simp [oldL, old], by simp [noYL, noY], _, 1000, envFor18 smAc_ok _ _ _, rfl, h⟩
  · exact hc.elim
def cMatchV : Con := fun args H Q => lendL [0, 1] H args fun a => cMatch a H Q
theorem matchV_ok : ValidF Tryz.prog gl0 28 cMatchV := valid_view match_ok gl0_noY [0, 1] fun args H Q hc => by
  unfold cMatch at hc
  split at hc
  · obtain ⟨l, h, hq⟩ := hc
    exact ⟨l, h, fun i e hx => ⟨rfl, ⟨_, rfl, rfl⟩, hq i e hx⟩⟩
  · exact hc.elim
def cAccV : Con := fun args H Q => lendL [0, 1] H args fun a => cAcc a H Q
theorem accV_ok : ValidF Tryz.prog gl0 30 cAccV := valid_view acc_ok gl0_noY [0, 1] fun args H Q hc => by
  unfold cAcc at hc
  split at hc
  · obtain ⟨l, h, hq⟩ := hc
    exact ⟨l, h, fun e hx => ⟨rfl, ⟨_, rfl, rfl⟩, hq e hx⟩⟩
  · exact hc.elim
end Go.Proofs.YtifjpcdpmimccaaGreatDoor

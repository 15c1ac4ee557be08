/-
  Chapter 18: Accept; what the law's helpers compute: residuals.
-/
import Derived.Test.YtifjpcdpmimccaaGreatDoorBmC
set_option linter.unusedSimpArgs false
set_option linter.unusedVariables false
set_option linter.unusedSectionVars false
namespace Go.Proofs.YtifjpcdpmimccaaGreatDoor
open Go.RowKit
set_option maxRecDepth 1000000

def smAc : SM := lookS [(28, cMatch)]
theorem smAc_ok : ∀ f g, smAc f = some g → ValidF Tryz.prog gl0 f g := lookS_ok _ (by simp only [List.mem_cons, List.not_mem_nil, or_false, forall_eq_or_imp, forall_eq]; exact match_ok)
noncomputable def goal_30 (hv : Nat → Option Pa) (hb : Nat → Option Bool) (tg : Nat) (l : List (List UInt8)) (n k : List UInt8) (f u m t : Int) (Q : Out → List Blk → Gh → Prop) : Prop :=
  callx (e18 smAc (fun _ => none) hv hb) (wpx (e18 smAc (fun _ => none) hv hb) 1000) 30 [.agg (bdg n k f u m), .lst tg (cellsSM l) l.length 1, .int .i64 t] [] {} Q
theorem vc_30 (tg : Nat) (l : List (List UInt8)) (n : List UInt8) (k : List UInt8) (f : Int) (u : Int) (m : Int) (t : Int) (Q : Out → List Blk → Gh → Prop) : goal_30 (lookV []) (lookB []) tg l n k f u m t Q = (
(∃ l_0 : (List (List UInt8)), ((Lf ((((cellsSM l) = (cellsSM l_0)) ∧
 ((List.length l) = (List.length l_0))) ∧
 (((List.length n) ≤ (9223372036854775807 : Nat)) ∧
 (∀ s_1 : (List UInt8), ((Membership.mem l_0 s_1) →
((List.length s_1) ≤ (9223372036854775807 : Nat))))))) ∧
 (∀ i_1 : Int, (∀ e_2 : Int, ((Lf ((matchM n k f u m l_0) = (Prod.mk i_1 e_2))) →
(bif (e_2 != (0 : Int)) then (Q (Out.ret (AV.int .i64 e_2)) [] (Gh.mk (0 : Nat) (0 : Nat) []))
else (bif (decide (t < (0 : Int))) then (Q (Out.ret (AV.int .i64 (2 : Int))) [] (Gh.mk (0 : Nat) (0 : Nat) []))
else (bif (decide (t > (1099511627776 : Int))) then (Q (Out.ret (AV.int .i64 (2 : Int))) [] (Gh.mk (0 : Nat) (0 : Nat) []))
else (bif (decide (t < f)) then (Q (Out.ret (AV.int .i64 (10 : Int))) [] (Gh.mk (0 : Nat) (0 : Nat) []))
else (bif (decide (t > u)) then (Q (Out.ret (AV.int .i64 (10 : Int))) [] (Gh.mk (0 : Nat) (0 : Nat) []))
else (Q (Out.ret (AV.int .i64 (0 : Int))) [] (Gh.mk (0 : Nat) (0 : Nat) []))))))))))))) := by kernel_rfl

def accM (n k : List UInt8) (f u m : Int) (l : List (List UInt8)) (t : Int) : Int :=
  if (matchM n k f u m l).2 ≠ 0 then (matchM n k f u m l).2 else if t < 0 ∨ 1099511627776 < t then 2 else if t < f ∨ u < t then 10 else 0
noncomputable def goal_13 (hv : Nat → Option Pa) (hb : Nat → Option Bool) (a b : Int) (c s : List UInt8) (Q : Out → List Blk → Gh → Prop) : Prop :=
  callx (e18 sm0 (fun _ => none) hv hb) (wpx (e18 sm0 (fun _ => none) hv hb) 1000) 13 [.agg [.int .u8 a, .int .u8 b, .str c], .str s] [] {} Q
theorem vc_13 (a : Int) (b : Int) (c : List UInt8) (s : List UInt8) (Q : Out → List Blk → Gh → Prop) : goal_13 (lookV [(53256, .int .i64), (53258, .int .i64), (53259, .int .i64), (53262, .str), (53267, .int .i64), (53268, .int .i64),
 (53269, .str), (53270, .str), (53275, .int .i64), (53276, .int .i64), (53278, .int .i64), (53279, .int .i64), (53280, .str), (53281, .str)]) (lookB []) a b c s Q = (exW .i64 a fun n_0 => exI .i64 (s.length : Int) fun n_1 => exI .i64 (imin
 n_0 n_1) fun n_2 => ckQ (decide (0 ≤ n_2) && true && Nat.ble n_2.toNat s.length) (exS (.str ((s.drop 0).take (n_2.toNat - 0))) fun s_3 => exI .i64 (c.length : Int) fun n_4 => exI .i64 (imin n_4 20) fun n_5 => ckQ (decide (0 ≤ n_5) && true
 && Nat.ble n_5.toNat c.length) (exS (.str ((c.drop 0).take (n_5.toNat - 0))) fun s_6 => ckQ (decide (s_3.length + s_6.length ≤ 9223372036854775807) && true) (exS (.str (s_3 ++ s_6)) fun s_7 => exW .i64 b fun n_8 => exW .i64 (n_2 + n_8) fun
 n_9 => exI .i64 (s.length : Int) fun n_10 => exI .i64 (imin n_9 n_10) fun n_11 => ckQ (decide (0 ≤ n_11) && true && Nat.ble n_11.toNat s.length && Nat.ble s.length s.length) (exS (.str ((s.drop n_11.toNat).take (s.length - n_11.toNat)))
 fun s_12 => ckQ (decide (s_7.length + s_12.length ≤ 9223372036854775807) && true) (exS (.str (s_7 ++ s_12)) fun s_13 => Q (.ret (.str s_13)) [] {})))))) := by kernel_rfl

end Go.Proofs.YtifjpcdpmimccaaGreatDoor

set_option linter.unusedSimpArgs false
set_option linter.unusedVariables false
set_option linter.unusedSectionVars false
namespace Go.Proofs.YtifjpcdpmimccaaGreatDoor
open Go.RowKit
set_option maxRecDepth 1000000

theorem acc_run (tg : Nat) (l : List (List UInt8)) (n k : List UInt8) (f u m t : Int) (hn : n.length ≤ 9223372036854775807) (hl : ∀ s ∈ l, s.length ≤ 9223372036854775807) (Q : Out → List Blk → Gh → Prop) (hq : ∀ g, Q (.ret (.int .i64 (accM n k f u m l t))) [] g) : ∃ hv hb, goal_30 hv hb tg l n k f u m t Q := by
  obtain ⟨hv', hb', e'⟩ : ∃ hv hb, goal_30 hv hb tg l n k f u m t Q = _ := ⟨_, _, vc_30 tg l n k f u m t Q⟩
  refine ⟨hv', hb', e'.mpr ?_⟩
  clear e'
  refine ⟨l, ⟨⟨rfl, rfl⟩, hn, hl⟩, ?_⟩
  rintro i e ⟨h⟩
  have hm : (matchM n k f u m l).2 = e := by rw [h]
  unfold accM at hq
  rw [hm] at hq
  refine splitNE (fun h1 => ?_) (fun h1 => splitD (fun h2 => ?_) (fun h2 => splitD (fun h3 => ?_) (fun h3 => splitD (fun h4 => ?_) (fun h4 => splitD (fun h5 => ?_) (fun h5 => ?_)))))
  · have := hq {}; rwa [if_pos h1] at this
  · have := hq {}; rwa [if_neg (by omega), if_pos (by omega)] at this
  · have := hq {}; rwa [if_neg (by omega), if_pos (by omega)] at this
  · have := hq {}; rwa [if_neg (by omega), if_neg (by omega), if_pos (by omega)] at this
  · have := hq {}; rwa [if_neg (by omega), if_neg (by omega), if_pos (by omega)] at this
  · have := hq {}; rwa [if_neg (by omega), if_neg (by omega), if_neg (by omega)] at this
def cAcc : Con
  | [.agg [.str n, .str k, .int .i64 f, .int .i64 u, .int .i64 m], .lst _ ss c 1, .int .i64 t], H, K => ∃ l : List (List UInt8), Lf ((ss = cellsSM l ∧ c = l.length) ∧ n.length ≤ 9223372036854775807 ∧ ∀ s ∈ l, s.length ≤ 9223372036854775807) ∧ ∀ e, Lf (e = accM n k f u m l t) → K (.ret (.int .i64 e)) H
  | _, _, _ => False
theorem acc_ok : ValidF Tryz.prog gl0 30 cAcc := by
  refine valid_flat (enters_of (by kernel_rfl)) gl0_noY fun args H Q hc => ?_
  unfold cAcc at hc
  split at hc
  · rename_i n k f u m tg ss c t
    obtain ⟨l, ⟨⟨rfl, rfl⟩, h1, h2⟩, hq⟩ := hc
    obtain ⟨hv, hb', h⟩ := acc_run tg l n k f u m t h1 h2 (Q := fun o H' _ => H' = [] ∧ (∃ v, o = .ret v ∧ old 0 v = true ∧ noY v = true) ∧ Q o H) (fun _ => ⟨rfl, ⟨_, rfl, rfl, rfl⟩, hq _ ⟨rfl⟩⟩)
    exact ⟨by simp [oldL, old], by simp [noYL, noY], _, 1000, envFor18 smAc_ok _ _ _, rfl, h⟩
  · exact hc.elim
def cMatchV : Con := fun args H Q => lendL [0, 1] H args fun a => cMatch a H Q
theorem matchV_ok : ValidF Tryz.prog gl0 28 cMatchV := valid_view match_ok gl0_noY [0, 1] fun args H Q hc => by
  unfold cMatch at hc
  split at hc
  · obtain ⟨l, h, hq⟩ := hc
    exact ⟨l, h, fun i e hx => ⟨rfl, ⟨_, rfl, rfl⟩, hq i e hx⟩⟩
  · exact hc.elim
def cAccV : Con := fun args H Q => lendL [0, 1] H args fun a => cAcc a H Q
theorem accV_ok : ValidF Tryz.prog gl0 30 cAccV := valid_view acc_ok gl0_noY [0, 1] fun args H Q hc => by
  unfold cAcc at hc
  split at hc
  · obtain ⟨l, h, hq⟩ := hc
    exact ⟨l, h, fun e hx => ⟨rfl, ⟨_, rfl, rfl⟩, hq e hx⟩⟩
  · exact hc.elim
def edP (a : Int) (s : List UInt8) : Int := imin a (s.length : Int)
def edM (a b : Int) (c s : List UInt8) : List UInt8 :=
  ((s.drop 0).take ((edP a s).toNat - 0) ++ (c.drop 0).take ((imin (c.length : Int) 20).toNat - 0)) ++ (s.drop (imin (edP a s + b) (s.length : Int)).toNat).take (s.length - (imin (edP a s + b) (s.length : Int)).toNat)
theorem imin_le (a b : Int) : imin a b ≤ a ∧ imin a b ≤ b ∧ (imin a b = a ∨ imin a b = b) := by
  unfold imin
  split <;> omega
theorem ed_run (a b : Int) (c s : List UInt8) (ha : 0 ≤ a ∧ a ≤ 255) (hb : 0 ≤ b ∧ b ≤ 255) (hs : s.length ≤ 1000000) (Q : Out → List Blk → Gh → Prop) (hq : ∀ g, Q (.ret (.str (edM a b c s))) [] g) : ∃ hv hb, goal_13 hv hb a b c s Q := by
  obtain ⟨hv', hb', e'⟩ : ∃ hv hb, goal_13 hv hb a b c s Q = _ := ⟨_, _, vc_13 a b c s Q⟩
  refine ⟨hv', hb', e'.mpr ?_⟩
  clear e'
  have m1 := imin_le a (s.length : Int)
  have m2 := imin_le (c.length : Int) 20
  have m3 := imin_le (imin a (s.length : Int) + b) (s.length : Int)
  refine wrapI (by omega) (by omega) ⟨_, rfl, _, rfl, ckI ?_ ⟨_, rfl, _, rfl, _, rfl, ckI ?_ ⟨_, rfl, ckI ?_ ⟨_, rfl, wrapI (by omega) (by omega) (wrapI (by omega) (by omega) ⟨_, rfl, _, rfl, ckI ?_ ⟨_, rfl, ckI ?_ ⟨_, rfl, hq _⟩⟩⟩)⟩⟩⟩⟩
  all_goals simp only [Bool.and_eq_true, decide_eq_true_eq, Nat.ble_eq, and_true, List.length_append, List.length_take, List.length_drop]
  all_goals omega
def cEd : Con
  | [.agg [.int .u8 a, .int .u8 b, .str c], .str s], H, K => Lf ((0 ≤ a ∧ a ≤ 255) ∧ (0 ≤ b ∧ b ≤ 255) ∧ s.length ≤ 1000000) ∧ ∀ x, Lf (x = edM a b c s) → K (.ret (.str x)) H
  | _, _, _ => False
theorem ed_ok : ValidF Tryz.prog gl0 13 cEd := by
  refine valid_flat (enters_of (by kernel_rfl)) gl0_noY fun args H Q hc => ?_
  unfold cEd at hc
  split at hc
  · rename_i a b c s
    obtain ⟨⟨h1, h2, h3⟩, hq⟩ := hc
    obtain ⟨hv, hb', h⟩ := ed_run a b c s h1 h2 h3 (Q := fun o H' _ => H' = [] ∧ (∃ v, o = .ret v ∧ old 0 v = true ∧ noY v = true) ∧ Q o H) (fun _ => ⟨rfl, ⟨_, rfl, rfl, rfl⟩, hq _ ⟨rfl⟩⟩)
    exact ⟨rfl, rfl, _, 1000, envFor18 sm0_ok _ _ _, rfl, h⟩
  · exact hc.elim
theorem ed_len (a b : Int) (c s : List UInt8) : (edM a b c s).length ≤ s.length + s.length + 20 := by
  have m2 := imin_le (c.length : Int) 20
  simp only [edM, List.length_append, List.length_take, List.length_drop]
  omega
end Go.Proofs.YtifjpcdpmimccaaGreatDoor

/-
  Chapter 18: Accept; what the law's helpers compute: residuals.
-/
import Derived.Test.YtifjpcdpmimccaaGreatDoorB18ZD
set_option linter.unusedSimpArgs false
set_option linter.unusedVariables false
set_option linter.unusedSectionVars false
namespace Go.Proofs.YtifjpcdpmimccaaGreatDoor
open Go.RowKit
set_option maxRecDepth 1000000

def smAc : SM := lookS [(28, cMatch)]
theorem smAc_ok : ∀ f g, smAc f = some g → ValidF Tryz.prog gl0 f g := lookS_ok _ (by simp only [List.mem_cons, List.not_mem_nil, or_false, forall_eq_or_imp, forall_eq]; exact match_ok)
noncomputable def goal_30 (hv : Nat → Option Pa) (hb : Nat → Option Bool) (tg : Nat) (l : List (List UInt8)) (n k : List UInt8) (f u m t : Int) (Q : Out → List Blk → Gh → Prop) : Prop :=
  callx (e18 smAc (fun _ => none) hv hb) (wpx (e18 smAc (fun _ => none) hv hb) 1000) 30 [.agg (bdg n k f u m), .lst tg (cellsSM l) l.length 1, .int .i64 t] [] {} Q
theorem vc_30 (tg : Nat) (l : List (List UInt8)) (n : List UInt8) (k : List UInt8) (f : Int) (u : Int) (m : Int) (t : Int) (Q : Out → List Blk → Gh → Prop) : goal_30 (lookV []) (lookB []) tg l n k f u m t Q = (
(∃ l_0 : (List (List UInt8)), ((Lf ((((cellsSM l) = (cellsSM l_0)) ∧
 ((List.length l) = (List.length l_0))) ∧
 (((List.length n) ≤ (9223372036854775807 : Nat)) ∧
 (∀ s_1 : (List UInt8), ((Membership.mem l_0 s_1) →
((List.length s_1) ≤ (9223372036854775807 : Nat))))))) ∧
 (∀ i_1 : Int, (∀ e_2 : Int, ((Lf ((matchM n k f u m l_0) = (Prod.mk i_1 e_2))) →
(bif (e_2 != (0 : Int)) then (Q (Out.ret (AV.int .i64 e_2)) [] (Gh.mk (0 : Nat) (0 : Nat) []))
else (bif (decide (t < (0 : Int))) then (Q (Out.ret (AV.int .i64 (2 : Int))) [] (Gh.mk (0 : Nat) (0 : Nat) []))
else (bif (decide (t > (1099511627776 : Int))) then (Q (Out.ret (AV.int .i64 (2 : Int))) [] (Gh.mk (0 : Nat) (0 : Nat) []))
else (bif (decide (t < f)) then (Q (Out.ret (AV.int .i64 (10 : Int))) [] (Gh.mk (0 : Nat) (0 : Nat) []))
else (bif (decide (t > u)) then (Q (Out.ret (AV.int .i64 (10 : Int))) [] (Gh.mk (0 : Nat) (0 : Nat) []))
else (Q (Out.ret (AV.int .i64 (0 : Int))) [] (Gh.mk (0 : Nat) (0 : Nat) []))))))))))))) := by kernel_rfl

def accM (n k : List UInt8) (f u m : Int) (l : List (List UInt8)) (t : Int) : Int :=
  if (matchM n k f u m l).2 ≠ 0 then (matchM n k f u m l).2 else if t < 0 ∨ 1099511627776 < t then 2 else if t < f ∨ u < t then 10 else 0
noncomputable def goal_19 (hv : Nat → Option Pa) (hb : Nat → Option Bool) (n k : List UInt8) (f u m : Int) (Q : Out → List Blk → Gh → Prop) : Prop :=
  callx (e18 sm0 (fun _ => none) hv hb) (wpx (e18 sm0 (fun _ => none) hv hb) 1000) 19 [.agg (bdg n k f u m)] [] {} Q
theorem vc_19 (n : List UInt8) (k : List UInt8) (f : Int) (u : Int) (m : Int) (Q : Out → List Blk → Gh → Prop) : goal_19 (lookV [(77831, .int .i64), (77832, .int .i64), (77833, .str), (77838, .int .i64), (77839, .int .i64), (77840, .str)]) (lookB []) n k f u m Q = (
(∃ n_0 : Int, (((AV.int .i64 (Nat.cast (List.length n) : Int)) = (AV.int .i64 n_0)) ∧
 (∃ n_1 : Int, (((AV.int .i64 (imin n_0 (60 : Int))) = (AV.int .i64 n_1)) ∧
 (bif (((decide ((0 : Int) ≤ n_1)) && true) && (Nat.ble (Int.toNat n_1) (List.length n))) then (∃ s_2 : (List UInt8), (((AV.str (List.take ((Int.toNat n_1) - (0 : Nat)) (List.drop (0 : Nat) n))) = (AV.str s_2)) ∧
 (∃ n_3 : Int, (((AV.int .i64 (Nat.cast (List.length k) : Int)) = (AV.int .i64 n_3)) ∧
 (∃ n_4 : Int, (((AV.int .i64 (imin n_3 (60 : Int))) = (AV.int .i64 n_4)) ∧
 (bif (((decide ((0 : Int) ≤ n_4)) && true) && (Nat.ble (Int.toNat n_4) (List.length k))) then (∃ s_5 : (List UInt8), (((AV.str (List.take ((Int.toNat n_4) - (0 : Nat)) (List.drop (0 : Nat) k))) = (AV.str s_5)) ∧
 (Q (Out.ret (AV.agg ((AV.str s_2) :: ((AV.str s_5) :: ((AV.int .i64 f) :: ((AV.int .i64 u) :: ((AV.int .i64 m) :: []))))))) [] (Gh.mk (0 : Nat) (0 : Nat) []))))
else False)))))))
else False)))))) := by kernel_rfl

end Go.Proofs.YtifjpcdpmimccaaGreatDoor

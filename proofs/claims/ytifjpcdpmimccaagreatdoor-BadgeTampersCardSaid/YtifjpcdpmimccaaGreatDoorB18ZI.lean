/-
  Chapter 18: the sample wakes: residual.
-/
import Derived.Test.YtifjpcdpmimccaaGreatDoorB18ZH
set_option linter.unusedSimpArgs false
set_option linter.unusedVariables false
set_option linter.unusedSectionVars false
namespace Go.Proofs.YtifjpcdpmimccaaGreatDoor
open Go.RowKit
set_option maxRecDepth 1000000

def smW : SM := lookS [(35, cRepeat), (22, cEncB), (14, cDecB), (23, cPrt), (28, cMatchV), (17, cCkp), (41, cLow), (30, cAccV), (21, cChk)]
theorem smW_ok : ∀ f g, smW f = some g → ValidF Tryz.prog gl0 f g := lookS_ok _ (by simp only [List.mem_cons, List.not_mem_nil, or_false, forall_eq_or_imp, forall_eq]; exact ⟨repeat_ok, encB_ok, decB_ok, prt_ok, matchV_ok, ckp_ok, low_ok, accV_ok, chk_ok⟩)
noncomputable def goal_10 (hv : Nat → Option Pa) (hb : Nat → Option Bool) (Q : Out → List Blk → Gh → Prop) : Prop :=
  callx (e18 smW (fun _ => none) hv hb) (wpx (e18 smW (fun _ => none) hv hb) 1000) 10 [] [] {} Q
theorem vc_10 (Q : Out → List Blk → Gh → Prop) : goal_10 (lookV [(41017, .int .i64), (294918, .int .i64), (294926, .str), (41032, .str)]) (lookB []) Q = (Lf (List.length [UInt8.ofNat 97, UInt8.ofNat 98] ≤ 9223372036854775807) ∧ ∀ s_0 : List
 UInt8, ∀ e_1 : Int, Lf (encBM [UInt8.ofNat 97, UInt8.ofNat 98] (repM [UInt8.ofNat 7] 32) 1 2 3 = Prod.mk s_0 e_1) → Lf (s_0.length ≤ 1000000) ∧ ∀ n_2 k_3 : List UInt8, ∀ f_4 u_5 m_6 e_7 : Int, Lf (decBM s_0 = Prod.mk n_2 (Prod.mk k_3
 (Prod.mk f_4 (Prod.mk u_5 (Prod.mk m_6 e_7))))) → Lf (List.length [UInt8.ofNat 97, UInt8.ofNat 98] ≤ 9223372036854775807) ∧ ∀ s_8 : List UInt8, ∀ e_9 : Int, Lf (prtM [UInt8.ofNat 97, UInt8.ofNat 98] (repM [UInt8.ofNat 7] 32) 1 2 3 =
 Prod.mk s_8 e_9) → ∃ l_10 : List (List UInt8), Lf (([AV.str s_8] = cellsSM l_10 ∧ 1 = l_10.length) ∧ List.length [UInt8.ofNat 97, UInt8.ofNat 98] ≤ 9223372036854775807 ∧ ∀ s_11 : List UInt8, Membership.mem l_10 s_11 → s_11.length ≤
 9223372036854775807) ∧ ∀ i_11 e_12 : Int, Lf (matchM [UInt8.ofNat 97, UInt8.ofNat 98] (repM [UInt8.ofNat 7] 32) 1 2 3 l_10 = Prod.mk i_11 e_12) → bif e_1 == 0 then bif eqB s_0 [UInt8.ofNat 102, UInt8.ofNat 100, UInt8.ofNat 1, UInt8.ofNat
 0, UInt8.ofNat 0, UInt8.ofNat 0, UInt8.ofNat 0, UInt8.ofNat 0, UInt8.ofNat 3, UInt8.ofNat 0, UInt8.ofNat 0, UInt8.ofNat 0, UInt8.ofNat 0, UInt8.ofNat 0, UInt8.ofNat 1, UInt8.ofNat 0, UInt8.ofNat 0, UInt8.ofNat 0, UInt8.ofNat 0, UInt8.ofNat
 0, UInt8.ofNat 2, UInt8.ofNat 2, UInt8.ofNat 97, UInt8.ofNat 98, UInt8.ofNat 7, UInt8.ofNat 7, UInt8.ofNat 7, UInt8.ofNat 7, UInt8.ofNat 7, UInt8.ofNat 7, UInt8.ofNat 7, UInt8.ofNat 7, UInt8.ofNat 7, UInt8.ofNat 7, UInt8.ofNat 7,
 UInt8.ofNat 7, UInt8.ofNat 7, UInt8.ofNat 7, UInt8.ofNat 7, UInt8.ofNat 7, UInt8.ofNat 7, UInt8.ofNat 7, UInt8.ofNat 7, UInt8.ofNat 7, UInt8.ofNat 7, UInt8.ofNat 7, UInt8.ofNat 7, UInt8.ofNat 7, UInt8.ofNat 7, UInt8.ofNat 7, UInt8.ofNat 7,
 UInt8.ofNat 7, UInt8.ofNat 7, UInt8.ofNat 7, UInt8.ofNat 7, UInt8.ofNat 7] then bif e_7 == 0 then bif eqB n_2 [UInt8.ofNat 97, UInt8.ofNat 98] && (eqB k_3 (repM [UInt8.ofNat 7] 32) && (f_4 == 1 && (u_5 == 2 && (m_6 == 3 && true)))) then
 bif e_9 == 0 then exI .i64 (s_8.length : Int) fun n_13 => bif n_13 == 103 then exI .i64 (s_8.length : Int) fun n_14 => bif decide (n_14 ≥ 8) then ckQ (Nat.ble 8 s_8.length) (exS (.str ((s_8.drop 0).take 8)) fun s_15 => bif eqB s_15
 [UInt8.ofNat 115, UInt8.ofNat 104, UInt8.ofNat 97, UInt8.ofNat 45, UInt8.ofNat 50, UInt8.ofNat 53, UInt8.ofNat 54, UInt8.ofNat 32] then Lf (s_8.length ≤ 9223372036854775807) ∧ ∀ e_16 : Int, Lf (e_16 = ckpM s_8) → bif e_16 == 0 then Lf
 (s_8.length ≤ 1000000 ∧ List.all s_8 (fun (c_17 : UInt8) => Nat.blt (UInt8.toNat c_17) 128) = true) ∧ ∀ x_17 : List UInt8, Lf (x_17 = lowM s_8) → ckQ (decide (x_17.length + 1 ≤ 9223372036854775807) && true) (exS (.str (x_17 ++ [UInt8.ofNat
 97])) fun s_18 => Lf (s_18.length ≤ 9223372036854775807) ∧ ∀ e_19 : Int, Lf (e_19 = ckpM s_18) → bif e_19 == 5 then bif e_12 == 0 then bif i_11 == 0 then ∃ l_20 : List (List UInt8), Lf (([AV.str s_8] = cellsSM l_20 ∧ 1 = l_20.length) ∧
 List.length [UInt8.ofNat 97, UInt8.ofNat 98] ≤ 9223372036854775807 ∧ ∀ s_21 : List UInt8, Membership.mem l_20 s_21 → s_21.length ≤ 9223372036854775807) ∧ ∀ e_21 : Int, Lf (e_21 = accM [UInt8.ofNat 97, UInt8.ofNat 98] (repM [UInt8.ofNat 7]
 32) 1 2 3 l_20 2) → bif e_21 == 0 then ∃ l_22 : List (List UInt8), Lf (([AV.str s_8] = cellsSM l_22 ∧ 1 = l_22.length) ∧ List.length [UInt8.ofNat 97, UInt8.ofNat 98] ≤ 9223372036854775807 ∧ ∀ s_23 : List UInt8, Membership.mem l_22 s_23 →
 s_23.length ≤ 9223372036854775807) ∧ ∀ e_23 : Int, Lf (e_23 = accM [UInt8.ofNat 97, UInt8.ofNat 98] (repM [UInt8.ofNat 7] 32) 1 2 3 l_22 3) → bif e_23 == 10 then Lf (List.length [UInt8.ofNat 97, UInt8.ofNat 98] ≤ 9223372036854775807) ∧ ∀
 e_24 : Int, Lf (e_24 = chkM [UInt8.ofNat 97, UInt8.ofNat 98] (repM [UInt8.ofNat 7] 32) 1 2 3) → bif e_24 == 0 then Lf (([] : List UInt8).length ≤ 9223372036854775807) ∧ ∀ e_25 : Int, Lf (e_25 = chkM [] [] 0 0 0) → bif e_25 == 180 then Q
 (.ret (.bool true)) [] {} else Q (.ret (.bool false)) [] {} else Q (.ret (.bool false)) [] {} else Q (.ret (.bool false)) [] {} else Q (.ret (.bool false)) [] {} else Q (.ret (.bool false)) [] {} else Q (.ret (.bool false)) [] {} else Q
 (.ret (.bool false)) [] {}) else Q (.ret (.bool false)) [] {} else Q (.ret (.bool false)) [] {}) else Q (.ret (.bool false)) [] {} else Q (.ret (.bool false)) [] {} else Q (.ret (.bool false)) [] {} else Q (.ret (.bool false)) [] {} else Q
 (.ret (.bool false)) [] {} else Q (.ret (.bool false)) [] {} else Q (.ret (.bool false)) [] {}) := by kernel_rfl

end Go.Proofs.YtifjpcdpmimccaaGreatDoor

/-
  Chapter 18: BadgeTampers: residual.
-/
import Derived.Test.YtifjpcdpmimccaaGreatDoorB18ZL
set_option linter.unusedSimpArgs false
set_option linter.unusedVariables false
set_option linter.unusedSectionVars false
namespace Go.Proofs.YtifjpcdpmimccaaGreatDoor
open Go.RowKit
set_option maxRecDepth 1000000

def smLw : SM := lookS [(10, cWakes), (12, cDraft), (22, cEncB), (14, cDecB), (20, cBend), (19, cFew), (21, cChk), (23, cPrt), (17, cCkp)]
theorem smLw_ok : ∀ f g, smLw f = some g → ValidF Tryz.prog gl0 f g := lookS_ok _ (by simp only [List.mem_cons, List.not_mem_nil, or_false, forall_eq_or_imp, forall_eq]; exact ⟨wakes_ok, draft_ok, encB_ok, decB_ok, bend_ok, few_ok, chk_ok, prt_ok, ckp_ok⟩)
noncomputable def goal_5 (hv : Nat → Option Pa) (hb : Nat → Option Bool) (d : List UInt8) (ky fr af nu a b : Int) (Q : Out → List Blk → Gh → Prop) : Prop :=
  callx (e18 smLw (fun _ => none) hv hb) (wpx (e18 smLw (fun _ => none) hv hb) 1000) 5 [.agg [.lst 0 (ofBytes d) d.length 1, .int .u8 ky, .int .u16 fr, .int .u16 af, .int .u32 nu], .int .u8 a, .int .u8 b] [] {} Q
theorem vc_5 (d : List UInt8) (ky : Int) (fr : Int) (af : Int) (nu : Int) (a : Int) (b : Int) (Q : Out → List Blk → Gh → Prop) : goal_5 (lookV [(20511, .int .i64), (20515, .int .i64), (20517, .int .i64), (20518, .int .i64), (20521, .str),
 (20524, .int .u8), (20526, .int .u8), (20527, .int .u8), (20528, .int .u8), (20530, .str), (20531, .str), (20534, .int .i64), (20535, .str), (20536, .str), (20540, .str), (20545, .int .i64), (20546, .str), (20547, .str)]) (lookB []) d ky
 fr af nu a b Q = (∃ d_0 : List UInt8, Lf ((ofBytes d = ofBytes d_0 ∧ d.length = d_0.length) ∧ d_0.length ≤ 9223372036854775807 ∧ (0 ≤ fr ∧ fr ≤ 65535) ∧ (0 ≤ af ∧ af ≤ 65535) ∧ 0 ≤ nu ∧ nu ≤ 4294967295) ∧ ∀ n_1 k_2 : List UInt8, ∀ f_3 u_4
 m_5 : Int, Lf (rightBM n_1 k_2 f_3 u_4 m_5 = true) → Lf (n_1.length ≤ 9223372036854775807) ∧ ∀ s_6 : List UInt8, ∀ e_7 : Int, Lf (encBM n_1 k_2 f_3 u_4 m_5 = Prod.mk s_6 e_7) → bif e_7 != 0 then Q (.ret (.bool false)) [] {} else exI .i64
 (s_6.length : Int) fun n_8 => bif decide (n_8 < 2) then Q (.ret (.bool false)) [] {} else exW .i64 a fun n_9 => exI .i64 (s_6.length : Int) fun n_10 => ckQ (n_10 != 0 && true) (exI .i64 (n_9.tmod n_10) fun n_11 => ckQ (decide (0 ≤ n_11) &&
 true && Nat.ble n_11.toNat s_6.length) (exS (.str ((s_6.drop 0).take (n_11.toNat - 0))) fun s_12 => ckQ (decide (0 ≤ n_11) && Nat.blt n_11.toNat s_6.length) (exI .u8 (UInt8.toNat (s_6.getD n_11.toNat (UInt8.ofNat 0)) : Int) fun n_13 => exI
 .u8 (b.tmod 255) fun n_14 => exW .u8 (1 + n_14) fun n_15 => exW .u8 (((n_13 % 256).toNat ^^^ (n_15 % 256).toNat : Nat) : Int) fun n_16 => exS (.str [toB (.int .u8 n_16)]) fun s_17 => ckQ (decide (s_12.length + s_17.length ≤
 9223372036854775807) && true) (exS (.str (s_12 ++ s_17)) fun s_18 => exW .i64 (n_11 + 1) fun n_19 => ckQ (decide (0 ≤ n_19) && true && Nat.ble n_19.toNat s_6.length && Nat.ble s_6.length s_6.length) (exS (.str ((s_6.drop n_19.toNat).take
 (s_6.length - n_19.toNat))) fun s_20 => ckQ (decide (s_18.length + s_20.length ≤ 9223372036854775807) && true) (exS (.str (s_18 ++ s_20)) fun s_21 => ckQ (decide (0 ≤ n_11) && true && Nat.ble n_11.toNat s_6.length) (exS (.str ((s_6.drop
 0).take (n_11.toNat - 0))) fun s_22 => exW .i64 (n_11 + 1) fun n_23 => ckQ (decide (0 ≤ n_11) && decide (0 ≤ n_23) && Nat.ble n_11.toNat n_23.toNat && Nat.ble n_23.toNat s_6.length) (exS (.str ((s_6.drop n_11.toNat).take (n_23.toNat -
 n_11.toNat))) fun s_24 => ckQ (decide (s_6.length + s_24.length ≤ 9223372036854775807) && true) (exS (.str (s_6 ++ s_24)) fun s_25 => Lf (s_21.length ≤ 1000000) ∧ ∀ n_26 k_27 : List UInt8, ∀ f_28 u_29 m_30 e_31 : Int, Lf (decBM s_21 =
 Prod.mk n_26 (Prod.mk k_27 (Prod.mk f_28 (Prod.mk u_29 (Prod.mk m_30 e_31))))) → bif e_31 != 0 then bif e_31 != 5 then Q (.ret (.bool false)) [] {} else bif !(eqB n_26 [] && (eqB k_27 [] && (f_28 == 0 && (u_29 == 0 && (m_30 == 0 &&
 true))))) then Q (.ret (.bool false)) [] {} else Lf (s_22.length ≤ 1000000) ∧ ∀ n_32 k_33 : List UInt8, ∀ f_34 u_35 m_36 e_37 : Int, Lf (decBM s_22 = Prod.mk n_32 (Prod.mk k_33 (Prod.mk f_34 (Prod.mk u_35 (Prod.mk m_36 e_37))))) → bif e_37
 != 0 then bif e_37 != 5 then Q (.ret (.bool false)) [] {} else bif !(eqB n_32 [] && (eqB k_33 [] && (f_34 == 0 && (u_35 == 0 && (m_36 == 0 && true))))) then Q (.ret (.bool false)) [] {} else Lf (s_25.length ≤ 1000000) ∧ ∀ n_38 k_39 : List
 UInt8, ∀ f_40 u_41 m_42 e_43 : Int, Lf (decBM s_25 = Prod.mk n_38 (Prod.mk k_39 (Prod.mk f_40 (Prod.mk u_41 (Prod.mk m_42 e_43))))) → bif e_43 != 0 then bif e_43 != 5 then Q (.ret (.bool false)) [] {} else bif !(eqB n_38 [] && (eqB k_39 []
 && (f_40 == 0 && (u_41 == 0 && (m_42 == 0 && true))))) then Q (.ret (.bool false)) [] {} else Q (.ret (.bool true)) [] {} else Lf (n_38.length ≤ 9223372036854775807) ∧ ∀ s_44 : List UInt8, ∀ e_45 : Int, Lf (encBM n_38 k_39 f_40 u_41 m_42 =
 Prod.mk s_44 e_45) → bif eqB n_38 n_1 && (eqB k_39 k_2 && (f_40 == f_3 && (u_41 == u_4 && (m_42 == m_5 && true)))) then Q (.ret (.bool false)) [] {} else bif e_45 != 0 then Q (.ret (.bool false)) [] {} else bif !eqB s_44 s_25 then Q (.ret
 (.bool false)) [] {} else Q (.ret (.bool true)) [] {} else Lf (n_32.length ≤ 9223372036854775807) ∧ ∀ s_38 : List UInt8, ∀ e_39 : Int, Lf (encBM n_32 k_33 f_34 u_35 m_36 = Prod.mk s_38 e_39) → bif eqB n_32 n_1 && (eqB k_33 k_2 && (f_34 ==
 f_3 && (u_35 == u_4 && (m_36 == m_5 && true)))) then Q (.ret (.bool false)) [] {} else bif e_39 != 0 then Q (.ret (.bool false)) [] {} else bif !eqB s_38 s_22 then Q (.ret (.bool false)) [] {} else Lf (s_25.length ≤ 1000000) ∧ ∀ n_40 k_41
 : List UInt8, ∀ f_42 u_43 m_44 e_45 : Int, Lf (decBM s_25 = Prod.mk n_40 (Prod.mk k_41 (Prod.mk f_42 (Prod.mk u_43 (Prod.mk m_44 e_45))))) → bif e_45 != 0 then bif e_45 != 5 then Q (.ret (.bool false)) [] {} else bif !(eqB n_40 [] && (eqB
 k_41 [] && (f_42 == 0 && (u_43 == 0 && (m_44 == 0 && true))))) then Q (.ret (.bool false)) [] {} else Q (.ret (.bool true)) [] {} else Lf (n_40.length ≤ 9223372036854775807) ∧ ∀ s_46 : List UInt8, ∀ e_47 : Int, Lf (encBM n_40 k_41 f_42
 u_43 m_44 = Prod.mk s_46 e_47) → bif eqB n_40 n_1 && (eqB k_41 k_2 && (f_42 == f_3 && (u_43 == u_4 && (m_44 == m_5 && true)))) then Q (.ret (.bool false)) [] {} else bif e_47 != 0 then Q (.ret (.bool false)) [] {} else bif !eqB s_46 s_25
 then Q (.ret (.bool false)) [] {} else Q (.ret (.bool true)) [] {} else Lf (n_26.length ≤ 9223372036854775807) ∧ ∀ s_32 : List UInt8, ∀ e_33 : Int, Lf (encBM n_26 k_27 f_28 u_29 m_30 = Prod.mk s_32 e_33) → bif eqB n_26 n_1 && (eqB k_27 k_2
 && (f_28 == f_3 && (u_29 == u_4 && (m_30 == m_5 && true)))) then Q (.ret (.bool false)) [] {} else bif e_33 != 0 then Q (.ret (.bool false)) [] {} else bif !eqB s_32 s_21 then Q (.ret (.bool false)) [] {} else Lf (s_22.length ≤ 1000000) ∧
 ∀ n_34 k_35 : List UInt8, ∀ f_36 u_37 m_38 e_39 : Int, Lf (decBM s_22 = Prod.mk n_34 (Prod.mk k_35 (Prod.mk f_36 (Prod.mk u_37 (Prod.mk m_38 e_39))))) → bif e_39 != 0 then bif e_39 != 5 then Q (.ret (.bool false)) [] {} else bif !(eqB n_34
 [] && (eqB k_35 [] && (f_36 == 0 && (u_37 == 0 && (m_38 == 0 && true))))) then Q (.ret (.bool false)) [] {} else Lf (s_25.length ≤ 1000000) ∧ ∀ n_40 k_41 : List UInt8, ∀ f_42 u_43 m_44 e_45 : Int, Lf (decBM s_25 = Prod.mk n_40 (Prod.mk
 k_41 (Prod.mk f_42 (Prod.mk u_43 (Prod.mk m_44 e_45))))) → bif e_45 != 0 then bif e_45 != 5 then Q (.ret (.bool false)) [] {} else bif !(eqB n_40 [] && (eqB k_41 [] && (f_42 == 0 && (u_43 == 0 && (m_44 == 0 && true))))) then Q (.ret (.bool
 false)) [] {} else Q (.ret (.bool true)) [] {} else Lf (n_40.length ≤ 9223372036854775807) ∧ ∀ s_46 : List UInt8, ∀ e_47 : Int, Lf (encBM n_40 k_41 f_42 u_43 m_44 = Prod.mk s_46 e_47) → bif eqB n_40 n_1 && (eqB k_41 k_2 && (f_42 == f_3 &&
 (u_43 == u_4 && (m_44 == m_5 && true)))) then Q (.ret (.bool false)) [] {} else bif e_47 != 0 then Q (.ret (.bool false)) [] {} else bif !eqB s_46 s_25 then Q (.ret (.bool false)) [] {} else Q (.ret (.bool true)) [] {} else Lf (n_34.length
 ≤ 9223372036854775807) ∧ ∀ s_40 : List UInt8, ∀ e_41 : Int, Lf (encBM n_34 k_35 f_36 u_37 m_38 = Prod.mk s_40 e_41) → bif eqB n_34 n_1 && (eqB k_35 k_2 && (f_36 == f_3 && (u_37 == u_4 && (m_38 == m_5 && true)))) then Q (.ret (.bool false))
 [] {} else bif e_41 != 0 then Q (.ret (.bool false)) [] {} else bif !eqB s_40 s_22 then Q (.ret (.bool false)) [] {} else Lf (s_25.length ≤ 1000000) ∧ ∀ n_42 k_43 : List UInt8, ∀ f_44 u_45 m_46 e_47 : Int, Lf (decBM s_25 = Prod.mk n_42
 (Prod.mk k_43 (Prod.mk f_44 (Prod.mk u_45 (Prod.mk m_46 e_47))))) → bif e_47 != 0 then bif e_47 != 5 then Q (.ret (.bool false)) [] {} else bif !(eqB n_42 [] && (eqB k_43 [] && (f_44 == 0 && (u_45 == 0 && (m_46 == 0 && true))))) then Q
 (.ret (.bool false)) [] {} else Q (.ret (.bool true)) [] {} else Lf (n_42.length ≤ 9223372036854775807) ∧ ∀ s_48 : List UInt8, ∀ e_49 : Int, Lf (encBM n_42 k_43 f_44 u_45 m_46 = Prod.mk s_48 e_49) → bif eqB n_42 n_1 && (eqB k_43 k_2 &&
 (f_44 == f_3 && (u_45 == u_4 && (m_46 == m_5 && true)))) then Q (.ret (.bool false)) [] {} else bif e_49 != 0 then Q (.ret (.bool false)) [] {} else bif !eqB s_48 s_25 then Q (.ret (.bool false)) [] {} else Q (.ret (.bool true)) []
 {})))))))))) := by kernel_rfl

end Go.Proofs.YtifjpcdpmimccaaGreatDoor

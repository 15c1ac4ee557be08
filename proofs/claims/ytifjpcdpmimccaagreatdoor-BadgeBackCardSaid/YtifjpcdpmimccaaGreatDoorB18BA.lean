/-
  Chapter 18: BadgeBack: residual.
-/
import Derived.Test.YtifjpcdpmimccaaGreatDoorBmK
set_option linter.unusedSimpArgs false
set_option linter.unusedVariables false
set_option linter.unusedSectionVars false
namespace Go.Proofs.YtifjpcdpmimccaaGreatDoor
open Go.RowKit
set_option maxRecDepth 1000000

noncomputable def goal_4 (hv : Nat → Option Pa) (hb : Nat → Option Bool) (d c : List UInt8) (ky fr af nu ky2 fr2 af2 nu2 a v : Int) (s : List UInt8) (Q : Out → List Blk → Gh → Prop) : Prop :=
  callx (e18 smLw (fun _ => none) hv hb) (wpx (e18 smLw (fun _ => none) hv hb) 1000) 4 [.agg [.lst 0 (ofBytes d) d.length 1, .int .u8 ky, .int .u16 fr, .int .u16 af, .int .u32 nu], .agg [.lst 0 (ofBytes c) c.length 1, .int .u8 ky2, .int .u16 fr2, .int .u16 af2, .int .u32 nu2], .agg [.int .u8 a, .int .i64 v, .str s]] [] {} Q
theorem vc_4 (d : List UInt8) (c : List UInt8) (ky : Int) (fr : Int) (af : Int) (nu : Int) (ky2 : Int) (fr2 : Int) (af2 : Int) (nu2 : Int) (a : Int) (v : Int) (s : List UInt8) (Q : Out → List Blk → Gh → Prop) : goal_4 (lookV []) (lookB [])
 d c ky fr af nu ky2 fr2 af2 nu2 a v s Q = (∃ d_0 : List UInt8, Lf ((ofBytes d = ofBytes d_0 ∧ d.length = d_0.length) ∧ d_0.length ≤ 9223372036854775807 ∧ (0 ≤ fr ∧ fr ≤ 65535) ∧ (0 ≤ af ∧ af ≤ 65535) ∧ 0 ≤ nu ∧ nu ≤ 4294967295) ∧ ∀ n_1 k_2
 : List UInt8, ∀ f_3 u_4 m_5 : Int, Lf (rightBM n_1 k_2 f_3 u_4 m_5 = true) → ckQ (eqAVL [.lst 0 (ofBytes c) c.length 1, .int .u8 ky2, .int .u16 fr2, .int .u16 af2, .int .u32 nu2] [.lst 0 (ofBytes c) c.length 1, .int .u8 ky2, .int .u16 fr2,
 .int .u16 af2, .int .u32 nu2] && true) (∃ d_6 : List UInt8, Lf ((ofBytes c = ofBytes d_6 ∧ c.length = d_6.length) ∧ d_6.length ≤ 9223372036854775807 ∧ (0 ≤ fr2 ∧ fr2 ≤ 65535) ∧ (0 ≤ af2 ∧ af2 ≤ 65535) ∧ 0 ≤ nu2 ∧ nu2 ≤ 4294967295) ∧ ∀ n_7
 k_8 : List UInt8, ∀ f_9 u_10 m_11 : Int, Lf (rightBM n_7 k_8 f_9 u_10 m_11 = true) → ∀ n'_12 k'_13 : List UInt8, ∀ f'_14 u'_15 m'_16 : Int, Lf (bendM a v s n_1 k_2 f_3 u_4 m_5 = Prod.mk n'_12 (Prod.mk k'_13 (Prod.mk f'_14 (Prod.mk u'_15
 m'_16)))) → ∀ n'_17 k'_18 : List UInt8, Lf (n'_17 = few60 n'_12 ∧ k'_18 = few60 k'_13) → Lf (n'_17.length ≤ 9223372036854775807) ∧ ∀ e_19 : Int, Lf (e_19 = chkM n'_17 k'_18 f'_14 u'_15 m'_16) → bif e_19 == 0 then Lf (n_1.length ≤
 9223372036854775807) ∧ ∀ s_20 : List UInt8, ∀ e_21 : Int, Lf (encBM n_1 k_2 f_3 u_4 m_5 = Prod.mk s_20 e_21) → Lf (n'_17.length ≤ 9223372036854775807) ∧ ∀ s_22 : List UInt8, ∀ e_23 : Int, Lf (encBM n'_17 k'_18 f'_14 u'_15 m'_16 = Prod.mk
 s_22 e_23) → Lf (s_20.length ≤ 1000000) ∧ ∀ n_24 k_25 : List UInt8, ∀ f_26 u_27 m_28 e_29 : Int, Lf (decBM s_20 = Prod.mk n_24 (Prod.mk k_25 (Prod.mk f_26 (Prod.mk u_27 (Prod.mk m_28 e_29))))) → Lf (s_22.length ≤ 1000000) ∧ ∀ n_30 k_31 :
 List UInt8, ∀ f_32 u_33 m_34 e_35 : Int, Lf (decBM s_22 = Prod.mk n_30 (Prod.mk k_31 (Prod.mk f_32 (Prod.mk u_33 (Prod.mk m_34 e_35))))) → Lf (n_1.length ≤ 9223372036854775807) ∧ ∀ s_36 : List UInt8, ∀ e_37 : Int, Lf (prtM n_1 k_2 f_3 u_4
 m_5 = Prod.mk s_36 e_37) → Lf (n'_17.length ≤ 9223372036854775807) ∧ ∀ s_38 : List UInt8, ∀ e_39 : Int, Lf (prtM n'_17 k'_18 f'_14 u'_15 m'_16 = Prod.mk s_38 e_39) → bif e_21 == 0 then bif e_23 == 0 then bif e_29 == 0 then bif e_35 == 0
 then bif e_37 == 0 then bif e_39 == 0 then bif eqB n_24 n_1 && (eqB k_25 k_2 && (f_26 == f_3 && (u_27 == u_4 && (m_28 == m_5 && true)))) then bif eqB n_30 n'_17 && (eqB k_31 k'_18 && (f_32 == f'_14 && (u_33 == u'_15 && (m_34 == m'_16 &&
 true)))) then bif eqB s_20 s_22 then bif eqB n_1 n'_17 && (eqB k_2 k'_18 && (f_3 == f'_14 && (u_4 == u'_15 && (m_5 == m'_16 && true)))) then bif eqB s_36 s_38 then Lf (s_36.length ≤ 9223372036854775807) ∧ ∀ e_40 : Int, Lf (e_40 = ckpM
 s_36) → bif e_40 == 0 then Q (.ret (.bool true)) [] {} else Q (.ret (.bool false)) [] {} else bif !eqB s_20 s_22 then Lf (s_36.length ≤ 9223372036854775807) ∧ ∀ e_40 : Int, Lf (e_40 = ckpM s_36) → bif e_40 == 0 then Q (.ret (.bool true))
 [] {} else Q (.ret (.bool false)) [] {} else Q (.ret (.bool false)) [] {} else Q (.ret (.bool false)) [] {} else bif eqB n_1 n'_17 && (eqB k_2 k'_18 && (f_3 == f'_14 && (u_4 == u'_15 && (m_5 == m'_16 && true)))) then Q (.ret (.bool false))
 [] {} else bif eqB s_36 s_38 then Lf (s_36.length ≤ 9223372036854775807) ∧ ∀ e_40 : Int, Lf (e_40 = ckpM s_36) → bif e_40 == 0 then Q (.ret (.bool true)) [] {} else Q (.ret (.bool false)) [] {} else bif !eqB s_20 s_22 then Lf (s_36.length
 ≤ 9223372036854775807) ∧ ∀ e_40 : Int, Lf (e_40 = ckpM s_36) → bif e_40 == 0 then Q (.ret (.bool true)) [] {} else Q (.ret (.bool false)) [] {} else Q (.ret (.bool false)) [] {} else Q (.ret (.bool false)) [] {} else Q (.ret (.bool false))
 [] {} else Q (.ret (.bool false)) [] {} else Q (.ret (.bool false)) [] {} else Q (.ret (.bool false)) [] {} else Q (.ret (.bool false)) [] {} else Q (.ret (.bool false)) [] {} else Q (.ret (.bool false)) [] {} else Lf (n_1.length ≤
 9223372036854775807) ∧ ∀ s_20 : List UInt8, ∀ e_21 : Int, Lf (encBM n_1 k_2 f_3 u_4 m_5 = Prod.mk s_20 e_21) → Lf (n_7.length ≤ 9223372036854775807) ∧ ∀ s_22 : List UInt8, ∀ e_23 : Int, Lf (encBM n_7 k_8 f_9 u_10 m_11 = Prod.mk s_22 e_23)
 → Lf (s_20.length ≤ 1000000) ∧ ∀ n_24 k_25 : List UInt8, ∀ f_26 u_27 m_28 e_29 : Int, Lf (decBM s_20 = Prod.mk n_24 (Prod.mk k_25 (Prod.mk f_26 (Prod.mk u_27 (Prod.mk m_28 e_29))))) → Lf (s_22.length ≤ 1000000) ∧ ∀ n_30 k_31 : List UInt8,
 ∀ f_32 u_33 m_34 e_35 : Int, Lf (decBM s_22 = Prod.mk n_30 (Prod.mk k_31 (Prod.mk f_32 (Prod.mk u_33 (Prod.mk m_34 e_35))))) → Lf (n_1.length ≤ 9223372036854775807) ∧ ∀ s_36 : List UInt8, ∀ e_37 : Int, Lf (prtM n_1 k_2 f_3 u_4 m_5 =
 Prod.mk s_36 e_37) → Lf (n_7.length ≤ 9223372036854775807) ∧ ∀ s_38 : List UInt8, ∀ e_39 : Int, Lf (prtM n_7 k_8 f_9 u_10 m_11 = Prod.mk s_38 e_39) → bif e_21 == 0 then bif e_23 == 0 then bif e_29 == 0 then bif e_35 == 0 then bif e_37 == 0
 then bif e_39 == 0 then bif eqB n_24 n_1 && (eqB k_25 k_2 && (f_26 == f_3 && (u_27 == u_4 && (m_28 == m_5 && true)))) then bif eqB n_30 n_7 && (eqB k_31 k_8 && (f_32 == f_9 && (u_33 == u_10 && (m_34 == m_11 && true)))) then bif eqB s_20
 s_22 then bif eqB n_1 n_7 && (eqB k_2 k_8 && (f_3 == f_9 && (u_4 == u_10 && (m_5 == m_11 && true)))) then bif eqB s_36 s_38 then Lf (s_36.length ≤ 9223372036854775807) ∧ ∀ e_40 : Int, Lf (e_40 = ckpM s_36) → bif e_40 == 0 then Q (.ret
 (.bool true)) [] {} else Q (.ret (.bool false)) [] {} else bif !eqB s_20 s_22 then Lf (s_36.length ≤ 9223372036854775807) ∧ ∀ e_40 : Int, Lf (e_40 = ckpM s_36) → bif e_40 == 0 then Q (.ret (.bool true)) [] {} else Q (.ret (.bool false)) []
 {} else Q (.ret (.bool false)) [] {} else Q (.ret (.bool false)) [] {} else bif eqB n_1 n_7 && (eqB k_2 k_8 && (f_3 == f_9 && (u_4 == u_10 && (m_5 == m_11 && true)))) then Q (.ret (.bool false)) [] {} else bif eqB s_36 s_38 then Lf
 (s_36.length ≤ 9223372036854775807) ∧ ∀ e_40 : Int, Lf (e_40 = ckpM s_36) → bif e_40 == 0 then Q (.ret (.bool true)) [] {} else Q (.ret (.bool false)) [] {} else bif !eqB s_20 s_22 then Lf (s_36.length ≤ 9223372036854775807) ∧ ∀ e_40 :
 Int, Lf (e_40 = ckpM s_36) → bif e_40 == 0 then Q (.ret (.bool true)) [] {} else Q (.ret (.bool false)) [] {} else Q (.ret (.bool false)) [] {} else Q (.ret (.bool false)) [] {} else Q (.ret (.bool false)) [] {} else Q (.ret (.bool false))
 [] {} else Q (.ret (.bool false)) [] {} else Q (.ret (.bool false)) [] {} else Q (.ret (.bool false)) [] {} else Q (.ret (.bool false)) [] {} else Q (.ret (.bool false)) [] {})) := by kernel_rfl

end Go.Proofs.YtifjpcdpmimccaaGreatDoor

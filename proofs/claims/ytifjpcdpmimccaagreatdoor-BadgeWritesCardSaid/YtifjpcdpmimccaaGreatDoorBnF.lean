/-
  Chapter 18: BadgeWrites: residual.
-/
import Derived.Test.YtifjpcdpmimccaaGreatDoorBnE
import Derived.Test.YtifjpcdpmimccaaGreatDoorBmG
import Derived.Test.YtifjpcdpmimccaaGreatDoorBnL
set_option linter.unusedSimpArgs false
set_option linter.unusedVariables false
set_option linter.unusedSectionVars false
namespace Go.Proofs.YtifjpcdpmimccaaGreatDoor
open Go.RowKit
set_option maxRecDepth 1000000

def smWr : SM := lookS [(10, cWakes), (12, cDraft), (20, cBend), (19, cFew), (25, cRightB), (22, cEncB), (23, cPrt), (21, cChk), (11, cOctB), (26, cRPrint)]
theorem smWr_ok : ∀ f g, smWr f = some g → ValidF Tryz.prog gl0 f g := lookS_ok _ (by simp only [List.mem_cons, List.not_mem_nil, or_false, forall_eq_or_imp, forall_eq]; exact ⟨wakes_ok, draft_ok, bend_ok, few_ok, right25_ok, encB_ok, prt_ok, chk_ok, octB_ok, rprint_ok⟩)
noncomputable def goal_6 (hv : Nat → Option Pa) (hb : Nat → Option Bool) (d : List UInt8) (ky fr af nu : Int) (a1 v1 a2 v2 : Int) (s1 s2 n k : List UInt8) (f u m : Int) (Q : Out → List Blk → Gh → Prop) : Prop :=
  callx (e18 smWr (fun _ => none) hv hb) (wpx (e18 smWr (fun _ => none) hv hb) 1000) 6 [.agg [.lst 0 (ofBytes d) d.length 1, .int .u8 ky, .int .u16 fr, .int .u16 af, .int .u32 nu], .agg [.int .u8 a1, .int .i64 v1, .str s1, .int .u8 a2, .int .i64 v2, .str s2], .agg [.str n, .str k, .int .i64 f, .int .i64 u, .int .i64 m]] [] {} Q
def wrT0 (n'_23 : List UInt8) (k'_24 : List UInt8) (f'_20 : Int) (u'_21 : Int) (m'_22 : Int) (Q : Out → List Blk → Gh → Prop) (n'_25 : List UInt8) (k'_26 : List UInt8) (f : Int) (u : Int) (m : Int) : Prop :=
∀ b_43 : Bool, Lf (b_43 = rightBM n'_23 k'_24 f'_20 u'_21 m'_22) → bif b_43 then Lf (n'_23.length ≤ 9223372036854775807) ∧ ∀ s_44 : List UInt8, ∀ e_45 : Int, Lf (encBM n'_23 k'_24 f'_20 u'_21 m'_22 = Prod.mk s_44 e_45) → Lf (n'_23.length ≤
 9223372036854775807) ∧ ∀ s_46 : List UInt8, ∀ e_47 : Int, Lf (prtM n'_23 k'_24 f'_20 u'_21 m'_22 = Prod.mk s_46 e_47) → Lf (n'_23.length ≤ 9223372036854775807) ∧ ∀ e_48 : Int, Lf (e_48 = chkM n'_23 k'_24 f'_20 u'_21 m'_22) → bif e_48 != 0
 then Q (.ret (.bool false)) [] {} else bif e_45 != 0 then Q (.ret (.bool false)) [] {} else bif e_47 != 0 then Q (.ret (.bool false)) [] {} else Lf (rightBM n'_23 k'_24 f'_20 u'_21 m'_22 = true) ∧ ∀ s_49 : List UInt8, Lf (s_49 = octBM
 n'_23 k'_24 f'_20 u'_21 m'_22) → bif !eqB s_44 s_49 then Q (.ret (.bool false)) [] {} else Lf (rightBM n'_23 k'_24 f'_20 u'_21 m'_22 = true) ∧ ∀ s_50 : List UInt8, Lf (s_50 = shB n'_23 k'_24 f'_20 u'_21 m'_22) → bif !eqB s_46 s_50 then Q
 (.ret (.bool false)) [] {} else ∀ b_51 : Bool, Lf (b_51 = rightBM n'_25 k'_26 f u m) → bif b_51 then Lf (n'_25.length ≤ 9223372036854775807) ∧ ∀ s_52 : List UInt8, ∀ e_53 : Int, Lf (encBM n'_25 k'_26 f u m = Prod.mk s_52 e_53) → Lf
 (n'_25.length ≤ 9223372036854775807) ∧ ∀ s_54 : List UInt8, ∀ e_55 : Int, Lf (prtM n'_25 k'_26 f u m = Prod.mk s_54 e_55) → Lf (n'_25.length ≤ 9223372036854775807) ∧ ∀ e_56 : Int, Lf (e_56 = chkM n'_25 k'_26 f u m) → bif e_56 != 0 then Q
 (.ret (.bool false)) [] {} else bif e_53 != 0 then Q (.ret (.bool false)) [] {} else bif e_55 != 0 then Q (.ret (.bool false)) [] {} else Lf (rightBM n'_25 k'_26 f u m = true) ∧ ∀ s_57 : List UInt8, Lf (s_57 = octBM n'_25 k'_26 f u m) →
 bif !eqB s_52 s_57 then Q (.ret (.bool false)) [] {} else Lf (rightBM n'_25 k'_26 f u m = true) ∧ ∀ s_58 : List UInt8, Lf (s_58 = shB n'_25 k'_26 f u m) → bif !eqB s_54 s_58 then Q (.ret (.bool false)) [] {} else Q (.ret (.bool true)) []
 {} else Lf (n'_25.length ≤ 9223372036854775807) ∧ ∀ s_52 : List UInt8, ∀ e_53 : Int, Lf (encBM n'_25 k'_26 f u m = Prod.mk s_52 e_53) → Lf (n'_25.length ≤ 9223372036854775807) ∧ ∀ s_54 : List UInt8, ∀ e_55 : Int, Lf (prtM n'_25 k'_26 f u m
 = Prod.mk s_54 e_55) → Lf (n'_25.length ≤ 9223372036854775807) ∧ ∀ e_56 : Int, Lf (e_56 = chkM n'_25 k'_26 f u m) → bif e_56 != 180 then Q (.ret (.bool false)) [] {} else bif e_53 != 180 then Q (.ret (.bool false)) [] {} else bif e_55 !=
 180 then Q (.ret (.bool false)) [] {} else ckQ (decide (s_52.length + s_54.length ≤ 9223372036854775807) && true) (exS (.str (s_52 ++ s_54)) (fun s_57 => bif !eqB s_57 [] then Q (.ret (.bool false)) [] {} else Q (.ret (.bool true)) [] {}))
 else Lf (n'_23.length ≤ 9223372036854775807) ∧ ∀ s_44 : List UInt8, ∀ e_45 : Int, Lf (encBM n'_23 k'_24 f'_20 u'_21 m'_22 = Prod.mk s_44 e_45) → Lf (n'_23.length ≤ 9223372036854775807) ∧ ∀ s_46 : List UInt8, ∀ e_47 : Int, Lf (prtM n'_23
 k'_24 f'_20 u'_21 m'_22 = Prod.mk s_46 e_47) → Lf (n'_23.length ≤ 9223372036854775807) ∧ ∀ e_48 : Int, Lf (e_48 = chkM n'_23 k'_24 f'_20 u'_21 m'_22) → bif e_48 != 180 then Q (.ret (.bool false)) [] {} else bif e_45 != 180 then Q (.ret
 (.bool false)) [] {} else bif e_47 != 180 then Q (.ret (.bool false)) [] {} else ckQ (decide (s_44.length + s_46.length ≤ 9223372036854775807) && true) (exS (.str (s_44 ++ s_46)) (fun s_49 => bif !eqB s_49 [] then Q (.ret (.bool false)) []
 {} else ∀ b_50 : Bool, Lf (b_50 = rightBM n'_25 k'_26 f u m) → bif b_50 then Lf (n'_25.length ≤ 9223372036854775807) ∧ ∀ s_51 : List UInt8, ∀ e_52 : Int, Lf (encBM n'_25 k'_26 f u m = Prod.mk s_51 e_52) → Lf (n'_25.length ≤
 9223372036854775807) ∧ ∀ s_53 : List UInt8, ∀ e_54 : Int, Lf (prtM n'_25 k'_26 f u m = Prod.mk s_53 e_54) → Lf (n'_25.length ≤ 9223372036854775807) ∧ ∀ e_55 : Int, Lf (e_55 = chkM n'_25 k'_26 f u m) → bif e_55 != 0 then Q (.ret (.bool
 false)) [] {} else bif e_52 != 0 then Q (.ret (.bool false)) [] {} else bif e_54 != 0 then Q (.ret (.bool false)) [] {} else Lf (rightBM n'_25 k'_26 f u m = true) ∧ ∀ s_56 : List UInt8, Lf (s_56 = octBM n'_25 k'_26 f u m) → bif !eqB s_51
 s_56 then Q (.ret (.bool false)) [] {} else Lf (rightBM n'_25 k'_26 f u m = true) ∧ ∀ s_57 : List UInt8, Lf (s_57 = shB n'_25 k'_26 f u m) → bif !eqB s_53 s_57 then Q (.ret (.bool false)) [] {} else Q (.ret (.bool true)) [] {} else Lf
 (n'_25.length ≤ 9223372036854775807) ∧ ∀ s_51 : List UInt8, ∀ e_52 : Int, Lf (encBM n'_25 k'_26 f u m = Prod.mk s_51 e_52) → Lf (n'_25.length ≤ 9223372036854775807) ∧ ∀ s_53 : List UInt8, ∀ e_54 : Int, Lf (prtM n'_25 k'_26 f u m = Prod.mk
 s_53 e_54) → Lf (n'_25.length ≤ 9223372036854775807) ∧ ∀ e_55 : Int, Lf (e_55 = chkM n'_25 k'_26 f u m) → bif e_55 != 180 then Q (.ret (.bool false)) [] {} else bif e_52 != 180 then Q (.ret (.bool false)) [] {} else bif e_54 != 180 then Q
 (.ret (.bool false)) [] {} else ckQ (decide (s_51.length + s_53.length ≤ 9223372036854775807) && true) (exS (.str (s_51 ++ s_53)) (fun s_56 => bif !eqB s_56 [] then Q (.ret (.bool false)) [] {} else Q (.ret (.bool true)) [] {}))))
theorem vc_6 (d : List UInt8) (ky : Int) (fr : Int) (af : Int) (nu : Int) (a1 : Int) (v1 : Int) (a2 : Int) (v2 : Int) (s1 : List UInt8) (s2 : List UInt8) (n : List UInt8) (k : List UInt8) (f : Int) (u : Int) (m : Int) (Q : Out → List Blk →
 Gh → Prop) : goal_6 (lookV [(24633, .str)]) (lookB []) d ky fr af nu a1 v1 a2 v2 s1 s2 n k f u m Q = (∃ d_0 : List UInt8, Lf ((ofBytes d = ofBytes d_0 ∧ d.length = d_0.length) ∧ d_0.length ≤ 9223372036854775807 ∧ (0 ≤ fr ∧ fr ≤ 65535) ∧ (0
 ≤ af ∧ af ≤ 65535) ∧ 0 ≤ nu ∧ nu ≤ 4294967295) ∧ ∀ n_1 k_2 : List UInt8, ∀ f_3 u_4 m_5 : Int, Lf (rightBM n_1 k_2 f_3 u_4 m_5 = true) → ∀ n'_6 k'_7 : List UInt8, ∀ f'_8 u'_9 m'_10 : Int, Lf (bendM a1 v1 s1 n_1 k_2 f_3 u_4 m_5 = Prod.mk
 n'_6 (Prod.mk k'_7 (Prod.mk f'_8 (Prod.mk u'_9 m'_10)))) → ckQ (eqAVL [.str n, .str k, .int IntKind.i64 f, .int IntKind.i64 u, .int IntKind.i64 m] [.str n, .str k, .int IntKind.i64 f, .int IntKind.i64 u, .int IntKind.i64 m] && true) (ckQ
 (eqAVL [.str n_1, .str k_2, .int IntKind.i64 f_3, .int IntKind.i64 u_4, .int IntKind.i64 m_5] [.str n_1, .str k_2, .int IntKind.i64 f_3, .int IntKind.i64 u_4, .int IntKind.i64 m_5] && true) (ckQ (eqAVL [.int IntKind.u8 a1, .int IntKind.i64
 v1, .str s1] [.int IntKind.u8 a1, .int IntKind.i64 v1, .str s1] && true) (ckQ (eqAVL [.int IntKind.u8 a2, .int IntKind.i64 v2, .str s2] [.int IntKind.u8 a2, .int IntKind.i64 v2, .str s2] && true) (ckQ (eqAVL [.str n_1, .str k_2, .int
 IntKind.i64 f_3, .int IntKind.i64 u_4, .int IntKind.i64 m_5] [.str n_1, .str k_2, .int IntKind.i64 f_3, .int IntKind.i64 u_4, .int IntKind.i64 m_5] && true) (∀ n'_11 k'_12 : List UInt8, Lf (n'_11 = few60 n'_6 ∧ k'_12 = few60 k'_7) → ckQ
 (eqAVL [.str n, .str k, .int IntKind.i64 f, .int IntKind.i64 u, .int IntKind.i64 m] [.str n, .str k, .int IntKind.i64 f, .int IntKind.i64 u, .int IntKind.i64 m] && true) (ckQ (eqAVL [.str n_1, .str k_2, .int IntKind.i64 f_3, .int
 IntKind.i64 u_4, .int IntKind.i64 m_5] [.str n_1, .str k_2, .int IntKind.i64 f_3, .int IntKind.i64 u_4, .int IntKind.i64 m_5] && true) (ckQ (eqAVL [.int IntKind.u8 a1, .int IntKind.i64 v1, .str s1] [.int IntKind.u8 a1, .int IntKind.i64 v1,
 .str s1] && true) (ckQ (eqAVL [.int IntKind.u8 a2, .int IntKind.i64 v2, .str s2] [.int IntKind.u8 a2, .int IntKind.i64 v2, .str s2] && true) (ckQ (eqAVL [.str n_1, .str k_2, .int IntKind.i64 f_3, .int IntKind.i64 u_4, .int IntKind.i64 m_5]
 [.str n_1, .str k_2, .int IntKind.i64 f_3, .int IntKind.i64 u_4, .int IntKind.i64 m_5] && true) (∀ n'_13 k'_14 : List UInt8, ∀ f'_15 u'_16 m'_17 : Int, Lf (bendM a1 v1 s1 n_1 k_2 f_3 u_4 m_5 = Prod.mk n'_13 (Prod.mk k'_14 (Prod.mk f'_15
 (Prod.mk u'_16 m'_17)))) → ckQ (eqAVL [.str n, .str k, .int IntKind.i64 f, .int IntKind.i64 u, .int IntKind.i64 m] [.str n, .str k, .int IntKind.i64 f, .int IntKind.i64 u, .int IntKind.i64 m] && true) (ckQ (eqAVL [.int IntKind.u8 a2, .int
 IntKind.i64 v2, .str s2] [.int IntKind.u8 a2, .int IntKind.i64 v2, .str s2] && true) (ckQ (eqAVL [.str n_1, .str k_2, .int IntKind.i64 f_3, .int IntKind.i64 u_4, .int IntKind.i64 m_5] [.str n_1, .str k_2, .int IntKind.i64 f_3, .int
 IntKind.i64 u_4, .int IntKind.i64 m_5] && true) (∀ n'_18 k'_19 : List UInt8, ∀ f'_20 u'_21 m'_22 : Int, Lf (bendM a2 v2 s2 n'_13 k'_14 f'_15 u'_16 m'_17 = Prod.mk n'_18 (Prod.mk k'_19 (Prod.mk f'_20 (Prod.mk u'_21 m'_22)))) → ckQ (eqAVL
 [.str n, .str k, .int IntKind.i64 f, .int IntKind.i64 u, .int IntKind.i64 m] [.str n, .str k, .int IntKind.i64 f, .int IntKind.i64 u, .int IntKind.i64 m] && true) (ckQ (eqAVL [.str n_1, .str k_2, .int IntKind.i64 f_3, .int IntKind.i64 u_4,
 .int IntKind.i64 m_5] [.str n_1, .str k_2, .int IntKind.i64 f_3, .int IntKind.i64 u_4, .int IntKind.i64 m_5] && true) (∀ n'_23 k'_24 : List UInt8, Lf (n'_23 = few60 n'_18 ∧ k'_24 = few60 k'_19) → ckQ (eqAVL [.str n, .str k, .int
 IntKind.i64 f, .int IntKind.i64 u, .int IntKind.i64 m] [.str n, .str k, .int IntKind.i64 f, .int IntKind.i64 u, .int IntKind.i64 m] && true) (ckQ (eqAVL [.str n_1, .str k_2, .int IntKind.i64 f_3, .int IntKind.i64 u_4, .int IntKind.i64 m_5]
 [.str n_1, .str k_2, .int IntKind.i64 f_3, .int IntKind.i64 u_4, .int IntKind.i64 m_5] && true) (∀ n'_25 k'_26 : List UInt8, Lf (n'_25 = few60 n ∧ k'_26 = few60 k) → ckQ (eqAVL [.str n_1, .str k_2, .int IntKind.i64 f_3, .int IntKind.i64
 u_4, .int IntKind.i64 m_5] [.str n_1, .str k_2, .int IntKind.i64 f_3, .int IntKind.i64 u_4, .int IntKind.i64 m_5] && true) (∀ b_27 : Bool, Lf (b_27 = rightBM n_1 k_2 f_3 u_4 m_5) → bif b_27 then Lf (n_1.length ≤ 9223372036854775807) ∧ ∀
 s_28 : List UInt8, ∀ e_29 : Int, Lf (encBM n_1 k_2 f_3 u_4 m_5 = Prod.mk s_28 e_29) → Lf (n_1.length ≤ 9223372036854775807) ∧ ∀ s_30 : List UInt8, ∀ e_31 : Int, Lf (prtM n_1 k_2 f_3 u_4 m_5 = Prod.mk s_30 e_31) → Lf (n_1.length ≤
 9223372036854775807) ∧ ∀ e_32 : Int, Lf (e_32 = chkM n_1 k_2 f_3 u_4 m_5) → bif e_32 != 0 then Q (.ret (.bool false)) [] {} else bif e_29 != 0 then Q (.ret (.bool false)) [] {} else bif e_31 != 0 then Q (.ret (.bool false)) [] {} else Lf
 (rightBM n_1 k_2 f_3 u_4 m_5 = true) ∧ ∀ s_33 : List UInt8, Lf (s_33 = octBM n_1 k_2 f_3 u_4 m_5) → bif !eqB s_28 s_33 then Q (.ret (.bool false)) [] {} else Lf (rightBM n_1 k_2 f_3 u_4 m_5 = true) ∧ ∀ s_34 : List UInt8, Lf (s_34 = shB n_1
 k_2 f_3 u_4 m_5) → bif !eqB s_30 s_34 then Q (.ret (.bool false)) [] {} else ∀ b_35 : Bool, Lf (b_35 = rightBM n'_11 k'_12 f'_8 u'_9 m'_10) → bif b_35 then Lf (n'_11.length ≤ 9223372036854775807) ∧ ∀ s_36 : List UInt8, ∀ e_37 : Int, Lf
 (encBM n'_11 k'_12 f'_8 u'_9 m'_10 = Prod.mk s_36 e_37) → Lf (n'_11.length ≤ 9223372036854775807) ∧ ∀ s_38 : List UInt8, ∀ e_39 : Int, Lf (prtM n'_11 k'_12 f'_8 u'_9 m'_10 = Prod.mk s_38 e_39) → Lf (n'_11.length ≤ 9223372036854775807) ∧ ∀
 e_40 : Int, Lf (e_40 = chkM n'_11 k'_12 f'_8 u'_9 m'_10) → bif e_40 != 0 then Q (.ret (.bool false)) [] {} else bif e_37 != 0 then Q (.ret (.bool false)) [] {} else bif e_39 != 0 then Q (.ret (.bool false)) [] {} else Lf (rightBM n'_11
 k'_12 f'_8 u'_9 m'_10 = true) ∧ ∀ s_41 : List UInt8, Lf (s_41 = octBM n'_11 k'_12 f'_8 u'_9 m'_10) → bif !eqB s_36 s_41 then Q (.ret (.bool false)) [] {} else Lf (rightBM n'_11 k'_12 f'_8 u'_9 m'_10 = true) ∧ ∀ s_42 : List UInt8, Lf (s_42
 = shB n'_11 k'_12 f'_8 u'_9 m'_10) → bif !eqB s_38 s_42 then Q (.ret (.bool false)) [] {} else wrT0 n'_23 k'_24 f'_20 u'_21 m'_22 Q n'_25 k'_26 f u m else Lf (n'_11.length ≤ 9223372036854775807) ∧ ∀ s_36 : List UInt8, ∀ e_37 : Int, Lf
 (encBM n'_11 k'_12 f'_8 u'_9 m'_10 = Prod.mk s_36 e_37) → Lf (n'_11.length ≤ 9223372036854775807) ∧ ∀ s_38 : List UInt8, ∀ e_39 : Int, Lf (prtM n'_11 k'_12 f'_8 u'_9 m'_10 = Prod.mk s_38 e_39) → Lf (n'_11.length ≤ 9223372036854775807) ∧ ∀
 e_40 : Int, Lf (e_40 = chkM n'_11 k'_12 f'_8 u'_9 m'_10) → bif e_40 != 180 then Q (.ret (.bool false)) [] {} else bif e_37 != 180 then Q (.ret (.bool false)) [] {} else bif e_39 != 180 then Q (.ret (.bool false)) [] {} else ckQ (decide
 (s_36.length + s_38.length ≤ 9223372036854775807) && true) (exS (.str (s_36 ++ s_38)) (fun s_41 => bif !eqB s_41 [] then Q (.ret (.bool false)) [] {} else wrT0 n'_23 k'_24 f'_20 u'_21 m'_22 Q n'_25 k'_26 f u m)) else Lf (n_1.length ≤
 9223372036854775807) ∧ ∀ s_28 : List UInt8, ∀ e_29 : Int, Lf (encBM n_1 k_2 f_3 u_4 m_5 = Prod.mk s_28 e_29) → Lf (n_1.length ≤ 9223372036854775807) ∧ ∀ s_30 : List UInt8, ∀ e_31 : Int, Lf (prtM n_1 k_2 f_3 u_4 m_5 = Prod.mk s_30 e_31) →
 Lf (n_1.length ≤ 9223372036854775807) ∧ ∀ e_32 : Int, Lf (e_32 = chkM n_1 k_2 f_3 u_4 m_5) → bif e_32 != 180 then Q (.ret (.bool false)) [] {} else bif e_29 != 180 then Q (.ret (.bool false)) [] {} else bif e_31 != 180 then Q (.ret (.bool
 false)) [] {} else ckQ (decide (s_28.length + s_30.length ≤ 9223372036854775807) && true) (exS (.str (s_28 ++ s_30)) (fun s_33 => bif !eqB s_33 [] then Q (.ret (.bool false)) [] {} else ∀ b_34 : Bool, Lf (b_34 = rightBM n'_11 k'_12 f'_8
 u'_9 m'_10) → bif b_34 then Lf (n'_11.length ≤ 9223372036854775807) ∧ ∀ s_35 : List UInt8, ∀ e_36 : Int, Lf (encBM n'_11 k'_12 f'_8 u'_9 m'_10 = Prod.mk s_35 e_36) → Lf (n'_11.length ≤ 9223372036854775807) ∧ ∀ s_37 : List UInt8, ∀ e_38 :
 Int, Lf (prtM n'_11 k'_12 f'_8 u'_9 m'_10 = Prod.mk s_37 e_38) → Lf (n'_11.length ≤ 9223372036854775807) ∧ ∀ e_39 : Int, Lf (e_39 = chkM n'_11 k'_12 f'_8 u'_9 m'_10) → bif e_39 != 0 then Q (.ret (.bool false)) [] {} else bif e_36 != 0 then
 Q (.ret (.bool false)) [] {} else bif e_38 != 0 then Q (.ret (.bool false)) [] {} else Lf (rightBM n'_11 k'_12 f'_8 u'_9 m'_10 = true) ∧ ∀ s_40 : List UInt8, Lf (s_40 = octBM n'_11 k'_12 f'_8 u'_9 m'_10) → bif !eqB s_35 s_40 then Q (.ret
 (.bool false)) [] {} else Lf (rightBM n'_11 k'_12 f'_8 u'_9 m'_10 = true) ∧ ∀ s_41 : List UInt8, Lf (s_41 = shB n'_11 k'_12 f'_8 u'_9 m'_10) → bif !eqB s_37 s_41 then Q (.ret (.bool false)) [] {} else wrT0 n'_23 k'_24 f'_20 u'_21 m'_22 Q
 n'_25 k'_26 f u m else Lf (n'_11.length ≤ 9223372036854775807) ∧ ∀ s_35 : List UInt8, ∀ e_36 : Int, Lf (encBM n'_11 k'_12 f'_8 u'_9 m'_10 = Prod.mk s_35 e_36) → Lf (n'_11.length ≤ 9223372036854775807) ∧ ∀ s_37 : List UInt8, ∀ e_38 : Int,
 Lf (prtM n'_11 k'_12 f'_8 u'_9 m'_10 = Prod.mk s_37 e_38) → Lf (n'_11.length ≤ 9223372036854775807) ∧ ∀ e_39 : Int, Lf (e_39 = chkM n'_11 k'_12 f'_8 u'_9 m'_10) → bif e_39 != 180 then Q (.ret (.bool false)) [] {} else bif e_36 != 180 then
 Q (.ret (.bool false)) [] {} else bif e_38 != 180 then Q (.ret (.bool false)) [] {} else ckQ (decide (s_35.length + s_37.length ≤ 9223372036854775807) && true) (exS (.str (s_35 ++ s_37)) (fun s_40 => bif !eqB s_40 [] then Q (.ret (.bool
 false)) [] {} else wrT0 n'_23 k'_24 f'_20 u'_21 m'_22 Q n'_25 k'_26 f u m))))))))))))))))))))))) := by kernel_rfl

end Go.Proofs.YtifjpcdpmimccaaGreatDoor

set_option linter.unusedSimpArgs false
set_option linter.unusedVariables false
set_option linter.unusedSectionVars false
namespace Go.Proofs.YtifjpcdpmimccaaGreatDoor
open Go.RowKit
set_option maxRecDepth 1000000

theorem eq_bend (a v : Int) (s : List UInt8) : (eqAVL [AV.int .u8 a, .int .i64 v, .str s] [AV.int .u8 a, .int .i64 v, .str s] && true) = true := by
  simp [eqAVL, eqAV, eqB_refl]
theorem wrR {n k : List UInt8} {f u m : Int} {F K : Prop} (hn : n.length ≤ 9223372036854775807) (hK : K) : ∀ b : Bool, Lf (b = rightBM n k f u m) →
    (bif b then (Lf (n.length ≤ 9223372036854775807) ∧ ∀ (s : List UInt8) (e : Int), Lf (encBM n k f u m = (s, e)) → (Lf (n.length ≤ 9223372036854775807) ∧ ∀ (s' : List UInt8) (e' : Int), Lf (prtM n k f u m = (s', e')) → (Lf (n.length ≤ 9223372036854775807) ∧ ∀ e2 : Int, Lf (e2 = chkM n k f u m) →
      (bif e2 != 0 then F else (bif e != 0 then F else (bif e' != 0 then F else (Lf (rightBM n k f u m = true) ∧ ∀ s3 : List UInt8, Lf (s3 = octBM n k f u m) → (bif !(eqB s s3) then F else (Lf (rightBM n k f u m = true) ∧ ∀ s4 : List UInt8, Lf (s4 = shB n k f u m) → (bif !(eqB s' s4) then F else K))))))))))
    else (Lf (n.length ≤ 9223372036854775807) ∧ ∀ (s : List UInt8) (e : Int), Lf (encBM n k f u m = (s, e)) → (Lf (n.length ≤ 9223372036854775807) ∧ ∀ (s' : List UInt8) (e' : Int), Lf (prtM n k f u m = (s', e')) → (Lf (n.length ≤ 9223372036854775807) ∧ ∀ e2 : Int, Lf (e2 = chkM n k f u m) →
      (bif e2 != 180 then F else (bif e != 180 then F else (bif e' != 180 then F else (bif decide (s.length + s'.length ≤ 9223372036854775807) && true then (∃ s5, AV.str (s ++ s') = AV.str s5 ∧ (bif !(eqB s5 []) then F else K)) else False)))))))) := by
  rintro b ⟨hb⟩
  cases b with
  | true =>
    have hr := hb.symm
    refine ⟨⟨hn⟩, ?_⟩
    rintro s e ⟨h⟩
    rw [encBM, if_pos hr] at h
    obtain ⟨rfl, rfl⟩ := Prod.mk.inj h
    refine ⟨⟨hn⟩, ?_⟩
    rintro s e ⟨h⟩
    rw [prtM, if_pos hr] at h
    obtain ⟨rfl, rfl⟩ := Prod.mk.inj h
    refine ⟨⟨hn⟩, ?_⟩
    rintro e ⟨h⟩
    refine bF (by rw [h, chkM, if_pos hr]; rfl) (bF rfl (bF rfl ⟨⟨hr⟩, ?_⟩))
    rintro s3 ⟨rfl⟩
    refine bF (by rw [eqB_refl]; rfl) ⟨⟨hr⟩, ?_⟩
    rintro s4 ⟨rfl⟩
    exact bF (by rw [shB, eqB_refl]; rfl) hK
  | false =>
    have hr : ¬ rightBM n k f u m = true := by rw [← hb]; exact fun h => by cases h
    refine ⟨⟨hn⟩, ?_⟩
    rintro s e ⟨h⟩
    rw [encBM, if_neg hr] at h
    obtain ⟨rfl, rfl⟩ := Prod.mk.inj h
    refine ⟨⟨hn⟩, ?_⟩
    rintro s e ⟨h⟩
    rw [prtM, if_neg hr] at h
    obtain ⟨rfl, rfl⟩ := Prod.mk.inj h
    refine ⟨⟨hn⟩, ?_⟩
    rintro e ⟨h⟩
    exact bF (by rw [h, chkM, if_neg hr]; rfl) (bF rfl (bF rfl (ckI rfl ⟨_, rfl, bF rfl hK⟩)))
theorem wrT0_ok {n k n' k' : List UInt8} {f u m f' u' m' : Int} {Q : Out → List Blk → Gh → Prop} (hn : n.length ≤ 9223372036854775807) (hn' : n'.length ≤ 9223372036854775807) (hq : Q (.ret (.bool true)) [] {}) : wrT0 n k f u m Q n' k' f' u' m' := by
  unfold wrT0
  exact wrR hn (wrR hn' hq)
theorem writes_run (d : List UInt8) (ky fr af nu : Int) (a1 v1 a2 v2 : Int) (s1 s2 n k : List UInt8) (f u m : Int) (hd : d.length ≤ 9223372036854775807) (hf : 0 ≤ fr ∧ fr ≤ 65535) (hf2 : 0 ≤ af ∧ af ≤ 65535) (hnu : 0 ≤ nu ∧ nu ≤ 4294967295)
    (Q : Out → List Blk → Gh → Prop) (hq : Q (.ret (.bool true)) [] {}) : ∃ hv hb, goal_6 hv hb d ky fr af nu a1 v1 a2 v2 s1 s2 n k f u m Q := by
  obtain ⟨hv', hb', e'⟩ : ∃ hv hb, goal_6 hv hb d ky fr af nu a1 v1 a2 v2 s1 s2 n k f u m Q = _ := ⟨_, _, vc_6 d ky fr af nu a1 v1 a2 v2 s1 s2 n k f u m Q⟩
  refine ⟨hv', hb', e'.mpr ?_⟩
  clear e'
  refine ⟨d, ⟨⟨rfl, rfl⟩, hd, hf, hf2, hnu⟩, ?_⟩
  rintro n1 k1 f1 u1 m1 ⟨r1⟩ n2 k2 f2 u2 m2 _
  repeat (refine ckI (by first | exact eq_bdg _ _ _ _ _ | exact eq_bend _ _ _) ?_)
  rintro n3 k3 ⟨rfl, rfl⟩
  repeat (refine ckI (by first | exact eq_bdg _ _ _ _ _ | exact eq_bend _ _ _) ?_)
  rintro n4 k4 f4 u4 m4 _
  repeat (refine ckI (by first | exact eq_bdg _ _ _ _ _ | exact eq_bend _ _ _) ?_)
  rintro n5 k5 f5 u5 m5 _
  repeat (refine ckI (by first | exact eq_bdg _ _ _ _ _ | exact eq_bend _ _ _) ?_)
  rintro n6 k6 ⟨rfl, rfl⟩
  repeat (refine ckI (by first | exact eq_bdg _ _ _ _ _ | exact eq_bend _ _ _) ?_)
  rintro n7 k7 ⟨rfl, rfl⟩
  repeat (refine ckI (by first | exact eq_bdg _ _ _ _ _ | exact eq_bend _ _ _) ?_)
  have hn := ((name_iff n1).1 ((right_iff _ _ _ _ _).1 r1).1).2.1
  have l2 := few_len n2
  have l5 := few_len n5
  have l0 := few_len n
  exact wrR (by omega) (wrR (by omega) (wrT0_ok (by omega) (by omega) hq))
end Go.Proofs.YtifjpcdpmimccaaGreatDoor

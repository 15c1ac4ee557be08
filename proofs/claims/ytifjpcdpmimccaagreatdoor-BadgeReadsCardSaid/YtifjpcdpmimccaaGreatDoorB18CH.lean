/-
  Chapter 18: BadgeReads: residual.
-/
import Derived.Test.YtifjpcdpmimccaaGreatDoorBmJ
import Derived.Test.YtifjpcdpmimccaaGreatDoorBmK
set_option linter.unusedSimpArgs false
set_option linter.unusedVariables false
set_option linter.unusedSectionVars false
namespace Go.Proofs.YtifjpcdpmimccaaGreatDoor
open Go.RowKit
set_option maxRecDepth 1000000

def smLr : SM := lookS [(10, cWakes), (12, cDraft), (11, cOctB), (13, cEd), (14, cDecB), (15, cDecB), (16, cShown), (17, cCkp), (18, cVal18)]
theorem smLr_ok : ∀ f g, smLr f = some g → ValidF Tryz.prog gl0 f g := lookS_ok _ (by simp only [List.mem_cons, List.not_mem_nil, or_false, forall_eq_or_imp, forall_eq]; exact ⟨wakes_ok, draft_ok, octB_ok, ed_ok, decB_ok, dec15_ok, shown16_ok, ckp_ok, valid18_ok⟩)
noncomputable def goal_3 (hv : Nat → Option Pa) (hb : Nat → Option Bool) (d r c1 c2 : List UInt8) (ky fr af nu a1 b1 a2 b2 : Int) (Q : Out → List Blk → Gh → Prop) : Prop :=
  callx (e18 smLr (fun _ => none) hv hb) (wpx (e18 smLr (fun _ => none) hv hb) 1000) 3 [.agg [.lst 0 (ofBytes d) d.length 1, .int .u8 ky, .int .u16 fr, .int .u16 af, .int .u32 nu], .agg [.int .u8 a1, .int .u8 b1, .str c1, .int .u8 a2, .int .u8 b2, .str c2], .str r] [] {} Q
def rdT0 (x_70 : List UInt8) (Q : Out → List Blk → Gh → Prop) (s_67 : List UInt8) : Prop :=
Lf (x_70.length ≤ 9223372036854775807) ∧ ∀ e_79 : Int, Lf (e_79 = ckpM x_70) → bif e_79 == 0 then Lf (x_70.length ≤ 1000000) ∧ ∀ b_80 : Bool, Lf (b_80 = fingM x_70) → bif b_80 then Lf (x_70.length ≤ 9223372036854775807) ∧ ∀ e_81 : Int, Lf
 (e_81 = ckpM x_70) → bif e_81 != 0 then Lf (x_70.length ≤ 9223372036854775807) ∧ ∀ e_82 : Int, Lf (e_82 = ckpM x_70) → bif e_82 != 5 then Q (.ret (.bool false)) [] {} else Lf (s_67.length ≤ 9223372036854775807) ∧ ∀ e_83 : Int, Lf (e_83 =
 ckpM s_67) → bif e_83 == 0 then Lf (s_67.length ≤ 1000000) ∧ ∀ b_84 : Bool, Lf (b_84 = fingM s_67) → bif b_84 then Lf (s_67.length ≤ 9223372036854775807) ∧ ∀ e_85 : Int, Lf (e_85 = ckpM s_67) → bif e_85 != 0 then Lf (s_67.length ≤
 9223372036854775807) ∧ ∀ e_86 : Int, Lf (e_86 = ckpM s_67) → bif e_86 != 5 then Q (.ret (.bool false)) [] {} else Q (.ret (.bool true)) [] {} else Q (.ret (.bool true)) [] {} else Q (.ret (.bool false)) [] {} else Lf (s_67.length ≤
 1000000) ∧ ∀ b_84 : Bool, Lf (b_84 = fingM s_67) → bif b_84 then Q (.ret (.bool false)) [] {} else Lf (s_67.length ≤ 9223372036854775807) ∧ ∀ e_85 : Int, Lf (e_85 = ckpM s_67) → bif e_85 != 0 then Lf (s_67.length ≤ 9223372036854775807) ∧ ∀
 e_86 : Int, Lf (e_86 = ckpM s_67) → bif e_86 != 5 then Q (.ret (.bool false)) [] {} else Q (.ret (.bool true)) [] {} else Q (.ret (.bool true)) [] {} else Lf (s_67.length ≤ 9223372036854775807) ∧ ∀ e_82 : Int, Lf (e_82 = ckpM s_67) → bif
 e_82 == 0 then Lf (s_67.length ≤ 1000000) ∧ ∀ b_83 : Bool, Lf (b_83 = fingM s_67) → bif b_83 then Lf (s_67.length ≤ 9223372036854775807) ∧ ∀ e_84 : Int, Lf (e_84 = ckpM s_67) → bif e_84 != 0 then Lf (s_67.length ≤ 9223372036854775807) ∧ ∀
 e_85 : Int, Lf (e_85 = ckpM s_67) → bif e_85 != 5 then Q (.ret (.bool false)) [] {} else Q (.ret (.bool true)) [] {} else Q (.ret (.bool true)) [] {} else Q (.ret (.bool false)) [] {} else Lf (s_67.length ≤ 1000000) ∧ ∀ b_83 : Bool, Lf
 (b_83 = fingM s_67) → bif b_83 then Q (.ret (.bool false)) [] {} else Lf (s_67.length ≤ 9223372036854775807) ∧ ∀ e_84 : Int, Lf (e_84 = ckpM s_67) → bif e_84 != 0 then Lf (s_67.length ≤ 9223372036854775807) ∧ ∀ e_85 : Int, Lf (e_85 = ckpM
 s_67) → bif e_85 != 5 then Q (.ret (.bool false)) [] {} else Q (.ret (.bool true)) [] {} else Q (.ret (.bool true)) [] {} else Q (.ret (.bool false)) [] {} else Lf (x_70.length ≤ 1000000) ∧ ∀ b_80 : Bool, Lf (b_80 = fingM x_70) → bif b_80
 then Q (.ret (.bool false)) [] {} else Lf (x_70.length ≤ 9223372036854775807) ∧ ∀ e_81 : Int, Lf (e_81 = ckpM x_70) → bif e_81 != 0 then Lf (x_70.length ≤ 9223372036854775807) ∧ ∀ e_82 : Int, Lf (e_82 = ckpM x_70) → bif e_82 != 5 then Q
 (.ret (.bool false)) [] {} else Lf (s_67.length ≤ 9223372036854775807) ∧ ∀ e_83 : Int, Lf (e_83 = ckpM s_67) → bif e_83 == 0 then Lf (s_67.length ≤ 1000000) ∧ ∀ b_84 : Bool, Lf (b_84 = fingM s_67) → bif b_84 then Lf (s_67.length ≤
 9223372036854775807) ∧ ∀ e_85 : Int, Lf (e_85 = ckpM s_67) → bif e_85 != 0 then Lf (s_67.length ≤ 9223372036854775807) ∧ ∀ e_86 : Int, Lf (e_86 = ckpM s_67) → bif e_86 != 5 then Q (.ret (.bool false)) [] {} else Q (.ret (.bool true)) [] {}
 else Q (.ret (.bool true)) [] {} else Q (.ret (.bool false)) [] {} else Lf (s_67.length ≤ 1000000) ∧ ∀ b_84 : Bool, Lf (b_84 = fingM s_67) → bif b_84 then Q (.ret (.bool false)) [] {} else Lf (s_67.length ≤ 9223372036854775807) ∧ ∀ e_85 :
 Int, Lf (e_85 = ckpM s_67) → bif e_85 != 0 then Lf (s_67.length ≤ 9223372036854775807) ∧ ∀ e_86 : Int, Lf (e_86 = ckpM s_67) → bif e_86 != 5 then Q (.ret (.bool false)) [] {} else Q (.ret (.bool true)) [] {} else Q (.ret (.bool true)) []
 {} else Lf (s_67.length ≤ 9223372036854775807) ∧ ∀ e_82 : Int, Lf (e_82 = ckpM s_67) → bif e_82 == 0 then Lf (s_67.length ≤ 1000000) ∧ ∀ b_83 : Bool, Lf (b_83 = fingM s_67) → bif b_83 then Lf (s_67.length ≤ 9223372036854775807) ∧ ∀ e_84 :
 Int, Lf (e_84 = ckpM s_67) → bif e_84 != 0 then Lf (s_67.length ≤ 9223372036854775807) ∧ ∀ e_85 : Int, Lf (e_85 = ckpM s_67) → bif e_85 != 5 then Q (.ret (.bool false)) [] {} else Q (.ret (.bool true)) [] {} else Q (.ret (.bool true)) []
 {} else Q (.ret (.bool false)) [] {} else Lf (s_67.length ≤ 1000000) ∧ ∀ b_83 : Bool, Lf (b_83 = fingM s_67) → bif b_83 then Q (.ret (.bool false)) [] {} else Lf (s_67.length ≤ 9223372036854775807) ∧ ∀ e_84 : Int, Lf (e_84 = ckpM s_67) →
 bif e_84 != 0 then Lf (s_67.length ≤ 9223372036854775807) ∧ ∀ e_85 : Int, Lf (e_85 = ckpM s_67) → bif e_85 != 5 then Q (.ret (.bool false)) [] {} else Q (.ret (.bool true)) [] {} else Q (.ret (.bool true)) [] {}
theorem vc_3 (d : List UInt8) (r : List UInt8) (c1 : List UInt8) (c2 : List UInt8) (ky : Int) (fr : Int) (af : Int) (nu : Int) (a1 : Int) (b1 : Int) (a2 : Int) (b2 : Int) (Q : Out → List Blk → Gh → Prop) : goal_3 (lookV [(12324, .int .i64),
 (12325, .int .i64), (12326, .str), (12352, .int .i64), (12353, .int .i64), (12354, .str), (12370, .int .i64), (12371, .int .i64), (12372, .str)]) (lookB []) d r c1 c2 ky fr af nu a1 b1 a2 b2 Q = (∃ d_0 : List UInt8, Lf ((ofBytes d =
 ofBytes d_0 ∧ d.length = d_0.length) ∧ d_0.length ≤ 9223372036854775807 ∧ (0 ≤ fr ∧ fr ≤ 65535) ∧ (0 ≤ af ∧ af ≤ 65535) ∧ 0 ≤ nu ∧ nu ≤ 4294967295) ∧ ∀ n_1 k_2 : List UInt8, ∀ f_3 u_4 m_5 : Int, Lf (rightBM n_1 k_2 f_3 u_4 m_5 = true) → Lf
 (rightBM n_1 k_2 f_3 u_4 m_5 = true) ∧ ∀ s_6 : List UInt8, Lf (s_6 = octBM n_1 k_2 f_3 u_4 m_5) → exI IntKind.i64 (r.length : Int) (fun n_7 => exI IntKind.i64 (imin n_7 100) (fun n_8 => ckQ (decide (0 ≤ n_8) && true && Nat.ble n_8.toNat
 r.length) (exS (.str ((r.drop 0).take (n_8.toNat - 0))) (fun s_9 => Lf ((0 ≤ a1 ∧ a1 ≤ 255) ∧ (0 ≤ b1 ∧ b1 ≤ 255) ∧ s_6.length ≤ 1000000) ∧ ∀ x_10 : List UInt8, Lf (x_10 = edM a1 b1 c1 s_6) → ckQ (eqAVL [.int IntKind.u8 a1, .int IntKind.u8
 b1, .str c1] [.int IntKind.u8 a1, .int IntKind.u8 b1, .str c1] && true) (ckQ (eqAVL [.int IntKind.u8 a2, .int IntKind.u8 b2, .str c2] [.int IntKind.u8 a2, .int IntKind.u8 b2, .str c2] && true) (Lf ((0 ≤ a1 ∧ a1 ≤ 255) ∧ (0 ≤ b1 ∧ b1 ≤ 255)
 ∧ s_6.length ≤ 1000000) ∧ ∀ x_11 : List UInt8, Lf (x_11 = edM a1 b1 c1 s_6) → ckQ (eqAVL [.int IntKind.u8 a2, .int IntKind.u8 b2, .str c2] [.int IntKind.u8 a2, .int IntKind.u8 b2, .str c2] && true) (Lf ((0 ≤ a2 ∧ a2 ≤ 255) ∧ (0 ≤ b2 ∧ b2 ≤
 255) ∧ x_11.length ≤ 1000000) ∧ ∀ x_12 : List UInt8, Lf (x_12 = edM a2 b2 c2 x_11) → Lf (s_6.length ≤ 1000000) ∧ ∀ n_13 k_14 : List UInt8, ∀ f_15 u_16 m_17 e_18 : Int, Lf (decBM s_6 = Prod.mk n_13 (Prod.mk k_14 (Prod.mk f_15 (Prod.mk u_16
 (Prod.mk m_17 e_18))))) → Lf (s_6.length ≤ 1000000) ∧ ∀ n_19 k_20 : List UInt8, ∀ f_21 u_22 m_23 e_24 : Int, Lf (decBM s_6 = Prod.mk n_19 (Prod.mk k_20 (Prod.mk f_21 (Prod.mk u_22 (Prod.mk m_23 e_24))))) → bif !(eqB n_13 n_19 && (eqB k_14
 k_20 && (f_15 == f_21 && (u_16 == u_22 && (m_17 == m_23 && true))))) then Q (.ret (.bool false)) [] {} else bif e_18 != e_24 then Q (.ret (.bool false)) [] {} else Lf (x_10.length ≤ 1000000) ∧ ∀ n_25 k_26 : List UInt8, ∀ f_27 u_28 m_29
 e_30 : Int, Lf (decBM x_10 = Prod.mk n_25 (Prod.mk k_26 (Prod.mk f_27 (Prod.mk u_28 (Prod.mk m_29 e_30))))) → Lf (x_10.length ≤ 1000000) ∧ ∀ n_31 k_32 : List UInt8, ∀ f_33 u_34 m_35 e_36 : Int, Lf (decBM x_10 = Prod.mk n_31 (Prod.mk k_32
 (Prod.mk f_33 (Prod.mk u_34 (Prod.mk m_35 e_36))))) → bif !(eqB n_25 n_31 && (eqB k_26 k_32 && (f_27 == f_33 && (u_28 == u_34 && (m_29 == m_35 && true))))) then Q (.ret (.bool false)) [] {} else bif e_30 != e_36 then Q (.ret (.bool false))
 [] {} else Lf (x_12.length ≤ 1000000) ∧ ∀ n_37 k_38 : List UInt8, ∀ f_39 u_40 m_41 e_42 : Int, Lf (decBM x_12 = Prod.mk n_37 (Prod.mk k_38 (Prod.mk f_39 (Prod.mk u_40 (Prod.mk m_41 e_42))))) → Lf (x_12.length ≤ 1000000) ∧ ∀ n_43 k_44 :
 List UInt8, ∀ f_45 u_46 m_47 e_48 : Int, Lf (decBM x_12 = Prod.mk n_43 (Prod.mk k_44 (Prod.mk f_45 (Prod.mk u_46 (Prod.mk m_47 e_48))))) → bif !(eqB n_37 n_43 && (eqB k_38 k_44 && (f_39 == f_45 && (u_40 == u_46 && (m_41 == m_47 &&
 true))))) then Q (.ret (.bool false)) [] {} else bif e_42 != e_48 then Q (.ret (.bool false)) [] {} else Lf (s_9.length ≤ 1000000) ∧ ∀ n_49 k_50 : List UInt8, ∀ f_51 u_52 m_53 e_54 : Int, Lf (decBM s_9 = Prod.mk n_49 (Prod.mk k_50 (Prod.mk
 f_51 (Prod.mk u_52 (Prod.mk m_53 e_54))))) → Lf (s_9.length ≤ 1000000) ∧ ∀ n_55 k_56 : List UInt8, ∀ f_57 u_58 m_59 e_60 : Int, Lf (decBM s_9 = Prod.mk n_55 (Prod.mk k_56 (Prod.mk f_57 (Prod.mk u_58 (Prod.mk m_59 e_60))))) → bif !(eqB n_49
 n_55 && (eqB k_50 k_56 && (f_51 == f_57 && (u_52 == u_58 && (m_53 == m_59 && true))))) then Q (.ret (.bool false)) [] {} else bif e_54 != e_60 then Q (.ret (.bool false)) [] {} else exI IntKind.i64 (s_6.length : Int) (fun n_61 => exW
 IntKind.i64 (n_61 - 32) (fun n_62 => ckQ (decide (0 ≤ n_62) && true && Nat.ble n_62.toNat s_6.length && Nat.ble s_6.length s_6.length) (exS (.str ((s_6.drop n_62.toNat).take (s_6.length - n_62.toNat))) (fun s_63 => Lf (s_63.length ≤
 1000000) ∧ ∀ x_64 : List UInt8, Lf (x_64 = shownM s_63) → exI IntKind.i64 (r.length : Int) (fun n_65 => exI IntKind.i64 (imin n_65 120) (fun n_66 => ckQ (decide (0 ≤ n_66) && true && Nat.ble n_66.toNat r.length) (exS (.str ((r.drop 0).take
 (n_66.toNat - 0))) (fun s_67 => Lf ((0 ≤ a1 ∧ a1 ≤ 255) ∧ (0 ≤ b1 ∧ b1 ≤ 255) ∧ x_64.length ≤ 1000000) ∧ ∀ x_68 : List UInt8, Lf (x_68 = edM a1 b1 c1 x_64) → ckQ (eqAVL [.int IntKind.u8 a1, .int IntKind.u8 b1, .str c1] [.int IntKind.u8 a1,
 .int IntKind.u8 b1, .str c1] && true) (ckQ (eqAVL [.int IntKind.u8 a2, .int IntKind.u8 b2, .str c2] [.int IntKind.u8 a2, .int IntKind.u8 b2, .str c2] && true) (Lf ((0 ≤ a1 ∧ a1 ≤ 255) ∧ (0 ≤ b1 ∧ b1 ≤ 255) ∧ x_64.length ≤ 1000000) ∧ ∀ x_69
 : List UInt8, Lf (x_69 = edM a1 b1 c1 x_64) → ckQ (eqAVL [.int IntKind.u8 a2, .int IntKind.u8 b2, .str c2] [.int IntKind.u8 a2, .int IntKind.u8 b2, .str c2] && true) (Lf ((0 ≤ a2 ∧ a2 ≤ 255) ∧ (0 ≤ b2 ∧ b2 ≤ 255) ∧ x_69.length ≤ 1000000) ∧
 ∀ x_70 : List UInt8, Lf (x_70 = edM a2 b2 c2 x_69) → Lf (x_64.length ≤ 9223372036854775807) ∧ ∀ e_71 : Int, Lf (e_71 = ckpM x_64) → bif e_71 == 0 then Lf (x_64.length ≤ 1000000) ∧ ∀ b_72 : Bool, Lf (b_72 = fingM x_64) → bif b_72 then Lf
 (x_64.length ≤ 9223372036854775807) ∧ ∀ e_73 : Int, Lf (e_73 = ckpM x_64) → bif e_73 != 0 then Lf (x_64.length ≤ 9223372036854775807) ∧ ∀ e_74 : Int, Lf (e_74 = ckpM x_64) → bif e_74 != 5 then Q (.ret (.bool false)) [] {} else Lf
 (x_68.length ≤ 9223372036854775807) ∧ ∀ e_75 : Int, Lf (e_75 = ckpM x_68) → bif e_75 == 0 then Lf (x_68.length ≤ 1000000) ∧ ∀ b_76 : Bool, Lf (b_76 = fingM x_68) → bif b_76 then Lf (x_68.length ≤ 9223372036854775807) ∧ ∀ e_77 : Int, Lf
 (e_77 = ckpM x_68) → bif e_77 != 0 then Lf (x_68.length ≤ 9223372036854775807) ∧ ∀ e_78 : Int, Lf (e_78 = ckpM x_68) → bif e_78 != 5 then Q (.ret (.bool false)) [] {} else rdT0 x_70 Q s_67 else rdT0 x_70 Q s_67 else Q (.ret (.bool false))
 [] {} else Lf (x_68.length ≤ 1000000) ∧ ∀ b_76 : Bool, Lf (b_76 = fingM x_68) → bif b_76 then Q (.ret (.bool false)) [] {} else Lf (x_68.length ≤ 9223372036854775807) ∧ ∀ e_77 : Int, Lf (e_77 = ckpM x_68) → bif e_77 != 0 then Lf
 (x_68.length ≤ 9223372036854775807) ∧ ∀ e_78 : Int, Lf (e_78 = ckpM x_68) → bif e_78 != 5 then Q (.ret (.bool false)) [] {} else rdT0 x_70 Q s_67 else rdT0 x_70 Q s_67 else Lf (x_68.length ≤ 9223372036854775807) ∧ ∀ e_74 : Int, Lf (e_74 =
 ckpM x_68) → bif e_74 == 0 then Lf (x_68.length ≤ 1000000) ∧ ∀ b_75 : Bool, Lf (b_75 = fingM x_68) → bif b_75 then Lf (x_68.length ≤ 9223372036854775807) ∧ ∀ e_76 : Int, Lf (e_76 = ckpM x_68) → bif e_76 != 0 then Lf (x_68.length ≤
 9223372036854775807) ∧ ∀ e_77 : Int, Lf (e_77 = ckpM x_68) → bif e_77 != 5 then Q (.ret (.bool false)) [] {} else rdT0 x_70 Q s_67 else rdT0 x_70 Q s_67 else Q (.ret (.bool false)) [] {} else Lf (x_68.length ≤ 1000000) ∧ ∀ b_75 : Bool, Lf
 (b_75 = fingM x_68) → bif b_75 then Q (.ret (.bool false)) [] {} else Lf (x_68.length ≤ 9223372036854775807) ∧ ∀ e_76 : Int, Lf (e_76 = ckpM x_68) → bif e_76 != 0 then Lf (x_68.length ≤ 9223372036854775807) ∧ ∀ e_77 : Int, Lf (e_77 = ckpM
 x_68) → bif e_77 != 5 then Q (.ret (.bool false)) [] {} else rdT0 x_70 Q s_67 else rdT0 x_70 Q s_67 else Q (.ret (.bool false)) [] {} else Lf (x_64.length ≤ 1000000) ∧ ∀ b_72 : Bool, Lf (b_72 = fingM x_64) → bif b_72 then Q (.ret (.bool
 false)) [] {} else Lf (x_64.length ≤ 9223372036854775807) ∧ ∀ e_73 : Int, Lf (e_73 = ckpM x_64) → bif e_73 != 0 then Lf (x_64.length ≤ 9223372036854775807) ∧ ∀ e_74 : Int, Lf (e_74 = ckpM x_64) → bif e_74 != 5 then Q (.ret (.bool false))
 [] {} else Lf (x_68.length ≤ 9223372036854775807) ∧ ∀ e_75 : Int, Lf (e_75 = ckpM x_68) → bif e_75 == 0 then Lf (x_68.length ≤ 1000000) ∧ ∀ b_76 : Bool, Lf (b_76 = fingM x_68) → bif b_76 then Lf (x_68.length ≤ 9223372036854775807) ∧ ∀ e_77
 : Int, Lf (e_77 = ckpM x_68) → bif e_77 != 0 then Lf (x_68.length ≤ 9223372036854775807) ∧ ∀ e_78 : Int, Lf (e_78 = ckpM x_68) → bif e_78 != 5 then Q (.ret (.bool false)) [] {} else rdT0 x_70 Q s_67 else rdT0 x_70 Q s_67 else Q (.ret
 (.bool false)) [] {} else Lf (x_68.length ≤ 1000000) ∧ ∀ b_76 : Bool, Lf (b_76 = fingM x_68) → bif b_76 then Q (.ret (.bool false)) [] {} else Lf (x_68.length ≤ 9223372036854775807) ∧ ∀ e_77 : Int, Lf (e_77 = ckpM x_68) → bif e_77 != 0
 then Lf (x_68.length ≤ 9223372036854775807) ∧ ∀ e_78 : Int, Lf (e_78 = ckpM x_68) → bif e_78 != 5 then Q (.ret (.bool false)) [] {} else rdT0 x_70 Q s_67 else rdT0 x_70 Q s_67 else Lf (x_68.length ≤ 9223372036854775807) ∧ ∀ e_74 : Int, Lf
 (e_74 = ckpM x_68) → bif e_74 == 0 then Lf (x_68.length ≤ 1000000) ∧ ∀ b_75 : Bool, Lf (b_75 = fingM x_68) → bif b_75 then Lf (x_68.length ≤ 9223372036854775807) ∧ ∀ e_76 : Int, Lf (e_76 = ckpM x_68) → bif e_76 != 0 then Lf (x_68.length ≤
 9223372036854775807) ∧ ∀ e_77 : Int, Lf (e_77 = ckpM x_68) → bif e_77 != 5 then Q (.ret (.bool false)) [] {} else rdT0 x_70 Q s_67 else rdT0 x_70 Q s_67 else Q (.ret (.bool false)) [] {} else Lf (x_68.length ≤ 1000000) ∧ ∀ b_75 : Bool, Lf
 (b_75 = fingM x_68) → bif b_75 then Q (.ret (.bool false)) [] {} else Lf (x_68.length ≤ 9223372036854775807) ∧ ∀ e_76 : Int, Lf (e_76 = ckpM x_68) → bif e_76 != 0 then Lf (x_68.length ≤ 9223372036854775807) ∧ ∀ e_77 : Int, Lf (e_77 = ckpM
 x_68) → bif e_77 != 5 then Q (.ret (.bool false)) [] {} else rdT0 x_70 Q s_67 else rdT0 x_70 Q s_67))))))))))))))))))) := by kernel_rfl

end Go.Proofs.YtifjpcdpmimccaaGreatDoor

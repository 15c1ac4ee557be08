/-
  Chapter 3: first; the run of Apply.
-/
import Derived.Test.YtiholnebhmjbjaaM17SC
set_option linter.unusedSimpArgs false
set_option linter.unusedVariables false
namespace Go.Proofs.Ytiholnebhmjbjaa
open Go.RowKit
set_option maxRecDepth 1000000

noncomputable def goal_43 (hv : Nat → Option Pa) (hb : Nat → Option Bool) (key nonce : List UInt8) (Q : Out → List Blk → Gh → Prop) : Prop :=
  callx (e04 sm0 (fun _ => none) hv hb) (wpx (e04 sm0 (fun _ => none) hv hb) 1000) 82 [.str key, .str nonce] [] {} Q
theorem vc_43 (key : List UInt8) (nonce : List UInt8) (Q : Out → List Blk → Gh → Prop) : goal_43 (lookV [(335881, .str), (335882, .str), (335884, .str), (335892, .str), (376836, .int .u8), (376837, .int .u32), (376839, .int .u8), (376840, .int .u32), (376841, .int .u32), (376842, .int .u32), (376844, .int .u8), (376845, .int .u32), (376846, .int .u32), (376847, .int .u32), (376849, .int .u8), (376850, .int .u32), (376851, .int .u32), (376852, .int .u32)]) (lookB []) key nonce Q = (
(bif ((decide (((16 : Nat) + (List.length key)) ≤ (9223372036854775807 : Nat))) && true) then (∃ s_0 : (List UInt8), (((AV.str (((UInt8.ofNat (101 : Nat)) :: ((UInt8.ofNat (120 : Nat)) :: ((UInt8.ofNat (112 : Nat)) :: ((UInt8.ofNat (97 : Nat)) :: ((UInt8.ofNat (110 : Nat)) :: ((UInt8.ofNat (100 : Nat)) :: ((UInt8.ofNat (32 : Nat)) :: ((UInt8.ofNat (51 : Nat)) :: ((UInt8.ofNat (50 : Nat)) :: ((UInt8.ofNat (45 : Nat)) :: ((UInt8.ofNat (98 : Nat)) :: ((UInt8.ofNat (121 : Nat)) :: ((UInt8.ofNat (116 : Nat)) :: ((UInt8.ofNat (101 : Nat)) :: ((UInt8.ofNat (32 : Nat)) :: ((UInt8.ofNat (107 : Nat)) :: [])))))))))))))))) ++ key)) = (AV.str s_0)) ∧
 (bif ((decide (((List.length s_0) + (4 : Nat)) ≤ (9223372036854775807 : Nat))) && true) then (∃ s_1 : (List UInt8), (((AV.str (s_0 ++ ((UInt8.ofNat (0 : Nat)) :: ((UInt8.ofNat (0 : Nat)) :: ((UInt8.ofNat (0 : Nat)) :: ((UInt8.ofNat (0 : Nat)) :: [])))))) = (AV.str s_1)) ∧
 (bif ((decide (((List.length s_1) + (List.length nonce)) ≤ (9223372036854775807 : Nat))) && true) then (∃ s_2 : (List UInt8), (((AV.str (s_1 ++ nonce)) = (AV.str s_2)) ∧
 (bif (Nat.ble (List.length s_2) (List.length s_2)) then (∃ s_3 : (List UInt8), (((AV.str (List.take ((List.length s_2) - (0 : Nat)) (List.drop (0 : Nat) s_2))) = (AV.str s_3)) ∧
 (bif (Nat.blt (0 : Nat) (List.length s_3)) then (∃ n_4 : Int, (((AV.int .u8 (Nat.cast (UInt8.toNat (List.getD s_3 (0 : Nat) (UInt8.ofNat (0 : Nat)))) : Int)) = (AV.int .u8 n_4)) ∧
 (∃ n_5 : Int, (((AV.int .u32 (IntKind.wrap .u32 n_4)) = (AV.int .u32 n_5)) ∧
 (bif (Nat.blt (1 : Nat) (List.length s_3)) then (∃ n_6 : Int, (((AV.int .u8 (Nat.cast (UInt8.toNat (List.getD s_3 (1 : Nat) (UInt8.ofNat (0 : Nat)))) : Int)) = (AV.int .u8 n_6)) ∧
 (∃ n_7 : Int, (((AV.int .u32 (IntKind.wrap .u32 n_6)) = (AV.int .u32 n_7)) ∧
 (∃ n_8 : Int, (((AV.int .u32 (IntKind.wrap .u32 (n_7 * (256 : Int)))) = (AV.int .u32 n_8)) ∧
 (∃ n_9 : Int, (((AV.int .u32 (IntKind.wrap .u32 (Nat.cast ((Int.toNat (n_5 % (4294967296 : Int))) ||| (Int.toNat (n_8 % (4294967296 : Int)))) : Int))) = (AV.int .u32 n_9)) ∧
 (bif (Nat.blt (2 : Nat) (List.length s_3)) then (∃ n_10 : Int, (((AV.int .u8 (Nat.cast (UInt8.toNat (List.getD s_3 (2 : Nat) (UInt8.ofNat (0 : Nat)))) : Int)) = (AV.int .u8 n_10)) ∧
 (∃ n_11 : Int, (((AV.int .u32 (IntKind.wrap .u32 n_10)) = (AV.int .u32 n_11)) ∧
 (∃ n_12 : Int, (((AV.int .u32 (IntKind.wrap .u32 (n_11 * (65536 : Int)))) = (AV.int .u32 n_12)) ∧
 (∃ n_13 : Int, (((AV.int .u32 (IntKind.wrap .u32 (Nat.cast ((Int.toNat (n_9 % (4294967296 : Int))) ||| (Int.toNat (n_12 % (4294967296 : Int)))) : Int))) = (AV.int .u32 n_13)) ∧
 (bif (Nat.blt (3 : Nat) (List.length s_3)) then (∃ n_14 : Int, (((AV.int .u8 (Nat.cast (UInt8.toNat (List.getD s_3 (3 : Nat) (UInt8.ofNat (0 : Nat)))) : Int)) = (AV.int .u8 n_14)) ∧
 (∃ n_15 : Int, (((AV.int .u32 (IntKind.wrap .u32 n_14)) = (AV.int .u32 n_15)) ∧
 (∃ n_16 : Int, (((AV.int .u32 (IntKind.wrap .u32 (n_15 * (16777216 : Int)))) = (AV.int .u32 n_16)) ∧
 (∃ n_17 : Int, (((AV.int .u32 (IntKind.wrap .u32 (Nat.cast ((Int.toNat (n_13 % (4294967296 : Int))) ||| (Int.toNat (n_16 % (4294967296 : Int)))) : Int))) = (AV.int .u32 n_17)) ∧
 (bif ((Nat.ble (4 : Nat) (List.length s_2)) && (Nat.ble (List.length s_2) (List.length s_2))) then (∃ s_18 : (List UInt8), (((AV.str (List.take ((List.length s_2) - (4 : Nat)) (List.drop (4 : Nat) s_2))) = (AV.str s_18)) ∧
 (bif (Nat.blt (0 : Nat) (List.length s_18)) then (∃ n_19 : Int, (((AV.int .u8 (Nat.cast (UInt8.toNat (List.getD s_18 (0 : Nat) (UInt8.ofNat (0 : Nat)))) : Int)) = (AV.int .u8 n_19)) ∧
 (∃ n_20 : Int, (((AV.int .u32 (IntKind.wrap .u32 n_19)) = (AV.int .u32 n_20)) ∧
 (bif (Nat.blt (1 : Nat) (List.length s_18)) then (∃ n_21 : Int, (((AV.int .u8 (Nat.cast (UInt8.toNat (List.getD s_18 (1 : Nat) (UInt8.ofNat (0 : Nat)))) : Int)) = (AV.int .u8 n_21)) ∧
 (∃ n_22 : Int, (((AV.int .u32 (IntKind.wrap .u32 n_21)) = (AV.int .u32 n_22)) ∧
 (∃ n_23 : Int, (((AV.int .u32 (IntKind.wrap .u32 (n_22 * (256 : Int)))) = (AV.int .u32 n_23)) ∧
 (∃ n_24 : Int, (((AV.int .u32 (IntKind.wrap .u32 (Nat.cast ((Int.toNat (n_20 % (4294967296 : Int))) ||| (Int.toNat (n_23 % (4294967296 : Int)))) : Int))) = (AV.int .u32 n_24)) ∧
 (bif (Nat.blt (2 : Nat) (List.length s_18)) then (∃ n_25 : Int, (((AV.int .u8 (Nat.cast (UInt8.toNat (List.getD s_18 (2 : Nat) (UInt8.ofNat (0 : Nat)))) : Int)) = (AV.int .u8 n_25)) ∧
 (∃ n_26 : Int, (((AV.int .u32 (IntKind.wrap .u32 n_25)) = (AV.int .u32 n_26)) ∧
 (∃ n_27 : Int, (((AV.int .u32 (IntKind.wrap .u32 (n_26 * (65536 : Int)))) = (AV.int .u32 n_27)) ∧
 (∃ n_28 : Int, (((AV.int .u32 (IntKind.wrap .u32 (Nat.cast ((Int.toNat (n_24 % (4294967296 : Int))) ||| (Int.toNat (n_27 % (4294967296 : Int)))) : Int))) = (AV.int .u32 n_28)) ∧
 (bif (Nat.blt (3 : Nat) (List.length s_18)) then (∃ n_29 : Int, (((AV.int .u8 (Nat.cast (UInt8.toNat (List.getD s_18 (3 : Nat) (UInt8.ofNat (0 : Nat)))) : Int)) = (AV.int .u8 n_29)) ∧
 (∃ n_30 : Int, (((AV.int .u32 (IntKind.wrap .u32 n_29)) = (AV.int .u32 n_30)) ∧
 (∃ n_31 : Int, (((AV.int .u32 (IntKind.wrap .u32 (n_30 * (16777216 : Int)))) = (AV.int .u32 n_31)) ∧
 (∃ n_32 : Int, (((AV.int .u32 (IntKind.wrap .u32 (Nat.cast ((Int.toNat (n_28 % (4294967296 : Int))) ||| (Int.toNat (n_31 % (4294967296 : Int)))) : Int))) = (AV.int .u32 n_32)) ∧
 (bif ((Nat.ble (8 : Nat) (List.length s_2)) && (Nat.ble (List.length s_2) (List.length s_2))) then (∃ s_33 : (List UInt8), (((AV.str (List.take ((List.length s_2) - (8 : Nat)) (List.drop (8 : Nat) s_2))) = (AV.str s_33)) ∧
 (bif (Nat.blt (0 : Nat) (List.length s_33)) then (∃ n_34 : Int, (((AV.int .u8 (Nat.cast (UInt8.toNat (List.getD s_33 (0 : Nat) (UInt8.ofNat (0 : Nat)))) : Int)) = (AV.int .u8 n_34)) ∧
 (∃ n_35 : Int, (((AV.int .u32 (IntKind.wrap .u32 n_34)) = (AV.int .u32 n_35)) ∧
 (bif (Nat.blt (1 : Nat) (List.length s_33)) then (∃ n_36 : Int, (((AV.int .u8 (Nat.cast (UInt8.toNat (List.getD s_33 (1 : Nat) (UInt8.ofNat (0 : Nat)))) : Int)) = (AV.int .u8 n_36)) ∧
 (∃ n_37 : Int, (((AV.int .u32 (IntKind.wrap .u32 n_36)) = (AV.int .u32 n_37)) ∧
 (∃ n_38 : Int, (((AV.int .u32 (IntKind.wrap .u32 (n_37 * (256 : Int)))) = (AV.int .u32 n_38)) ∧
 (∃ n_39 : Int, (((AV.int .u32 (IntKind.wrap .u32 (Nat.cast ((Int.toNat (n_35 % (4294967296 : Int))) ||| (Int.toNat (n_38 % (4294967296 : Int)))) : Int))) = (AV.int .u32 n_39)) ∧
 (bif (Nat.blt (2 : Nat) (List.length s_33)) then (∃ n_40 : Int, (((AV.int .u8 (Nat.cast (UInt8.toNat (List.getD s_33 (2 : Nat) (UInt8.ofNat (0 : Nat)))) : Int)) = (AV.int .u8 n_40)) ∧
 (∃ n_41 : Int, (((AV.int .u32 (IntKind.wrap .u32 n_40)) = (AV.int .u32 n_41)) ∧
 (∃ n_42 : Int, (((AV.int .u32 (IntKind.wrap .u32 (n_41 * (65536 : Int)))) = (AV.int .u32 n_42)) ∧
 (∃ n_43 : Int, (((AV.int .u32 (IntKind.wrap .u32 (Nat.cast ((Int.toNat (n_39 % (4294967296 : Int))) ||| (Int.toNat (n_42 % (4294967296 : Int)))) : Int))) = (AV.int .u32 n_43)) ∧
 (bif (Nat.blt (3 : Nat) (List.length s_33)) then (∃ n_44 : Int, (((AV.int .u8 (Nat.cast (UInt8.toNat (List.getD s_33 (3 : Nat) (UInt8.ofNat (0 : Nat)))) : Int)) = (AV.int .u8 n_44)) ∧
 (∃ n_45 : Int, (((AV.int .u32 (IntKind.wrap .u32 n_44)) = (AV.int .u32 n_45)) ∧
 (∃ n_46 : Int, (((AV.int .u32 (IntKind.wrap .u32 (n_45 * (16777216 : Int)))) = (AV.int .u32 n_46)) ∧
 (∃ n_47 : Int, (((AV.int .u32 (IntKind.wrap .u32 (Nat.cast ((Int.toNat (n_43 % (4294967296 : Int))) ||| (Int.toNat (n_46 % (4294967296 : Int)))) : Int))) = (AV.int .u32 n_47)) ∧
 (bif ((Nat.ble (12 : Nat) (List.length s_2)) && (Nat.ble (List.length s_2) (List.length s_2))) then (∃ s_48 : (List UInt8), (((AV.str (List.take ((List.length s_2) - (12 : Nat)) (List.drop (12 : Nat) s_2))) = (AV.str s_48)) ∧
 (bif (Nat.blt (0 : Nat) (List.length s_48)) then (∃ n_49 : Int, (((AV.int .u8 (Nat.cast (UInt8.toNat (List.getD s_48 (0 : Nat) (UInt8.ofNat (0 : Nat)))) : Int)) = (AV.int .u8 n_49)) ∧
 (∃ n_50 : Int, (((AV.int .u32 (IntKind.wrap .u32 n_49)) = (AV.int .u32 n_50)) ∧
 (bif (Nat.blt (1 : Nat) (List.length s_48)) then (∃ n_51 : Int, (((AV.int .u8 (Nat.cast (UInt8.toNat (List.getD s_48 (1 : Nat) (UInt8.ofNat (0 : Nat)))) : Int)) = (AV.int .u8 n_51)) ∧
 (∃ n_52 : Int, (((AV.int .u32 (IntKind.wrap .u32 n_51)) = (AV.int .u32 n_52)) ∧
 (∃ n_53 : Int, (((AV.int .u32 (IntKind.wrap .u32 (n_52 * (256 : Int)))) = (AV.int .u32 n_53)) ∧
 (∃ n_54 : Int, (((AV.int .u32 (IntKind.wrap .u32 (Nat.cast ((Int.toNat (n_50 % (4294967296 : Int))) ||| (Int.toNat (n_53 % (4294967296 : Int)))) : Int))) = (AV.int .u32 n_54)) ∧
 (bif (Nat.blt (2 : Nat) (List.length s_48)) then (∃ n_55 : Int, (((AV.int .u8 (Nat.cast (UInt8.toNat (List.getD s_48 (2 : Nat) (UInt8.ofNat (0 : Nat)))) : Int)) = (AV.int .u8 n_55)) ∧
 (∃ n_56 : Int, (((AV.int .u32 (IntKind.wrap .u32 n_55)) = (AV.int .u32 n_56)) ∧
 (∃ n_57 : Int, (((AV.int .u32 (IntKind.wrap .u32 (n_56 * (65536 : Int)))) = (AV.int .u32 n_57)) ∧
 (∃ n_58 : Int, (((AV.int .u32 (IntKind.wrap .u32 (Nat.cast ((Int.toNat (n_54 % (4294967296 : Int))) ||| (Int.toNat (n_57 % (4294967296 : Int)))) : Int))) = (AV.int .u32 n_58)) ∧
 (bif (Nat.blt (3 : Nat) (List.length s_48)) then (∃ n_59 : Int, (((AV.int .u8 (Nat.cast (UInt8.toNat (List.getD s_48 (3 : Nat) (UInt8.ofNat (0 : Nat)))) : Int)) = (AV.int .u8 n_59)) ∧
 (∃ n_60 : Int, (((AV.int .u32 (IntKind.wrap .u32 n_59)) = (AV.int .u32 n_60)) ∧
 (∃ n_61 : Int, (((AV.int .u32 (IntKind.wrap .u32 (n_60 * (16777216 : Int)))) = (AV.int .u32 n_61)) ∧
 (∃ n_62 : Int, (((AV.int .u32 (IntKind.wrap .u32 (Nat.cast ((Int.toNat (n_58 % (4294967296 : Int))) ||| (Int.toNat (n_61 % (4294967296 : Int)))) : Int))) = (AV.int .u32 n_62)) ∧
 (bif ((Nat.ble (16 : Nat) (List.length s_2)) && (Nat.ble (List.length s_2) (List.length s_2))) then (∃ s_63 : (List UInt8), (((AV.str (List.take ((List.length s_2) - (16 : Nat)) (List.drop (16 : Nat) s_2))) = (AV.str s_63)) ∧
 (bif (Nat.blt (0 : Nat) (List.length s_63)) then (∃ n_64 : Int, (((AV.int .u8 (Nat.cast (UInt8.toNat (List.getD s_63 (0 : Nat) (UInt8.ofNat (0 : Nat)))) : Int)) = (AV.int .u8 n_64)) ∧
 (∃ n_65 : Int, (((AV.int .u32 (IntKind.wrap .u32 n_64)) = (AV.int .u32 n_65)) ∧
 (bif (Nat.blt (1 : Nat) (List.length s_63)) then (∃ n_66 : Int, (((AV.int .u8 (Nat.cast (UInt8.toNat (List.getD s_63 (1 : Nat) (UInt8.ofNat (0 : Nat)))) : Int)) = (AV.int .u8 n_66)) ∧
 (∃ n_67 : Int, (((AV.int .u32 (IntKind.wrap .u32 n_66)) = (AV.int .u32 n_67)) ∧
 (∃ n_68 : Int, (((AV.int .u32 (IntKind.wrap .u32 (n_67 * (256 : Int)))) = (AV.int .u32 n_68)) ∧
 (∃ n_69 : Int, (((AV.int .u32 (IntKind.wrap .u32 (Nat.cast ((Int.toNat (n_65 % (4294967296 : Int))) ||| (Int.toNat (n_68 % (4294967296 : Int)))) : Int))) = (AV.int .u32 n_69)) ∧
 (bif (Nat.blt (2 : Nat) (List.length s_63)) then (∃ n_70 : Int, (((AV.int .u8 (Nat.cast (UInt8.toNat (List.getD s_63 (2 : Nat) (UInt8.ofNat (0 : Nat)))) : Int)) = (AV.int .u8 n_70)) ∧
 (∃ n_71 : Int, (((AV.int .u32 (IntKind.wrap .u32 n_70)) = (AV.int .u32 n_71)) ∧
 (∃ n_72 : Int, (((AV.int .u32 (IntKind.wrap .u32 (n_71 * (65536 : Int)))) = (AV.int .u32 n_72)) ∧
 (∃ n_73 : Int, (((AV.int .u32 (IntKind.wrap .u32 (Nat.cast ((Int.toNat (n_69 % (4294967296 : Int))) ||| (Int.toNat (n_72 % (4294967296 : Int)))) : Int))) = (AV.int .u32 n_73)) ∧
 (bif (Nat.blt (3 : Nat) (List.length s_63)) then (∃ n_74 : Int, (((AV.int .u8 (Nat.cast (UInt8.toNat (List.getD s_63 (3 : Nat) (UInt8.ofNat (0 : Nat)))) : Int)) = (AV.int .u8 n_74)) ∧
 (∃ n_75 : Int, (((AV.int .u32 (IntKind.wrap .u32 n_74)) = (AV.int .u32 n_75)) ∧
 (∃ n_76 : Int, (((AV.int .u32 (IntKind.wrap .u32 (n_75 * (16777216 : Int)))) = (AV.int .u32 n_76)) ∧
 (∃ n_77 : Int, (((AV.int .u32 (IntKind.wrap .u32 (Nat.cast ((Int.toNat (n_73 % (4294967296 : Int))) ||| (Int.toNat (n_76 % (4294967296 : Int)))) : Int))) = (AV.int .u32 n_77)) ∧
 (bif ((Nat.ble (20 : Nat) (List.length s_2)) && (Nat.ble (List.length s_2) (List.length s_2))) then (∃ s_78 : (List UInt8), (((AV.str (List.take ((List.length s_2) - (20 : Nat)) (List.drop (20 : Nat) s_2))) = (AV.str s_78)) ∧
 (bif (Nat.blt (0 : Nat) (List.length s_78)) then (∃ n_79 : Int, (((AV.int .u8 (Nat.cast (UInt8.toNat (List.getD s_78 (0 : Nat) (UInt8.ofNat (0 : Nat)))) : Int)) = (AV.int .u8 n_79)) ∧
 (∃ n_80 : Int, (((AV.int .u32 (IntKind.wrap .u32 n_79)) = (AV.int .u32 n_80)) ∧
 (bif (Nat.blt (1 : Nat) (List.length s_78)) then (∃ n_81 : Int, (((AV.int .u8 (Nat.cast (UInt8.toNat (List.getD s_78 (1 : Nat) (UInt8.ofNat (0 : Nat)))) : Int)) = (AV.int .u8 n_81)) ∧
 (∃ n_82 : Int, (((AV.int .u32 (IntKind.wrap .u32 n_81)) = (AV.int .u32 n_82)) ∧
 (∃ n_83 : Int, (((AV.int .u32 (IntKind.wrap .u32 (n_82 * (256 : Int)))) = (AV.int .u32 n_83)) ∧
 (∃ n_84 : Int, (((AV.int .u32 (IntKind.wrap .u32 (Nat.cast ((Int.toNat (n_80 % (4294967296 : Int))) ||| (Int.toNat (n_83 % (4294967296 : Int)))) : Int))) = (AV.int .u32 n_84)) ∧
 (bif (Nat.blt (2 : Nat) (List.length s_78)) then (∃ n_85 : Int, (((AV.int .u8 (Nat.cast (UInt8.toNat (List.getD s_78 (2 : Nat) (UInt8.ofNat (0 : Nat)))) : Int)) = (AV.int .u8 n_85)) ∧
 (∃ n_86 : Int, (((AV.int .u32 (IntKind.wrap .u32 n_85)) = (AV.int .u32 n_86)) ∧
 (∃ n_87 : Int, (((AV.int .u32 (IntKind.wrap .u32 (n_86 * (65536 : Int)))) = (AV.int .u32 n_87)) ∧
 (∃ n_88 : Int, (((AV.int .u32 (IntKind.wrap .u32 (Nat.cast ((Int.toNat (n_84 % (4294967296 : Int))) ||| (Int.toNat (n_87 % (4294967296 : Int)))) : Int))) = (AV.int .u32 n_88)) ∧
 (bif (Nat.blt (3 : Nat) (List.length s_78)) then (∃ n_89 : Int, (((AV.int .u8 (Nat.cast (UInt8.toNat (List.getD s_78 (3 : Nat) (UInt8.ofNat (0 : Nat)))) : Int)) = (AV.int .u8 n_89)) ∧
 (∃ n_90 : Int, (((AV.int .u32 (IntKind.wrap .u32 n_89)) = (AV.int .u32 n_90)) ∧
 (∃ n_91 : Int, (((AV.int .u32 (IntKind.wrap .u32 (n_90 * (16777216 : Int)))) = (AV.int .u32 n_91)) ∧
 (∃ n_92 : Int, (((AV.int .u32 (IntKind.wrap .u32 (Nat.cast ((Int.toNat (n_88 % (4294967296 : Int))) ||| (Int.toNat (n_91 % (4294967296 : Int)))) : Int))) = (AV.int .u32 n_92)) ∧
 (bif ((Nat.ble (24 : Nat) (List.length s_2)) && (Nat.ble (List.length s_2) (List.length s_2))) then (∃ s_93 : (List UInt8), (((AV.str (List.take ((List.length s_2) - (24 : Nat)) (List.drop (24 : Nat) s_2))) = (AV.str s_93)) ∧
 (bif (Nat.blt (0 : Nat) (List.length s_93)) then (∃ n_94 : Int, (((AV.int .u8 (Nat.cast (UInt8.toNat (List.getD s_93 (0 : Nat) (UInt8.ofNat (0 : Nat)))) : Int)) = (AV.int .u8 n_94)) ∧
 (∃ n_95 : Int, (((AV.int .u32 (IntKind.wrap .u32 n_94)) = (AV.int .u32 n_95)) ∧
 (bif (Nat.blt (1 : Nat) (List.length s_93)) then (∃ n_96 : Int, (((AV.int .u8 (Nat.cast (UInt8.toNat (List.getD s_93 (1 : Nat) (UInt8.ofNat (0 : Nat)))) : Int)) = (AV.int .u8 n_96)) ∧
 (∃ n_97 : Int, (((AV.int .u32 (IntKind.wrap .u32 n_96)) = (AV.int .u32 n_97)) ∧
 (∃ n_98 : Int, (((AV.int .u32 (IntKind.wrap .u32 (n_97 * (256 : Int)))) = (AV.int .u32 n_98)) ∧
 (∃ n_99 : Int, (((AV.int .u32 (IntKind.wrap .u32 (Nat.cast ((Int.toNat (n_95 % (4294967296 : Int))) ||| (Int.toNat (n_98 % (4294967296 : Int)))) : Int))) = (AV.int .u32 n_99)) ∧
 (bif (Nat.blt (2 : Nat) (List.length s_93)) then (∃ n_100 : Int, (((AV.int .u8 (Nat.cast (UInt8.toNat (List.getD s_93 (2 : Nat) (UInt8.ofNat (0 : Nat)))) : Int)) = (AV.int .u8 n_100)) ∧
 (∃ n_101 : Int, (((AV.int .u32 (IntKind.wrap .u32 n_100)) = (AV.int .u32 n_101)) ∧
 (∃ n_102 : Int, (((AV.int .u32 (IntKind.wrap .u32 (n_101 * (65536 : Int)))) = (AV.int .u32 n_102)) ∧
 (∃ n_103 : Int, (((AV.int .u32 (IntKind.wrap .u32 (Nat.cast ((Int.toNat (n_99 % (4294967296 : Int))) ||| (Int.toNat (n_102 % (4294967296 : Int)))) : Int))) = (AV.int .u32 n_103)) ∧
 (bif (Nat.blt (3 : Nat) (List.length s_93)) then (∃ n_104 : Int, (((AV.int .u8 (Nat.cast (UInt8.toNat (List.getD s_93 (3 : Nat) (UInt8.ofNat (0 : Nat)))) : Int)) = (AV.int .u8 n_104)) ∧
 (∃ n_105 : Int, (((AV.int .u32 (IntKind.wrap .u32 n_104)) = (AV.int .u32 n_105)) ∧
 (∃ n_106 : Int, (((AV.int .u32 (IntKind.wrap .u32 (n_105 * (16777216 : Int)))) = (AV.int .u32 n_106)) ∧
 (∃ n_107 : Int, (((AV.int .u32 (IntKind.wrap .u32 (Nat.cast ((Int.toNat (n_103 % (4294967296 : Int))) ||| (Int.toNat (n_106 % (4294967296 : Int)))) : Int))) = (AV.int .u32 n_107)) ∧
 (bif ((Nat.ble (28 : Nat) (List.length s_2)) && (Nat.ble (List.length s_2) (List.length s_2))) then (∃ s_108 : (List UInt8), (((AV.str (List.take ((List.length s_2) - (28 : Nat)) (List.drop (28 : Nat) s_2))) = (AV.str s_108)) ∧
 (bif (Nat.blt (0 : Nat) (List.length s_108)) then (∃ n_109 : Int, (((AV.int .u8 (Nat.cast (UInt8.toNat (List.getD s_108 (0 : Nat) (UInt8.ofNat (0 : Nat)))) : Int)) = (AV.int .u8 n_109)) ∧
 (∃ n_110 : Int, (((AV.int .u32 (IntKind.wrap .u32 n_109)) = (AV.int .u32 n_110)) ∧
 (bif (Nat.blt (1 : Nat) (List.length s_108)) then (∃ n_111 : Int, (((AV.int .u8 (Nat.cast (UInt8.toNat (List.getD s_108 (1 : Nat) (UInt8.ofNat (0 : Nat)))) : Int)) = (AV.int .u8 n_111)) ∧
 (∃ n_112 : Int, (((AV.int .u32 (IntKind.wrap .u32 n_111)) = (AV.int .u32 n_112)) ∧
 (∃ n_113 : Int, (((AV.int .u32 (IntKind.wrap .u32 (n_112 * (256 : Int)))) = (AV.int .u32 n_113)) ∧
 (∃ n_114 : Int, (((AV.int .u32 (IntKind.wrap .u32 (Nat.cast ((Int.toNat (n_110 % (4294967296 : Int))) ||| (Int.toNat (n_113 % (4294967296 : Int)))) : Int))) = (AV.int .u32 n_114)) ∧
 (bif (Nat.blt (2 : Nat) (List.length s_108)) then (∃ n_115 : Int, (((AV.int .u8 (Nat.cast (UInt8.toNat (List.getD s_108 (2 : Nat) (UInt8.ofNat (0 : Nat)))) : Int)) = (AV.int .u8 n_115)) ∧
 (∃ n_116 : Int, (((AV.int .u32 (IntKind.wrap .u32 n_115)) = (AV.int .u32 n_116)) ∧
 (∃ n_117 : Int, (((AV.int .u32 (IntKind.wrap .u32 (n_116 * (65536 : Int)))) = (AV.int .u32 n_117)) ∧
 (∃ n_118 : Int, (((AV.int .u32 (IntKind.wrap .u32 (Nat.cast ((Int.toNat (n_114 % (4294967296 : Int))) ||| (Int.toNat (n_117 % (4294967296 : Int)))) : Int))) = (AV.int .u32 n_118)) ∧
 (bif (Nat.blt (3 : Nat) (List.length s_108)) then (∃ n_119 : Int, (((AV.int .u8 (Nat.cast (UInt8.toNat (List.getD s_108 (3 : Nat) (UInt8.ofNat (0 : Nat)))) : Int)) = (AV.int .u8 n_119)) ∧
 (∃ n_120 : Int, (((AV.int .u32 (IntKind.wrap .u32 n_119)) = (AV.int .u32 n_120)) ∧
 (∃ n_121 : Int, (((AV.int .u32 (IntKind.wrap .u32 (n_120 * (16777216 : Int)))) = (AV.int .u32 n_121)) ∧
 (∃ n_122 : Int, (((AV.int .u32 (IntKind.wrap .u32 (Nat.cast ((Int.toNat (n_118 % (4294967296 : Int))) ||| (Int.toNat (n_121 % (4294967296 : Int)))) : Int))) = (AV.int .u32 n_122)) ∧
 (bif ((Nat.ble (32 : Nat) (List.length s_2)) && (Nat.ble (List.length s_2) (List.length s_2))) then (∃ s_123 : (List UInt8), (((AV.str (List.take ((List.length s_2) - (32 : Nat)) (List.drop (32 : Nat) s_2))) = (AV.str s_123)) ∧
 (bif (Nat.blt (0 : Nat) (List.length s_123)) then (∃ n_124 : Int, (((AV.int .u8 (Nat.cast (UInt8.toNat (List.getD s_123 (0 : Nat) (UInt8.ofNat (0 : Nat)))) : Int)) = (AV.int .u8 n_124)) ∧
 (∃ n_125 : Int, (((AV.int .u32 (IntKind.wrap .u32 n_124)) = (AV.int .u32 n_125)) ∧
 (bif (Nat.blt (1 : Nat) (List.length s_123)) then (∃ n_126 : Int, (((AV.int .u8 (Nat.cast (UInt8.toNat (List.getD s_123 (1 : Nat) (UInt8.ofNat (0 : Nat)))) : Int)) = (AV.int .u8 n_126)) ∧
 (∃ n_127 : Int, (((AV.int .u32 (IntKind.wrap .u32 n_126)) = (AV.int .u32 n_127)) ∧
 (∃ n_128 : Int, (((AV.int .u32 (IntKind.wrap .u32 (n_127 * (256 : Int)))) = (AV.int .u32 n_128)) ∧
 (∃ n_129 : Int, (((AV.int .u32 (IntKind.wrap .u32 (Nat.cast ((Int.toNat (n_125 % (4294967296 : Int))) ||| (Int.toNat (n_128 % (4294967296 : Int)))) : Int))) = (AV.int .u32 n_129)) ∧
 (bif (Nat.blt (2 : Nat) (List.length s_123)) then (∃ n_130 : Int, (((AV.int .u8 (Nat.cast (UInt8.toNat (List.getD s_123 (2 : Nat) (UInt8.ofNat (0 : Nat)))) : Int)) = (AV.int .u8 n_130)) ∧
 (∃ n_131 : Int, (((AV.int .u32 (IntKind.wrap .u32 n_130)) = (AV.int .u32 n_131)) ∧
 (∃ n_132 : Int, (((AV.int .u32 (IntKind.wrap .u32 (n_131 * (65536 : Int)))) = (AV.int .u32 n_132)) ∧
 (∃ n_133 : Int, (((AV.int .u32 (IntKind.wrap .u32 (Nat.cast ((Int.toNat (n_129 % (4294967296 : Int))) ||| (Int.toNat (n_132 % (4294967296 : Int)))) : Int))) = (AV.int .u32 n_133)) ∧
 (bif (Nat.blt (3 : Nat) (List.length s_123)) then (∃ n_134 : Int, (((AV.int .u8 (Nat.cast (UInt8.toNat (List.getD s_123 (3 : Nat) (UInt8.ofNat (0 : Nat)))) : Int)) = (AV.int .u8 n_134)) ∧
 (∃ n_135 : Int, (((AV.int .u32 (IntKind.wrap .u32 n_134)) = (AV.int .u32 n_135)) ∧
 (∃ n_136 : Int, (((AV.int .u32 (IntKind.wrap .u32 (n_135 * (16777216 : Int)))) = (AV.int .u32 n_136)) ∧
 (∃ n_137 : Int, (((AV.int .u32 (IntKind.wrap .u32 (Nat.cast ((Int.toNat (n_133 % (4294967296 : Int))) ||| (Int.toNat (n_136 % (4294967296 : Int)))) : Int))) = (AV.int .u32 n_137)) ∧
 (bif ((Nat.ble (36 : Nat) (List.length s_2)) && (Nat.ble (List.length s_2) (List.length s_2))) then (∃ s_138 : (List UInt8), (((AV.str (List.take ((List.length s_2) - (36 : Nat)) (List.drop (36 : Nat) s_2))) = (AV.str s_138)) ∧
 (bif (Nat.blt (0 : Nat) (List.length s_138)) then (∃ n_139 : Int, (((AV.int .u8 (Nat.cast (UInt8.toNat (List.getD s_138 (0 : Nat) (UInt8.ofNat (0 : Nat)))) : Int)) = (AV.int .u8 n_139)) ∧
 (∃ n_140 : Int, (((AV.int .u32 (IntKind.wrap .u32 n_139)) = (AV.int .u32 n_140)) ∧
 (bif (Nat.blt (1 : Nat) (List.length s_138)) then (∃ n_141 : Int, (((AV.int .u8 (Nat.cast (UInt8.toNat (List.getD s_138 (1 : Nat) (UInt8.ofNat (0 : Nat)))) : Int)) = (AV.int .u8 n_141)) ∧
 (∃ n_142 : Int, (((AV.int .u32 (IntKind.wrap .u32 n_141)) = (AV.int .u32 n_142)) ∧
 (∃ n_143 : Int, (((AV.int .u32 (IntKind.wrap .u32 (n_142 * (256 : Int)))) = (AV.int .u32 n_143)) ∧
 (∃ n_144 : Int, (((AV.int .u32 (IntKind.wrap .u32 (Nat.cast ((Int.toNat (n_140 % (4294967296 : Int))) ||| (Int.toNat (n_143 % (4294967296 : Int)))) : Int))) = (AV.int .u32 n_144)) ∧
 (bif (Nat.blt (2 : Nat) (List.length s_138)) then (∃ n_145 : Int, (((AV.int .u8 (Nat.cast (UInt8.toNat (List.getD s_138 (2 : Nat) (UInt8.ofNat (0 : Nat)))) : Int)) = (AV.int .u8 n_145)) ∧
 (∃ n_146 : Int, (((AV.int .u32 (IntKind.wrap .u32 n_145)) = (AV.int .u32 n_146)) ∧
 (∃ n_147 : Int, (((AV.int .u32 (IntKind.wrap .u32 (n_146 * (65536 : Int)))) = (AV.int .u32 n_147)) ∧
 (∃ n_148 : Int, (((AV.int .u32 (IntKind.wrap .u32 (Nat.cast ((Int.toNat (n_144 % (4294967296 : Int))) ||| (Int.toNat (n_147 % (4294967296 : Int)))) : Int))) = (AV.int .u32 n_148)) ∧
 (bif (Nat.blt (3 : Nat) (List.length s_138)) then (∃ n_149 : Int, (((AV.int .u8 (Nat.cast (UInt8.toNat (List.getD s_138 (3 : Nat) (UInt8.ofNat (0 : Nat)))) : Int)) = (AV.int .u8 n_149)) ∧
 (∃ n_150 : Int, (((AV.int .u32 (IntKind.wrap .u32 n_149)) = (AV.int .u32 n_150)) ∧
 (∃ n_151 : Int, (((AV.int .u32 (IntKind.wrap .u32 (n_150 * (16777216 : Int)))) = (AV.int .u32 n_151)) ∧
 (∃ n_152 : Int, (((AV.int .u32 (IntKind.wrap .u32 (Nat.cast ((Int.toNat (n_148 % (4294967296 : Int))) ||| (Int.toNat (n_151 % (4294967296 : Int)))) : Int))) = (AV.int .u32 n_152)) ∧
 (bif ((Nat.ble (40 : Nat) (List.length s_2)) && (Nat.ble (List.length s_2) (List.length s_2))) then (∃ s_153 : (List UInt8), (((AV.str (List.take ((List.length s_2) - (40 : Nat)) (List.drop (40 : Nat) s_2))) = (AV.str s_153)) ∧
 (bif (Nat.blt (0 : Nat) (List.length s_153)) then (∃ n_154 : Int, (((AV.int .u8 (Nat.cast (UInt8.toNat (List.getD s_153 (0 : Nat) (UInt8.ofNat (0 : Nat)))) : Int)) = (AV.int .u8 n_154)) ∧
 (∃ n_155 : Int, (((AV.int .u32 (IntKind.wrap .u32 n_154)) = (AV.int .u32 n_155)) ∧
 (bif (Nat.blt (1 : Nat) (List.length s_153)) then (∃ n_156 : Int, (((AV.int .u8 (Nat.cast (UInt8.toNat (List.getD s_153 (1 : Nat) (UInt8.ofNat (0 : Nat)))) : Int)) = (AV.int .u8 n_156)) ∧
 (∃ n_157 : Int, (((AV.int .u32 (IntKind.wrap .u32 n_156)) = (AV.int .u32 n_157)) ∧
 (∃ n_158 : Int, (((AV.int .u32 (IntKind.wrap .u32 (n_157 * (256 : Int)))) = (AV.int .u32 n_158)) ∧
 (∃ n_159 : Int, (((AV.int .u32 (IntKind.wrap .u32 (Nat.cast ((Int.toNat (n_155 % (4294967296 : Int))) ||| (Int.toNat (n_158 % (4294967296 : Int)))) : Int))) = (AV.int .u32 n_159)) ∧
 (bif (Nat.blt (2 : Nat) (List.length s_153)) then (∃ n_160 : Int, (((AV.int .u8 (Nat.cast (UInt8.toNat (List.getD s_153 (2 : Nat) (UInt8.ofNat (0 : Nat)))) : Int)) = (AV.int .u8 n_160)) ∧
 (∃ n_161 : Int, (((AV.int .u32 (IntKind.wrap .u32 n_160)) = (AV.int .u32 n_161)) ∧
 (∃ n_162 : Int, (((AV.int .u32 (IntKind.wrap .u32 (n_161 * (65536 : Int)))) = (AV.int .u32 n_162)) ∧
 (∃ n_163 : Int, (((AV.int .u32 (IntKind.wrap .u32 (Nat.cast ((Int.toNat (n_159 % (4294967296 : Int))) ||| (Int.toNat (n_162 % (4294967296 : Int)))) : Int))) = (AV.int .u32 n_163)) ∧
 (bif (Nat.blt (3 : Nat) (List.length s_153)) then (∃ n_164 : Int, (((AV.int .u8 (Nat.cast (UInt8.toNat (List.getD s_153 (3 : Nat) (UInt8.ofNat (0 : Nat)))) : Int)) = (AV.int .u8 n_164)) ∧
 (∃ n_165 : Int, (((AV.int .u32 (IntKind.wrap .u32 n_164)) = (AV.int .u32 n_165)) ∧
 (∃ n_166 : Int, (((AV.int .u32 (IntKind.wrap .u32 (n_165 * (16777216 : Int)))) = (AV.int .u32 n_166)) ∧
 (∃ n_167 : Int, (((AV.int .u32 (IntKind.wrap .u32 (Nat.cast ((Int.toNat (n_163 % (4294967296 : Int))) ||| (Int.toNat (n_166 % (4294967296 : Int)))) : Int))) = (AV.int .u32 n_167)) ∧
 (bif ((Nat.ble (44 : Nat) (List.length s_2)) && (Nat.ble (List.length s_2) (List.length s_2))) then (∃ s_168 : (List UInt8), (((AV.str (List.take ((List.length s_2) - (44 : Nat)) (List.drop (44 : Nat) s_2))) = (AV.str s_168)) ∧
 (bif (Nat.blt (0 : Nat) (List.length s_168)) then (∃ n_169 : Int, (((AV.int .u8 (Nat.cast (UInt8.toNat (List.getD s_168 (0 : Nat) (UInt8.ofNat (0 : Nat)))) : Int)) = (AV.int .u8 n_169)) ∧
 (∃ n_170 : Int, (((AV.int .u32 (IntKind.wrap .u32 n_169)) = (AV.int .u32 n_170)) ∧
 (bif (Nat.blt (1 : Nat) (List.length s_168)) then (∃ n_171 : Int, (((AV.int .u8 (Nat.cast (UInt8.toNat (List.getD s_168 (1 : Nat) (UInt8.ofNat (0 : Nat)))) : Int)) = (AV.int .u8 n_171)) ∧
 (∃ n_172 : Int, (((AV.int .u32 (IntKind.wrap .u32 n_171)) = (AV.int .u32 n_172)) ∧
 (∃ n_173 : Int, (((AV.int .u32 (IntKind.wrap .u32 (n_172 * (256 : Int)))) = (AV.int .u32 n_173)) ∧
 (∃ n_174 : Int, (((AV.int .u32 (IntKind.wrap .u32 (Nat.cast ((Int.toNat (n_170 % (4294967296 : Int))) ||| (Int.toNat (n_173 % (4294967296 : Int)))) : Int))) = (AV.int .u32 n_174)) ∧
 (bif (Nat.blt (2 : Nat) (List.length s_168)) then (∃ n_175 : Int, (((AV.int .u8 (Nat.cast (UInt8.toNat (List.getD s_168 (2 : Nat) (UInt8.ofNat (0 : Nat)))) : Int)) = (AV.int .u8 n_175)) ∧
 (∃ n_176 : Int, (((AV.int .u32 (IntKind.wrap .u32 n_175)) = (AV.int .u32 n_176)) ∧
 (∃ n_177 : Int, (((AV.int .u32 (IntKind.wrap .u32 (n_176 * (65536 : Int)))) = (AV.int .u32 n_177)) ∧
 (∃ n_178 : Int, (((AV.int .u32 (IntKind.wrap .u32 (Nat.cast ((Int.toNat (n_174 % (4294967296 : Int))) ||| (Int.toNat (n_177 % (4294967296 : Int)))) : Int))) = (AV.int .u32 n_178)) ∧
 (bif (Nat.blt (3 : Nat) (List.length s_168)) then (∃ n_179 : Int, (((AV.int .u8 (Nat.cast (UInt8.toNat (List.getD s_168 (3 : Nat) (UInt8.ofNat (0 : Nat)))) : Int)) = (AV.int .u8 n_179)) ∧
 (∃ n_180 : Int, (((AV.int .u32 (IntKind.wrap .u32 n_179)) = (AV.int .u32 n_180)) ∧
 (∃ n_181 : Int, (((AV.int .u32 (IntKind.wrap .u32 (n_180 * (16777216 : Int)))) = (AV.int .u32 n_181)) ∧
 (∃ n_182 : Int, (((AV.int .u32 (IntKind.wrap .u32 (Nat.cast ((Int.toNat (n_178 % (4294967296 : Int))) ||| (Int.toNat (n_181 % (4294967296 : Int)))) : Int))) = (AV.int .u32 n_182)) ∧
 (bif ((Nat.ble (48 : Nat) (List.length s_2)) && (Nat.ble (List.length s_2) (List.length s_2))) then (∃ s_183 : (List UInt8), (((AV.str (List.take ((List.length s_2) - (48 : Nat)) (List.drop (48 : Nat) s_2))) = (AV.str s_183)) ∧
 (bif (Nat.blt (0 : Nat) (List.length s_183)) then (∃ n_184 : Int, (((AV.int .u8 (Nat.cast (UInt8.toNat (List.getD s_183 (0 : Nat) (UInt8.ofNat (0 : Nat)))) : Int)) = (AV.int .u8 n_184)) ∧
 (∃ n_185 : Int, (((AV.int .u32 (IntKind.wrap .u32 n_184)) = (AV.int .u32 n_185)) ∧
 (bif (Nat.blt (1 : Nat) (List.length s_183)) then (∃ n_186 : Int, (((AV.int .u8 (Nat.cast (UInt8.toNat (List.getD s_183 (1 : Nat) (UInt8.ofNat (0 : Nat)))) : Int)) = (AV.int .u8 n_186)) ∧
 (∃ n_187 : Int, (((AV.int .u32 (IntKind.wrap .u32 n_186)) = (AV.int .u32 n_187)) ∧
 (∃ n_188 : Int, (((AV.int .u32 (IntKind.wrap .u32 (n_187 * (256 : Int)))) = (AV.int .u32 n_188)) ∧
 (∃ n_189 : Int, (((AV.int .u32 (IntKind.wrap .u32 (Nat.cast ((Int.toNat (n_185 % (4294967296 : Int))) ||| (Int.toNat (n_188 % (4294967296 : Int)))) : Int))) = (AV.int .u32 n_189)) ∧
 (bif (Nat.blt (2 : Nat) (List.length s_183)) then (∃ n_190 : Int, (((AV.int .u8 (Nat.cast (UInt8.toNat (List.getD s_183 (2 : Nat) (UInt8.ofNat (0 : Nat)))) : Int)) = (AV.int .u8 n_190)) ∧
 (∃ n_191 : Int, (((AV.int .u32 (IntKind.wrap .u32 n_190)) = (AV.int .u32 n_191)) ∧
 (∃ n_192 : Int, (((AV.int .u32 (IntKind.wrap .u32 (n_191 * (65536 : Int)))) = (AV.int .u32 n_192)) ∧
 (∃ n_193 : Int, (((AV.int .u32 (IntKind.wrap .u32 (Nat.cast ((Int.toNat (n_189 % (4294967296 : Int))) ||| (Int.toNat (n_192 % (4294967296 : Int)))) : Int))) = (AV.int .u32 n_193)) ∧
 (bif (Nat.blt (3 : Nat) (List.length s_183)) then (∃ n_194 : Int, (((AV.int .u8 (Nat.cast (UInt8.toNat (List.getD s_183 (3 : Nat) (UInt8.ofNat (0 : Nat)))) : Int)) = (AV.int .u8 n_194)) ∧
 (∃ n_195 : Int, (((AV.int .u32 (IntKind.wrap .u32 n_194)) = (AV.int .u32 n_195)) ∧
 (∃ n_196 : Int, (((AV.int .u32 (IntKind.wrap .u32 (n_195 * (16777216 : Int)))) = (AV.int .u32 n_196)) ∧
 (∃ n_197 : Int, (((AV.int .u32 (IntKind.wrap .u32 (Nat.cast ((Int.toNat (n_193 % (4294967296 : Int))) ||| (Int.toNat (n_196 % (4294967296 : Int)))) : Int))) = (AV.int .u32 n_197)) ∧
 (bif ((Nat.ble (52 : Nat) (List.length s_2)) && (Nat.ble (List.length s_2) (List.length s_2))) then (∃ s_198 : (List UInt8), (((AV.str (List.take ((List.length s_2) - (52 : Nat)) (List.drop (52 : Nat) s_2))) = (AV.str s_198)) ∧
 (bif (Nat.blt (0 : Nat) (List.length s_198)) then (∃ n_199 : Int, (((AV.int .u8 (Nat.cast (UInt8.toNat (List.getD s_198 (0 : Nat) (UInt8.ofNat (0 : Nat)))) : Int)) = (AV.int .u8 n_199)) ∧
 (∃ n_200 : Int, (((AV.int .u32 (IntKind.wrap .u32 n_199)) = (AV.int .u32 n_200)) ∧
 (bif (Nat.blt (1 : Nat) (List.length s_198)) then (∃ n_201 : Int, (((AV.int .u8 (Nat.cast (UInt8.toNat (List.getD s_198 (1 : Nat) (UInt8.ofNat (0 : Nat)))) : Int)) = (AV.int .u8 n_201)) ∧
 (∃ n_202 : Int, (((AV.int .u32 (IntKind.wrap .u32 n_201)) = (AV.int .u32 n_202)) ∧
 (∃ n_203 : Int, (((AV.int .u32 (IntKind.wrap .u32 (n_202 * (256 : Int)))) = (AV.int .u32 n_203)) ∧
 (∃ n_204 : Int, (((AV.int .u32 (IntKind.wrap .u32 (Nat.cast ((Int.toNat (n_200 % (4294967296 : Int))) ||| (Int.toNat (n_203 % (4294967296 : Int)))) : Int))) = (AV.int .u32 n_204)) ∧
 (bif (Nat.blt (2 : Nat) (List.length s_198)) then (∃ n_205 : Int, (((AV.int .u8 (Nat.cast (UInt8.toNat (List.getD s_198 (2 : Nat) (UInt8.ofNat (0 : Nat)))) : Int)) = (AV.int .u8 n_205)) ∧
 (∃ n_206 : Int, (((AV.int .u32 (IntKind.wrap .u32 n_205)) = (AV.int .u32 n_206)) ∧
 (∃ n_207 : Int, (((AV.int .u32 (IntKind.wrap .u32 (n_206 * (65536 : Int)))) = (AV.int .u32 n_207)) ∧
 (∃ n_208 : Int, (((AV.int .u32 (IntKind.wrap .u32 (Nat.cast ((Int.toNat (n_204 % (4294967296 : Int))) ||| (Int.toNat (n_207 % (4294967296 : Int)))) : Int))) = (AV.int .u32 n_208)) ∧
 (bif (Nat.blt (3 : Nat) (List.length s_198)) then (∃ n_209 : Int, (((AV.int .u8 (Nat.cast (UInt8.toNat (List.getD s_198 (3 : Nat) (UInt8.ofNat (0 : Nat)))) : Int)) = (AV.int .u8 n_209)) ∧
 (∃ n_210 : Int, (((AV.int .u32 (IntKind.wrap .u32 n_209)) = (AV.int .u32 n_210)) ∧
 (∃ n_211 : Int, (((AV.int .u32 (IntKind.wrap .u32 (n_210 * (16777216 : Int)))) = (AV.int .u32 n_211)) ∧
 (∃ n_212 : Int, (((AV.int .u32 (IntKind.wrap .u32 (Nat.cast ((Int.toNat (n_208 % (4294967296 : Int))) ||| (Int.toNat (n_211 % (4294967296 : Int)))) : Int))) = (AV.int .u32 n_212)) ∧
 (bif ((Nat.ble (56 : Nat) (List.length s_2)) && (Nat.ble (List.length s_2) (List.length s_2))) then (∃ s_213 : (List UInt8), (((AV.str (List.take ((List.length s_2) - (56 : Nat)) (List.drop (56 : Nat) s_2))) = (AV.str s_213)) ∧
 (bif (Nat.blt (0 : Nat) (List.length s_213)) then (∃ n_214 : Int, (((AV.int .u8 (Nat.cast (UInt8.toNat (List.getD s_213 (0 : Nat) (UInt8.ofNat (0 : Nat)))) : Int)) = (AV.int .u8 n_214)) ∧
 (∃ n_215 : Int, (((AV.int .u32 (IntKind.wrap .u32 n_214)) = (AV.int .u32 n_215)) ∧
 (bif (Nat.blt (1 : Nat) (List.length s_213)) then (∃ n_216 : Int, (((AV.int .u8 (Nat.cast (UInt8.toNat (List.getD s_213 (1 : Nat) (UInt8.ofNat (0 : Nat)))) : Int)) = (AV.int .u8 n_216)) ∧
 (∃ n_217 : Int, (((AV.int .u32 (IntKind.wrap .u32 n_216)) = (AV.int .u32 n_217)) ∧
 (∃ n_218 : Int, (((AV.int .u32 (IntKind.wrap .u32 (n_217 * (256 : Int)))) = (AV.int .u32 n_218)) ∧
 (∃ n_219 : Int, (((AV.int .u32 (IntKind.wrap .u32 (Nat.cast ((Int.toNat (n_215 % (4294967296 : Int))) ||| (Int.toNat (n_218 % (4294967296 : Int)))) : Int))) = (AV.int .u32 n_219)) ∧
 (bif (Nat.blt (2 : Nat) (List.length s_213)) then (∃ n_220 : Int, (((AV.int .u8 (Nat.cast (UInt8.toNat (List.getD s_213 (2 : Nat) (UInt8.ofNat (0 : Nat)))) : Int)) = (AV.int .u8 n_220)) ∧
 (∃ n_221 : Int, (((AV.int .u32 (IntKind.wrap .u32 n_220)) = (AV.int .u32 n_221)) ∧
 (∃ n_222 : Int, (((AV.int .u32 (IntKind.wrap .u32 (n_221 * (65536 : Int)))) = (AV.int .u32 n_222)) ∧
 (∃ n_223 : Int, (((AV.int .u32 (IntKind.wrap .u32 (Nat.cast ((Int.toNat (n_219 % (4294967296 : Int))) ||| (Int.toNat (n_222 % (4294967296 : Int)))) : Int))) = (AV.int .u32 n_223)) ∧
 (bif (Nat.blt (3 : Nat) (List.length s_213)) then (∃ n_224 : Int, (((AV.int .u8 (Nat.cast (UInt8.toNat (List.getD s_213 (3 : Nat) (UInt8.ofNat (0 : Nat)))) : Int)) = (AV.int .u8 n_224)) ∧
 (∃ n_225 : Int, (((AV.int .u32 (IntKind.wrap .u32 n_224)) = (AV.int .u32 n_225)) ∧
 (∃ n_226 : Int, (((AV.int .u32 (IntKind.wrap .u32 (n_225 * (16777216 : Int)))) = (AV.int .u32 n_226)) ∧
 (∃ n_227 : Int, (((AV.int .u32 (IntKind.wrap .u32 (Nat.cast ((Int.toNat (n_223 % (4294967296 : Int))) ||| (Int.toNat (n_226 % (4294967296 : Int)))) : Int))) = (AV.int .u32 n_227)) ∧
 (bif ((Nat.ble (60 : Nat) (List.length s_2)) && (Nat.ble (List.length s_2) (List.length s_2))) then (∃ s_228 : (List UInt8), (((AV.str (List.take ((List.length s_2) - (60 : Nat)) (List.drop (60 : Nat) s_2))) = (AV.str s_228)) ∧
 (bif (Nat.blt (0 : Nat) (List.length s_228)) then (∃ n_229 : Int, (((AV.int .u8 (Nat.cast (UInt8.toNat (List.getD s_228 (0 : Nat) (UInt8.ofNat (0 : Nat)))) : Int)) = (AV.int .u8 n_229)) ∧
 (∃ n_230 : Int, (((AV.int .u32 (IntKind.wrap .u32 n_229)) = (AV.int .u32 n_230)) ∧
 (bif (Nat.blt (1 : Nat) (List.length s_228)) then (∃ n_231 : Int, (((AV.int .u8 (Nat.cast (UInt8.toNat (List.getD s_228 (1 : Nat) (UInt8.ofNat (0 : Nat)))) : Int)) = (AV.int .u8 n_231)) ∧
 (∃ n_232 : Int, (((AV.int .u32 (IntKind.wrap .u32 n_231)) = (AV.int .u32 n_232)) ∧
 (∃ n_233 : Int, (((AV.int .u32 (IntKind.wrap .u32 (n_232 * (256 : Int)))) = (AV.int .u32 n_233)) ∧
 (∃ n_234 : Int, (((AV.int .u32 (IntKind.wrap .u32 (Nat.cast ((Int.toNat (n_230 % (4294967296 : Int))) ||| (Int.toNat (n_233 % (4294967296 : Int)))) : Int))) = (AV.int .u32 n_234)) ∧
 (bif (Nat.blt (2 : Nat) (List.length s_228)) then (∃ n_235 : Int, (((AV.int .u8 (Nat.cast (UInt8.toNat (List.getD s_228 (2 : Nat) (UInt8.ofNat (0 : Nat)))) : Int)) = (AV.int .u8 n_235)) ∧
 (∃ n_236 : Int, (((AV.int .u32 (IntKind.wrap .u32 n_235)) = (AV.int .u32 n_236)) ∧
 (∃ n_237 : Int, (((AV.int .u32 (IntKind.wrap .u32 (n_236 * (65536 : Int)))) = (AV.int .u32 n_237)) ∧
 (∃ n_238 : Int, (((AV.int .u32 (IntKind.wrap .u32 (Nat.cast ((Int.toNat (n_234 % (4294967296 : Int))) ||| (Int.toNat (n_237 % (4294967296 : Int)))) : Int))) = (AV.int .u32 n_238)) ∧
 (bif (Nat.blt (3 : Nat) (List.length s_228)) then (∃ n_239 : Int, (((AV.int .u8 (Nat.cast (UInt8.toNat (List.getD s_228 (3 : Nat) (UInt8.ofNat (0 : Nat)))) : Int)) = (AV.int .u8 n_239)) ∧
 (∃ n_240 : Int, (((AV.int .u32 (IntKind.wrap .u32 n_239)) = (AV.int .u32 n_240)) ∧
 (∃ n_241 : Int, (((AV.int .u32 (IntKind.wrap .u32 (n_240 * (16777216 : Int)))) = (AV.int .u32 n_241)) ∧
 (∃ n_242 : Int, (((AV.int .u32 (IntKind.wrap .u32 (Nat.cast ((Int.toNat (n_238 % (4294967296 : Int))) ||| (Int.toNat (n_241 % (4294967296 : Int)))) : Int))) = (AV.int .u32 n_242)) ∧
 (Q (Out.ret (AV.agg ((AV.int .u32 n_17) :: ((AV.int .u32 n_32) :: ((AV.int .u32 n_47) :: ((AV.int .u32 n_62) :: ((AV.int .u32 n_77) :: ((AV.int .u32 n_92) :: ((AV.int .u32 n_107) :: ((AV.int .u32 n_122) :: ((AV.int .u32 n_137) :: ((AV.int .u32 n_152) :: ((AV.int .u32 n_167) :: ((AV.int .u32 n_182) :: ((AV.int .u32 n_197) :: ((AV.int .u32 n_212) :: ((AV.int .u32 n_227) :: ((AV.int .u32 n_242) :: [])))))))))))))))))) [] (Gh.mk (0 : Nat) (0 : Nat) []))))))))))
else False)))))))))
else False)))))))))
else False)))))
else False)))
else False)))))))))
else False)))))))))
else False)))))))))
else False)))))
else False)))
else False)))))))))
else False)))))))))
else False)))))))))
else False)))))
else False)))
else False)))))))))
else False)))))))))
else False)))))))))
else False)))))
else False)))
else False)))))))))
else False)))))))))
else False)))))))))
else False)))))
else False)))
else False)))))))))
else False)))))))))
else False)))))))))
else False)))))
else False)))
else False)))))))))
else False)))))))))
else False)))))))))
else False)))))
else False)))
else False)))))))))
else False)))))))))
else False)))))))))
else False)))))
else False)))
else False)))))))))
else False)))))))))
else False)))))))))
else False)))))
else False)))
else False)))))))))
else False)))))))))
else False)))))))))
else False)))))
else False)))
else False)))))))))
else False)))))))))
else False)))))))))
else False)))))
else False)))
else False)))))))))
else False)))))))))
else False)))))))))
else False)))))
else False)))
else False)))))))))
else False)))))))))
else False)))))))))
else False)))))
else False)))
else False)))))))))
else False)))))))))
else False)))))))))
else False)))))
else False)))
else False)))))))))
else False)))))))))
else False)))))))))
else False)))))
else False)))
else False)))))))))
else False)))))))))
else False)))))))))
else False)))))
else False)))
else False)))
else False)))
else False)))
else False)) := by kernel_rfl

theorem first_run (key nonce : List UInt8) (Q : Out → List Blk → Gh → Prop) (h1 : key.length = 32) (h2 : nonce.length = 12) (hq : Q (.ret (.agg (firstM key nonce).cells)) [] {}) : ∃ hv hb, goal_43 hv hb key nonce Q := by
  obtain ⟨hv, hb', e⟩ : ∃ hv hb, goal_43 hv hb key nonce Q = _ := ⟨_, _, vc_43 key nonce Q⟩
  refine ⟨hv, hb', e.mpr ?_⟩
  clear e
  have hl : (allKM key nonce).length = 64 := by simp [allKM, expandM, h1, h2]
  obtain ⟨s, hs⟩ : ∃ s, allKM key nonce = s := ⟨_, rfl⟩
  have hf : firstM key nonce = ⟨numM s 0, numM s 4, numM s 8, numM s 12, numM s 16, numM s 20, numM s 24, numM s 28, numM s 32, numM s 36, numM s 40, numM s 44, numM s 48, numM s 52, numM s 56, numM s 60⟩ := by rw [firstM, hs]
  refine ckI (by simp [h1]) ⟨_, rfl, ckI (by simp [h1]) ⟨_, rfl, ckI (by simp [h1, h2]) ⟨s, by rw [← hs]; rfl, ?_⟩⟩⟩
  rw [hs] at hl
  rw [hf] at hq
  refine numI (m := 0) (by first | (simp only [Bool.and_eq_true, Bool.and_true, Bool.true_and, decide_eq_true_eq, blt_iff, Nat.ble_eq, nbeq, cellsI_len,  List.length_append, List.length_cons, List.length_nil, Int.toNat_natCast, and_true, true_and, Bool.or_eq_true, Bool.not_eq_true', bne_iff_ne, ne_eq]; done) | (simp only [Bool.and_eq_true, Bool.and_true, Bool.true_and, decide_eq_true_eq, blt_iff, Nat.ble_eq, nbeq, cellsI_len,  List.length_append, List.length_cons, List.length_nil, Int.toNat_natCast, and_true, true_and, Bool.or_eq_true, Bool.not_eq_true', bne_iff_ne, ne_eq]; omega) | rfl | (simp; done) | (simp; omega)) (by omega) ?_
  refine numI (m := 4) (by first | (simp only [Bool.and_eq_true, Bool.and_true, Bool.true_and, decide_eq_true_eq, blt_iff, Nat.ble_eq, nbeq, cellsI_len,  List.length_append, List.length_cons, List.length_nil, Int.toNat_natCast, and_true, true_and, Bool.or_eq_true, Bool.not_eq_true', bne_iff_ne, ne_eq]; done) | (simp only [Bool.and_eq_true, Bool.and_true, Bool.true_and, decide_eq_true_eq, blt_iff, Nat.ble_eq, nbeq, cellsI_len,  List.length_append, List.length_cons, List.length_nil, Int.toNat_natCast, and_true, true_and, Bool.or_eq_true, Bool.not_eq_true', bne_iff_ne, ne_eq]; omega) | rfl | (simp; done) | (simp; omega)) (by omega) ?_
  refine numI (m := 8) (by first | (simp only [Bool.and_eq_true, Bool.and_true, Bool.true_and, decide_eq_true_eq, blt_iff, Nat.ble_eq, nbeq, cellsI_len,  List.length_append, List.length_cons, List.length_nil, Int.toNat_natCast, and_true, true_and, Bool.or_eq_true, Bool.not_eq_true', bne_iff_ne, ne_eq]; done) | (simp only [Bool.and_eq_true, Bool.and_true, Bool.true_and, decide_eq_true_eq, blt_iff, Nat.ble_eq, nbeq, cellsI_len,  List.length_append, List.length_cons, List.length_nil, Int.toNat_natCast, and_true, true_and, Bool.or_eq_true, Bool.not_eq_true', bne_iff_ne, ne_eq]; omega) | rfl | (simp; done) | (simp; omega)) (by omega) ?_
  refine numI (m := 12) (by first | (simp only [Bool.and_eq_true, Bool.and_true, Bool.true_and, decide_eq_true_eq, blt_iff, Nat.ble_eq, nbeq, cellsI_len,  List.length_append, List.length_cons, List.length_nil, Int.toNat_natCast, and_true, true_and, Bool.or_eq_true, Bool.not_eq_true', bne_iff_ne, ne_eq]; done) | (simp only [Bool.and_eq_true, Bool.and_true, Bool.true_and, decide_eq_true_eq, blt_iff, Nat.ble_eq, nbeq, cellsI_len,  List.length_append, List.length_cons, List.length_nil, Int.toNat_natCast, and_true, true_and, Bool.or_eq_true, Bool.not_eq_true', bne_iff_ne, ne_eq]; omega) | rfl | (simp; done) | (simp; omega)) (by omega) ?_
  refine numI (m := 16) (by first | (simp only [Bool.and_eq_true, Bool.and_true, Bool.true_and, decide_eq_true_eq, blt_iff, Nat.ble_eq, nbeq, cellsI_len,  List.length_append, List.length_cons, List.length_nil, Int.toNat_natCast, and_true, true_and, Bool.or_eq_true, Bool.not_eq_true', bne_iff_ne, ne_eq]; done) | (simp only [Bool.and_eq_true, Bool.and_true, Bool.true_and, decide_eq_true_eq, blt_iff, Nat.ble_eq, nbeq, cellsI_len,  List.length_append, List.length_cons, List.length_nil, Int.toNat_natCast, and_true, true_and, Bool.or_eq_true, Bool.not_eq_true', bne_iff_ne, ne_eq]; omega) | rfl | (simp; done) | (simp; omega)) (by omega) ?_
  refine numI (m := 20) (by first | (simp only [Bool.and_eq_true, Bool.and_true, Bool.true_and, decide_eq_true_eq, blt_iff, Nat.ble_eq, nbeq, cellsI_len,  List.length_append, List.length_cons, List.length_nil, Int.toNat_natCast, and_true, true_and, Bool.or_eq_true, Bool.not_eq_true', bne_iff_ne, ne_eq]; done) | (simp only [Bool.and_eq_true, Bool.and_true, Bool.true_and, decide_eq_true_eq, blt_iff, Nat.ble_eq, nbeq, cellsI_len,  List.length_append, List.length_cons, List.length_nil, Int.toNat_natCast, and_true, true_and, Bool.or_eq_true, Bool.not_eq_true', bne_iff_ne, ne_eq]; omega) | rfl | (simp; done) | (simp; omega)) (by omega) ?_
  refine numI (m := 24) (by first | (simp only [Bool.and_eq_true, Bool.and_true, Bool.true_and, decide_eq_true_eq, blt_iff, Nat.ble_eq, nbeq, cellsI_len,  List.length_append, List.length_cons, List.length_nil, Int.toNat_natCast, and_true, true_and, Bool.or_eq_true, Bool.not_eq_true', bne_iff_ne, ne_eq]; done) | (simp only [Bool.and_eq_true, Bool.and_true, Bool.true_and, decide_eq_true_eq, blt_iff, Nat.ble_eq, nbeq, cellsI_len,  List.length_append, List.length_cons, List.length_nil, Int.toNat_natCast, and_true, true_and, Bool.or_eq_true, Bool.not_eq_true', bne_iff_ne, ne_eq]; omega) | rfl | (simp; done) | (simp; omega)) (by omega) ?_
  refine numI (m := 28) (by first | (simp only [Bool.and_eq_true, Bool.and_true, Bool.true_and, decide_eq_true_eq, blt_iff, Nat.ble_eq, nbeq, cellsI_len,  List.length_append, List.length_cons, List.length_nil, Int.toNat_natCast, and_true, true_and, Bool.or_eq_true, Bool.not_eq_true', bne_iff_ne, ne_eq]; done) | (simp only [Bool.and_eq_true, Bool.and_true, Bool.true_and, decide_eq_true_eq, blt_iff, Nat.ble_eq, nbeq, cellsI_len,  List.length_append, List.length_cons, List.length_nil, Int.toNat_natCast, and_true, true_and, Bool.or_eq_true, Bool.not_eq_true', bne_iff_ne, ne_eq]; omega) | rfl | (simp; done) | (simp; omega)) (by omega) ?_
  refine numI (m := 32) (by first | (simp only [Bool.and_eq_true, Bool.and_true, Bool.true_and, decide_eq_true_eq, blt_iff, Nat.ble_eq, nbeq, cellsI_len,  List.length_append, List.length_cons, List.length_nil, Int.toNat_natCast, and_true, true_and, Bool.or_eq_true, Bool.not_eq_true', bne_iff_ne, ne_eq]; done) | (simp only [Bool.and_eq_true, Bool.and_true, Bool.true_and, decide_eq_true_eq, blt_iff, Nat.ble_eq, nbeq, cellsI_len,  List.length_append, List.length_cons, List.length_nil, Int.toNat_natCast, and_true, true_and, Bool.or_eq_true, Bool.not_eq_true', bne_iff_ne, ne_eq]; omega) | rfl | (simp; done) | (simp; omega)) (by omega) ?_
  refine numI (m := 36) (by first | (simp only [Bool.and_eq_true, Bool.and_true, Bool.true_and, decide_eq_true_eq, blt_iff, Nat.ble_eq, nbeq, cellsI_len,  List.length_append, List.length_cons, List.length_nil, Int.toNat_natCast, and_true, true_and, Bool.or_eq_true, Bool.not_eq_true', bne_iff_ne, ne_eq]; done) | (simp only [Bool.and_eq_true, Bool.and_true, Bool.true_and, decide_eq_true_eq, blt_iff, Nat.ble_eq, nbeq, cellsI_len,  List.length_append, List.length_cons, List.length_nil, Int.toNat_natCast, and_true, true_and, Bool.or_eq_true, Bool.not_eq_true', bne_iff_ne, ne_eq]; omega) | rfl | (simp; done) | (simp; omega)) (by omega) ?_
  refine numI (m := 40) (by first | (simp only [Bool.and_eq_true, Bool.and_true, Bool.true_and, decide_eq_true_eq, blt_iff, Nat.ble_eq, nbeq, cellsI_len,  List.length_append, List.length_cons, List.length_nil, Int.toNat_natCast, and_true, true_and, Bool.or_eq_true, Bool.not_eq_true', bne_iff_ne, ne_eq]; done) | (simp only [Bool.and_eq_true, Bool.and_true, Bool.true_and, decide_eq_true_eq, blt_iff, Nat.ble_eq, nbeq, cellsI_len,  List.length_append, List.length_cons, List.length_nil, Int.toNat_natCast, and_true, true_and, Bool.or_eq_true, Bool.not_eq_true', bne_iff_ne, ne_eq]; omega) | rfl | (simp; done) | (simp; omega)) (by omega) ?_
  refine numI (m := 44) (by first | (simp only [Bool.and_eq_true, Bool.and_true, Bool.true_and, decide_eq_true_eq, blt_iff, Nat.ble_eq, nbeq, cellsI_len,  List.length_append, List.length_cons, List.length_nil, Int.toNat_natCast, and_true, true_and, Bool.or_eq_true, Bool.not_eq_true', bne_iff_ne, ne_eq]; done) | (simp only [Bool.and_eq_true, Bool.and_true, Bool.true_and, decide_eq_true_eq, blt_iff, Nat.ble_eq, nbeq, cellsI_len,  List.length_append, List.length_cons, List.length_nil, Int.toNat_natCast, and_true, true_and, Bool.or_eq_true, Bool.not_eq_true', bne_iff_ne, ne_eq]; omega) | rfl | (simp; done) | (simp; omega)) (by omega) ?_
  refine numI (m := 48) (by first | (simp only [Bool.and_eq_true, Bool.and_true, Bool.true_and, decide_eq_true_eq, blt_iff, Nat.ble_eq, nbeq, cellsI_len,  List.length_append, List.length_cons, List.length_nil, Int.toNat_natCast, and_true, true_and, Bool.or_eq_true, Bool.not_eq_true', bne_iff_ne, ne_eq]; done) | (simp only [Bool.and_eq_true, Bool.and_true, Bool.true_and, decide_eq_true_eq, blt_iff, Nat.ble_eq, nbeq, cellsI_len,  List.length_append, List.length_cons, List.length_nil, Int.toNat_natCast, and_true, true_and, Bool.or_eq_true, Bool.not_eq_true', bne_iff_ne, ne_eq]; omega) | rfl | (simp; done) | (simp; omega)) (by omega) ?_
  refine numI (m := 52) (by first | (simp only [Bool.and_eq_true, Bool.and_true, Bool.true_and, decide_eq_true_eq, blt_iff, Nat.ble_eq, nbeq, cellsI_len,  List.length_append, List.length_cons, List.length_nil, Int.toNat_natCast, and_true, true_and, Bool.or_eq_true, Bool.not_eq_true', bne_iff_ne, ne_eq]; done) | (simp only [Bool.and_eq_true, Bool.and_true, Bool.true_and, decide_eq_true_eq, blt_iff, Nat.ble_eq, nbeq, cellsI_len,  List.length_append, List.length_cons, List.length_nil, Int.toNat_natCast, and_true, true_and, Bool.or_eq_true, Bool.not_eq_true', bne_iff_ne, ne_eq]; omega) | rfl | (simp; done) | (simp; omega)) (by omega) ?_
  refine numI (m := 56) (by first | (simp only [Bool.and_eq_true, Bool.and_true, Bool.true_and, decide_eq_true_eq, blt_iff, Nat.ble_eq, nbeq, cellsI_len,  List.length_append, List.length_cons, List.length_nil, Int.toNat_natCast, and_true, true_and, Bool.or_eq_true, Bool.not_eq_true', bne_iff_ne, ne_eq]; done) | (simp only [Bool.and_eq_true, Bool.and_true, Bool.true_and, decide_eq_true_eq, blt_iff, Nat.ble_eq, nbeq, cellsI_len,  List.length_append, List.length_cons, List.length_nil, Int.toNat_natCast, and_true, true_and, Bool.or_eq_true, Bool.not_eq_true', bne_iff_ne, ne_eq]; omega) | rfl | (simp; done) | (simp; omega)) (by omega) ?_
  refine numI (m := 60) (by first | (simp only [Bool.and_eq_true, Bool.and_true, Bool.true_and, decide_eq_true_eq, blt_iff, Nat.ble_eq, nbeq, cellsI_len,  List.length_append, List.length_cons, List.length_nil, Int.toNat_natCast, and_true, true_and, Bool.or_eq_true, Bool.not_eq_true', bne_iff_ne, ne_eq]; done) | (simp only [Bool.and_eq_true, Bool.and_true, Bool.true_and, decide_eq_true_eq, blt_iff, Nat.ble_eq, nbeq, cellsI_len,  List.length_append, List.length_cons, List.length_nil, Int.toNat_natCast, and_true, true_and, Bool.or_eq_true, Bool.not_eq_true', bne_iff_ne, ne_eq]; omega) | rfl | (simp; done) | (simp; omega)) (by omega) ?_
  exact hq
def cFirst : Con
  | [.str key, .str nonce], H, K => Lf (key.length = 32 ∧ nonce.length = 12) ∧ ∀ w, Lf (w = firstM key nonce) → K (.ret (.agg w.cells)) H
  | _, _, _ => False
theorem first_ok : ValidF Try.prog gl0 82 cFirst := by
  refine valid_flat (enters_of (by kernel_rfl)) gl0_noY fun args H Q hc => ?_
  unfold cFirst at hc
  split at hc
  · rename_i key nonce
    obtain ⟨⟨h1, h2⟩, hq⟩ := hc
    obtain ⟨hv, hb', h⟩ := first_run key nonce (Q := fun o H' _ => H' = [] ∧ (∃ v, o = .ret v ∧ old 0 v = true ∧ noY v = true) ∧ Q o H) h1 h2 ⟨rfl, ⟨_, rfl, rfl, rfl⟩, hq _ ⟨rfl⟩⟩
    exact ⟨rfl, rfl, _, 1000, envFor04 sm0_ok _ _ _, rfl, h⟩
  · exact hc.elim
end Go.Proofs.Ytiholnebhmjbjaa

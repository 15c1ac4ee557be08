/-
  Chapter 4: SealMeans' and SealOpens' runs.
-/
import Derived.Test.YtlfbaakndklncaaS04Z
set_option linter.unusedSimpArgs false
set_option linter.unusedVariables false
namespace Go.Proofs.Ytlfbaakndklncaa
open Go.RowKit
set_option maxRecDepth 1000000

noncomputable def eZ (hv : Nat → Option Pa) (hb : Nat → Option Bool) : Env := e04 smZ (fun _ => none) hv hb
noncomputable def goal_6 (hv : Nat → Option Pa) (hb : Nat → Option Bool) (key nonce extra plain : List UInt8) (Q : Out → List Blk → Gh → Prop) : Prop :=
  callx (eZ hv hb) (wpx (eZ hv hb) 1000) 6 [.str key, .str nonce, .str extra, .str plain] [] {} Q
theorem vc_6 (key : List UInt8) (nonce : List UInt8) (extra : List UInt8) (plain : List UInt8) (Q : Out → List Blk → Gh → Prop) : goal_6 (lookV [(24595, .int .i64), (24596, .int .i64), (24597, .str), (24601, .int .i64), (24602, .int .i64), (24603, .str), (24607, .int .i64), (24608, .int .i64), (24609, .str), (24612, .int .i64), (24613, .int .i64), (24614, .str), (24637, .int .i64), (24639, .int .i64), (24640, .int .i64), (24645, .int .i64), (24650, .int .i64), (24651, .str), (24654, .str), (24661, .int .i64), (24662, .str), (24667, .int .i64), (24672, .int .i64), (102405, .int .i64), (102406, .int .i64), (102407, .int .i64), (102408, .int .i64), (102410, .str), (24664, .str), (110596, .int .u8), (110598, .int .i64), (110599, .int .u8), (110601, .str), (24669, .str), (24674, .str)]) (lookB []) key nonce extra plain Q = (
(∃ n_0 : Int, (((AV.int IntKind.i64 (Nat.cast (List.length key) : Int)) = (AV.int IntKind.i64 n_0)) ∧
 (∃ n_1 : Int, (((AV.int IntKind.i64 (imin n_0 (32 : Int))) = (AV.int IntKind.i64 n_1)) ∧
 (bif (((decide ((0 : Int) ≤ n_1)) && Bool.true) && (Nat.ble (Int.toNat n_1) (List.length key))) then (∃ s_2 : (List UInt8), (((AV.str (List.take ((Int.toNat n_1) - (0 : Nat)) (List.drop (0 : Nat) key))) = (AV.str s_2)) ∧
 (∃ n_3 : Int, (((AV.int IntKind.i64 (Nat.cast (List.length nonce) : Int)) = (AV.int IntKind.i64 n_3)) ∧
 (∃ n_4 : Int, (((AV.int IntKind.i64 (imin n_3 (12 : Int))) = (AV.int IntKind.i64 n_4)) ∧
 (bif (((decide ((0 : Int) ≤ n_4)) && Bool.true) && (Nat.ble (Int.toNat n_4) (List.length nonce))) then (∃ s_5 : (List UInt8), (((AV.str (List.take ((Int.toNat n_4) - (0 : Nat)) (List.drop (0 : Nat) nonce))) = (AV.str s_5)) ∧
 (∃ n_6 : Int, (((AV.int IntKind.i64 (Nat.cast (List.length extra) : Int)) = (AV.int IntKind.i64 n_6)) ∧
 (∃ n_7 : Int, (((AV.int IntKind.i64 (imin n_6 (100 : Int))) = (AV.int IntKind.i64 n_7)) ∧
 (bif (((decide ((0 : Int) ≤ n_7)) && Bool.true) && (Nat.ble (Int.toNat n_7) (List.length extra))) then (∃ s_8 : (List UInt8), (((AV.str (List.take ((Int.toNat n_7) - (0 : Nat)) (List.drop (0 : Nat) extra))) = (AV.str s_8)) ∧
 (∃ n_9 : Int, (((AV.int IntKind.i64 (Nat.cast (List.length plain) : Int)) = (AV.int IntKind.i64 n_9)) ∧
 (∃ n_10 : Int, (((AV.int IntKind.i64 (imin n_9 (200 : Int))) = (AV.int IntKind.i64 n_10)) ∧
 (bif (((decide ((0 : Int) ≤ n_10)) && Bool.true) && (Nat.ble (Int.toNat n_10) (List.length plain))) then (∃ s_11 : (List UInt8), (((AV.str (List.take ((Int.toNat n_10) - (0 : Nat)) (List.drop (0 : Nat) plain))) = (AV.str s_11)) ∧
 ((Lf (((0 : Int) ≤ (32 : Int)) ∧
 (((32 : Int) ≤ (100000 : Int)) ∧
 ((List.length s_2) ≤ (100000 : Nat))))) ∧
 (∀ t_12 : (List UInt8), ((Lf (t_12 = (sizedM s_2 (Int.toNat (32 : Int))))) →
((Lf (((0 : Int) ≤ (12 : Int)) ∧
 (((12 : Int) ≤ (100000 : Int)) ∧
 ((List.length s_5) ≤ (100000 : Nat))))) ∧
 (∀ t_13 : (List UInt8), ((Lf (t_13 = (sizedM s_5 (Int.toNat (12 : Int))))) →
(∀ t_14 : (List UInt8), (∀ e_15 : Int, ((Lf ((sealM t_12 t_13 s_8 s_11) = (Prod.mk t_14 e_15))) →
(∀ s_16 : (List UInt8), (∀ e_17 : Int, ((Lf ((blockM t_12 t_13 (0 : Int)) = (Prod.mk s_16 e_17))) →
(bif (e_15 != (0 : Int)) then (Q (Out.ret (AV.bool Bool.false)) [] (Gh.mk (0 : Nat) (0 : Nat) []))
else (bif (e_17 != (0 : Int)) then (Q (Out.ret (AV.bool Bool.false)) [] (Gh.mk (0 : Nat) (0 : Nat) []))
else (∃ n_18 : Int, (((AV.int IntKind.i64 (Nat.cast (List.length t_14) : Int)) = (AV.int IntKind.i64 n_18)) ∧
 (∃ n_19 : Int, (((AV.int IntKind.i64 (Nat.cast (List.length s_11) : Int)) = (AV.int IntKind.i64 n_19)) ∧
 (∃ n_20 : Int, (((AV.int IntKind.i64 (IntKind.wrap IntKind.i64 (n_19 + (16 : Int)))) = (AV.int IntKind.i64 n_20)) ∧
 (bif (n_18 != n_20) then (Q (Out.ret (AV.bool Bool.false)) [] (Gh.mk (0 : Nat) (0 : Nat) []))
else (∃ n_21 : Int, (((AV.int IntKind.i64 (Nat.cast (List.length s_16) : Int)) = (AV.int IntKind.i64 n_21)) ∧
 (bif (n_21 != (64 : Int)) then (Q (Out.ret (AV.bool Bool.false)) [] (Gh.mk (0 : Nat) (0 : Nat) []))
else (∃ n_22 : Int, (((AV.int IntKind.i64 (Nat.cast (List.length s_11) : Int)) = (AV.int IntKind.i64 n_22)) ∧
 (bif ((((decide ((0 : Int) ≤ n_22)) && Bool.true) && (Nat.ble (Int.toNat n_22) (List.length t_14))) && (Nat.ble (List.length t_14) (List.length t_14))) then (∃ s_23 : (List UInt8), (((AV.str (List.take ((List.length t_14) - (Int.toNat n_22)) (List.drop (Int.toNat n_22) t_14))) = (AV.str s_23)) ∧
 (bif (Nat.ble (32 : Nat) (List.length s_16)) then (∃ s_24 : (List UInt8), (((AV.str (List.take (32 : Nat) (List.drop (0 : Nat) s_16))) = (AV.str s_24)) ∧
 (∃ n_25 : Int, (((AV.int IntKind.i64 (Nat.cast (List.length s_11) : Int)) = (AV.int IntKind.i64 n_25)) ∧
 (bif (((decide ((0 : Int) ≤ n_25)) && Bool.true) && (Nat.ble (Int.toNat n_25) (List.length t_14))) then (∃ s_26 : (List UInt8), (((AV.str (List.take ((Int.toNat n_25) - (0 : Nat)) (List.drop (0 : Nat) t_14))) = (AV.str s_26)) ∧
 (∃ n_27 : Int, (((AV.int IntKind.i64 (Nat.cast (List.length s_8) : Int)) = (AV.int IntKind.i64 n_27)) ∧
 (∃ n_28 : Int, (((AV.int IntKind.i64 (Nat.cast (List.length s_11) : Int)) = (AV.int IntKind.i64 n_28)) ∧
 (∃ n_29 : Int, (((AV.int IntKind.i64 (Nat.cast (List.length s_8) : Int)) = (AV.int IntKind.i64 n_29)) ∧
 (∃ n_30 : Int, (((AV.int IntKind.i64 (Int.tmod n_29 (16 : Int))) = (AV.int IntKind.i64 n_30)) ∧
 (∃ n_31 : Int, (((AV.int IntKind.i64 (IntKind.wrap IntKind.i64 ((16 : Int) - n_30))) = (AV.int IntKind.i64 n_31)) ∧
 (∃ n_32 : Int, (((AV.int IntKind.i64 (Int.tmod n_31 (16 : Int))) = (AV.int IntKind.i64 n_32)) ∧
 ((Lf (((0 : Int) ≤ n_32) ∧
 ((n_32 ≤ (100000 : Int)) ∧
 ((List.length ((0 : UInt8) :: [])) ≤ (100000 : Nat))))) ∧
 (∀ t_33 : (List UInt8), ((Lf (t_33 = (repM ((0 : UInt8) :: []) (Int.toNat n_32)))) →
(bif ((decide (((List.length s_8) + (List.length t_33)) ≤ (9223372036854775807 : Nat))) && Bool.true) then (∃ s_34 : (List UInt8), (((AV.str (s_8 ++ t_33)) = (AV.str s_34)) ∧
 (∃ n_35 : Int, (((AV.int IntKind.i64 (Nat.cast (List.length s_26) : Int)) = (AV.int IntKind.i64 n_35)) ∧
 (∃ n_36 : Int, (((AV.int IntKind.i64 (Int.tmod n_35 (16 : Int))) = (AV.int IntKind.i64 n_36)) ∧
 (∃ n_37 : Int, (((AV.int IntKind.i64 (IntKind.wrap IntKind.i64 ((16 : Int) - n_36))) = (AV.int IntKind.i64 n_37)) ∧
 (∃ n_38 : Int, (((AV.int IntKind.i64 (Int.tmod n_37 (16 : Int))) = (AV.int IntKind.i64 n_38)) ∧
 ((Lf (((0 : Int) ≤ n_38) ∧
 ((n_38 ≤ (100000 : Int)) ∧
 ((List.length ((0 : UInt8) :: [])) ≤ (100000 : Nat))))) ∧
 (∀ t_39 : (List UInt8), ((Lf (t_39 = (repM ((0 : UInt8) :: []) (Int.toNat n_38)))) →
(bif ((decide (((List.length s_26) + (List.length t_39)) ≤ (9223372036854775807 : Nat))) && Bool.true) then (∃ s_40 : (List UInt8), (((AV.str (s_26 ++ t_39)) = (AV.str s_40)) ∧
 (bif ((decide (((List.length s_34) + (List.length s_40)) ≤ (9223372036854775807 : Nat))) && Bool.true) then (∃ s_41 : (List UInt8), (((AV.str (s_34 ++ s_40)) = (AV.str s_41)) ∧
 (∃ n_42 : Int, (((AV.int IntKind.u8 (IntKind.wrap IntKind.u8 n_27)) = (AV.int IntKind.u8 n_42)) ∧
 (∃ n_43 : Int, (((AV.int IntKind.i64 (Int.fdiv n_27 (256 : Int))) = (AV.int IntKind.i64 n_43)) ∧
 (∃ n_44 : Int, (((AV.int IntKind.u8 (IntKind.wrap IntKind.u8 n_43)) = (AV.int IntKind.u8 n_44)) ∧
 (∃ s_45 : (List UInt8), (((AV.str ((toB (AV.int IntKind.u8 n_42)) :: ((toB (AV.int IntKind.u8 n_44)) :: ((toB (AV.int IntKind.u8 (0 : Int))) :: ((toB (AV.int IntKind.u8 (0 : Int))) :: ((toB (AV.int IntKind.u8 (0 : Int))) :: ((toB (AV.int IntKind.u8 (0 : Int))) :: ((toB (AV.int IntKind.u8 (0 : Int))) :: ((toB (AV.int IntKind.u8 (0 : Int))) :: []))))))))) = (AV.str s_45)) ∧
 (bif ((decide (((List.length s_41) + (List.length s_45)) ≤ (9223372036854775807 : Nat))) && Bool.true) then (∃ s_46 : (List UInt8), (((AV.str (s_41 ++ s_45)) = (AV.str s_46)) ∧
 (∃ n_47 : Int, (((AV.int IntKind.u8 (IntKind.wrap IntKind.u8 n_28)) = (AV.int IntKind.u8 n_47)) ∧
 (∃ n_48 : Int, (((AV.int IntKind.i64 (Int.fdiv n_28 (256 : Int))) = (AV.int IntKind.i64 n_48)) ∧
 (∃ n_49 : Int, (((AV.int IntKind.u8 (IntKind.wrap IntKind.u8 n_48)) = (AV.int IntKind.u8 n_49)) ∧
 (∃ s_50 : (List UInt8), (((AV.str ((toB (AV.int IntKind.u8 n_47)) :: ((toB (AV.int IntKind.u8 n_49)) :: ((toB (AV.int IntKind.u8 (0 : Int))) :: ((toB (AV.int IntKind.u8 (0 : Int))) :: ((toB (AV.int IntKind.u8 (0 : Int))) :: ((toB (AV.int IntKind.u8 (0 : Int))) :: ((toB (AV.int IntKind.u8 (0 : Int))) :: ((toB (AV.int IntKind.u8 (0 : Int))) :: []))))))))) = (AV.str s_50)) ∧
 (bif ((decide (((List.length s_46) + (List.length s_50)) ≤ (9223372036854775807 : Nat))) && Bool.true) then (∃ s_51 : (List UInt8), (((AV.str (s_46 ++ s_50)) = (AV.str s_51)) ∧
 (∀ t_52 : (List UInt8), (∀ e_53 : Int, ((Lf ((tagSM s_24 s_51) = (Prod.mk t_52 e_53))) →
(bif (eqB t_52 s_23) then (bif (e_53 == (0 : Int)) then (Q (Out.ret (AV.bool Bool.true)) [] (Gh.mk (0 : Nat) (0 : Nat) []))
else (Q (Out.ret (AV.bool Bool.false)) [] (Gh.mk (0 : Nat) (0 : Nat) [])))
else (Q (Out.ret (AV.bool Bool.false)) [] (Gh.mk (0 : Nat) (0 : Nat) []))))))))
else False)))))))))))
else False)))))))))))
else False)))
else False))))))))))))))
else False))))))))))))))))))
else False)))))
else False)))
else False)))))))))))))))))))))))))))))
else False)))))))
else False)))))))
else False)))))))
else False)))))) := by kernel_rfl

noncomputable def goal_5 (hv : Nat → Option Pa) (hb : Nat → Option Bool) (key nonce extra plain : List UInt8) (k c : Int) (Q : Out → List Blk → Gh → Prop) : Prop :=
  callx (eZ hv hb) (wpx (eZ hv hb) 1000) 5 [.str key, .str nonce, .str extra, .str plain, .int .u8 k, .int .u8 c] [] {} Q
theorem vc_5 (key : List UInt8) (nonce : List UInt8) (extra : List UInt8) (plain : List UInt8) (k : Int) (c : Int) (Q : Out → List Blk → Gh → Prop) : goal_5 (lookV [(20502, .int .i64), (20503, .int .i64), (20504, .str), (20508, .int .i64), (20509, .int .i64), (20510, .str), (20514, .int .i64), (20515, .int .i64), (20516, .str), (20519, .int .i64), (20520, .int .i64), (20521, .str), (20545, .int .i64), (20547, .int .i64), (20548, .int .i64), (20554, .int .i64), (20555, .str), (20578, .int .i64), (20580, .int .u8), (20581, .int .i64), (20582, .int .i64), (20584, .int .u8), (20586, .int .u8), (20593, .str)]) (lookB [(98302, false), (192510, true)]) key nonce extra plain k c Q = (
(∃ n_0 : Int, (((AV.int IntKind.i64 (Nat.cast (List.length key) : Int)) = (AV.int IntKind.i64 n_0)) ∧
 (∃ n_1 : Int, (((AV.int IntKind.i64 (imin n_0 (32 : Int))) = (AV.int IntKind.i64 n_1)) ∧
 (bif (((decide ((0 : Int) ≤ n_1)) && Bool.true) && (Nat.ble (Int.toNat n_1) (List.length key))) then (∃ s_2 : (List UInt8), (((AV.str (List.take ((Int.toNat n_1) - (0 : Nat)) (List.drop (0 : Nat) key))) = (AV.str s_2)) ∧
 (∃ n_3 : Int, (((AV.int IntKind.i64 (Nat.cast (List.length nonce) : Int)) = (AV.int IntKind.i64 n_3)) ∧
 (∃ n_4 : Int, (((AV.int IntKind.i64 (imin n_3 (12 : Int))) = (AV.int IntKind.i64 n_4)) ∧
 (bif (((decide ((0 : Int) ≤ n_4)) && Bool.true) && (Nat.ble (Int.toNat n_4) (List.length nonce))) then (∃ s_5 : (List UInt8), (((AV.str (List.take ((Int.toNat n_4) - (0 : Nat)) (List.drop (0 : Nat) nonce))) = (AV.str s_5)) ∧
 (∃ n_6 : Int, (((AV.int IntKind.i64 (Nat.cast (List.length extra) : Int)) = (AV.int IntKind.i64 n_6)) ∧
 (∃ n_7 : Int, (((AV.int IntKind.i64 (imin n_6 (100 : Int))) = (AV.int IntKind.i64 n_7)) ∧
 (bif (((decide ((0 : Int) ≤ n_7)) && Bool.true) && (Nat.ble (Int.toNat n_7) (List.length extra))) then (∃ s_8 : (List UInt8), (((AV.str (List.take ((Int.toNat n_7) - (0 : Nat)) (List.drop (0 : Nat) extra))) = (AV.str s_8)) ∧
 (∃ n_9 : Int, (((AV.int IntKind.i64 (Nat.cast (List.length plain) : Int)) = (AV.int IntKind.i64 n_9)) ∧
 (∃ n_10 : Int, (((AV.int IntKind.i64 (imin n_9 (200 : Int))) = (AV.int IntKind.i64 n_10)) ∧
 (bif (((decide ((0 : Int) ≤ n_10)) && Bool.true) && (Nat.ble (Int.toNat n_10) (List.length plain))) then (∃ s_11 : (List UInt8), (((AV.str (List.take ((Int.toNat n_10) - (0 : Nat)) (List.drop (0 : Nat) plain))) = (AV.str s_11)) ∧
 ((Lf (((0 : Int) ≤ (32 : Int)) ∧
 (((32 : Int) ≤ (100000 : Int)) ∧
 ((List.length s_2) ≤ (100000 : Nat))))) ∧
 (∀ t_12 : (List UInt8), ((Lf (t_12 = (sizedM s_2 (Int.toNat (32 : Int))))) →
((Lf (((0 : Int) ≤ (12 : Int)) ∧
 (((12 : Int) ≤ (100000 : Int)) ∧
 ((List.length s_5) ≤ (100000 : Nat))))) ∧
 (∀ t_13 : (List UInt8), ((Lf (t_13 = (sizedM s_5 (Int.toNat (12 : Int))))) →
(∀ t_14 : (List UInt8), (∀ e_15 : Int, ((Lf ((sealM t_12 t_13 s_8 s_11) = (Prod.mk t_14 e_15))) →
(∀ t_16 : (List UInt8), (∀ e_17 : Int, ((Lf ((applyM t_12 t_13 (1 : Int) s_11) = (Prod.mk t_16 e_17))) →
(bif (e_15 != (0 : Int)) then (Q (Out.ret (AV.bool Bool.false)) [] (Gh.mk (0 : Nat) (0 : Nat) []))
else (bif (e_17 != (0 : Int)) then (Q (Out.ret (AV.bool Bool.false)) [] (Gh.mk (0 : Nat) (0 : Nat) []))
else (∃ n_18 : Int, (((AV.int IntKind.i64 (Nat.cast (List.length t_14) : Int)) = (AV.int IntKind.i64 n_18)) ∧
 (∃ n_19 : Int, (((AV.int IntKind.i64 (Nat.cast (List.length s_11) : Int)) = (AV.int IntKind.i64 n_19)) ∧
 (∃ n_20 : Int, (((AV.int IntKind.i64 (IntKind.wrap IntKind.i64 (n_19 + (16 : Int)))) = (AV.int IntKind.i64 n_20)) ∧
 (bif (n_18 != n_20) then (Q (Out.ret (AV.bool Bool.false)) [] (Gh.mk (0 : Nat) (0 : Nat) []))
else (∃ n_21 : Int, (((AV.int IntKind.i64 (Nat.cast (List.length s_11) : Int)) = (AV.int IntKind.i64 n_21)) ∧
 (bif (((decide ((0 : Int) ≤ n_21)) && Bool.true) && (Nat.ble (Int.toNat n_21) (List.length t_14))) then (∃ s_22 : (List UInt8), (((AV.str (List.take ((Int.toNat n_21) - (0 : Nat)) (List.drop (0 : Nat) t_14))) = (AV.str s_22)) ∧
 (bif (!(eqB s_22 t_16)) then (Q (Out.ret (AV.bool Bool.false)) [] (Gh.mk (0 : Nat) (0 : Nat) []))
else (∀ t_23 : (List UInt8), (∀ e_24 : Int, ((Lf ((openM t_12 t_13 s_8 t_14) = (Prod.mk t_23 e_24))) →
(bif (eqB t_23 s_11) then (bif (e_24 == (0 : Int)) then (bif (c == (0 : Int)) then (Q (Out.ret (AV.bool Bool.true)) [] (Gh.mk (0 : Nat) (0 : Nat) []))
else (∃ n_25 : Int, (((AV.int IntKind.i64 (Nat.cast (List.length s_11) : Int)) = (AV.int IntKind.i64 n_25)) ∧
 (∃ n_26 : Int, (((AV.int IntKind.u8 (Int.tmod k (16 : Int))) = (AV.int IntKind.u8 n_26)) ∧
 (∃ n_27 : Int, (((AV.int IntKind.i64 (IntKind.wrap IntKind.i64 n_26)) = (AV.int IntKind.i64 n_27)) ∧
 (∃ n_28 : Int, (((AV.int IntKind.i64 (IntKind.wrap IntKind.i64 (n_25 + n_27))) = (AV.int IntKind.i64 n_28)) ∧
 (bif ((((decide ((0 : Int) ≤ n_28)) && (Nat.blt (Int.toNat n_28) (List.length t_14))) && (Nat.beq (List.length (ofBytes t_14)) (List.length t_14))) && Bool.true) then (bif ((Nat.beq (List.length (ofBytes t_14)) (List.length t_14)) && (Nat.blt ((0 : Nat) + ((Int.toNat n_28) * (1 : Nat))) (List.length t_14))) then (∃ n_29 : Int, (((List.getD (List.take (1 : Nat) (List.drop ((0 : Nat) + ((Int.toNat n_28) * (1 : Nat))) (ofBytes t_14))) (0 : Nat) AV.undef) = (AV.int IntKind.u8 n_29)) ∧
 (∃ n_30 : Int, (((AV.int IntKind.u8 (IntKind.wrap IntKind.u8 (Nat.cast ((Int.toNat (n_29 % (256 : Int))) ^^^ (Int.toNat (c % (256 : Int)))) : Int))) = (AV.int IntKind.u8 n_30)) ∧
 (bif ((((decide ((0 : Int) ≤ n_28)) && (Nat.blt (Int.toNat n_28) (List.length t_14))) && (Nat.beq (List.length (ofBytes t_14)) (List.length t_14))) && Bool.true) then (bif (((((Nat.beq (List.length (ofBytes t_14)) (List.length t_14)) && (Nat.ble (((0 : Nat) + ((Int.toNat n_28) * (1 : Nat))) + (1 : Nat)) (List.length t_14))) && Bool.true) && Bool.true) && Bool.true) then (bif ((((Nat.beq (List.length (setRange (ofBytes t_14) ((0 : Nat) + ((Int.toNat n_28) * (1 : Nat))) ((AV.int IntKind.u8 n_30) :: []))) (List.length t_14)) && (Nat.ble ((0 : Nat) + (List.length t_14)) (List.length t_14))) && Bool.true) && (allU8 (List.take (List.length t_14) (List.drop (0 : Nat) (setRange (ofBytes t_14) ((0 : Nat) + ((Int.toNat n_28) * (1 : Nat))) ((AV.int IntKind.u8 n_30) :: [])))))) then (∃ s_31 : (List UInt8), (((AV.str (List.map toB (List.take (List.length t_14) (List.drop (0 : Nat) (setRange (ofBytes t_14) ((0 : Nat) + ((Int.toNat n_28) * (1 : Nat))) ((AV.int IntKind.u8 n_30) :: [])))))) = (AV.str s_31)) ∧
 (bif ((eqAVL (List.take (List.length t_14) (List.drop (0 : Nat) (setRange (ofBytes t_14) ((0 : Nat) + ((Int.toNat n_28) * (1 : Nat))) ((AV.int IntKind.u8 n_30) :: [])))) (List.take (List.length t_14) (List.drop (0 : Nat) (setRange (ofBytes t_14) ((0 : Nat) + ((Int.toNat n_28) * (1 : Nat))) ((AV.int IntKind.u8 n_30) :: []))))) && ((Option.some (List.length (setRange (ofBytes t_14) ((0 : Nat) + ((Int.toNat n_28) * (1 : Nat))) ((AV.int IntKind.u8 n_30) :: [])))) == (Option.some (List.length (setRange (ofBytes t_14) ((0 : Nat) + ((Int.toNat n_28) * (1 : Nat))) ((AV.int IntKind.u8 n_30) :: [])))))) then (∀ t_32 : (List UInt8), (∀ e_33 : Int, ((Lf ((openM t_12 t_13 s_8 s_31) = (Prod.mk t_32 e_33))) →
(bif (eqB t_32 []) then (bif (e_33 == (9 : Int)) then ((((((oldL (0 : Nat) (ofBytes t_14)) && Bool.true) || (oldL (3 : Nat) (setRange (ofBytes t_14) ((0 : Nat) + ((Int.toNat n_28) * (1 : Nat))) ((AV.int IntKind.u8 n_30) :: [])))) && Bool.true) = Bool.true) ∧
 (Q (Out.ret (AV.bool Bool.true)) [] (Gh.mk (0 : Nat) (0 : Nat) [])))
else ((((((oldL (0 : Nat) (ofBytes t_14)) && Bool.true) || (oldL (3 : Nat) (setRange (ofBytes t_14) ((0 : Nat) + ((Int.toNat n_28) * (1 : Nat))) ((AV.int IntKind.u8 n_30) :: [])))) && Bool.true) = Bool.true) ∧
 (Q (Out.ret (AV.bool Bool.false)) [] (Gh.mk (0 : Nat) (0 : Nat) []))))
else ((((((oldL (0 : Nat) (ofBytes t_14)) && Bool.true) || (oldL (3 : Nat) (setRange (ofBytes t_14) ((0 : Nat) + ((Int.toNat n_28) * (1 : Nat))) ((AV.int IntKind.u8 n_30) :: [])))) && Bool.true) = Bool.true) ∧
 (Q (Out.ret (AV.bool Bool.false)) [] (Gh.mk (0 : Nat) (0 : Nat) [])))))))
else False)))
else False)
else False)
else False)))))
else False)
else False))))))))))
else (Q (Out.ret (AV.bool Bool.false)) [] (Gh.mk (0 : Nat) (0 : Nat) [])))
else (Q (Out.ret (AV.bool Bool.false)) [] (Gh.mk (0 : Nat) (0 : Nat) [])))))))))
else False))))))))))))))))))))))))))
else False)))))))
else False)))))))
else False)))))))
else False)))))) := by kernel_rfl

/-! ## plain lemmas -/
/-- the first octets of an argument -/
theorem cutK (x : List UInt8) (n : Nat) {N : Int} (hN : N = (n : Int)) {K : List UInt8 → Prop} (h : ∀ y, y.length ≤ n → K y) :
    ∃ a : Int, AV.int .i64 (x.length : Int) = AV.int .i64 a ∧ ∃ b : Int, AV.int .i64 (imin a N) = AV.int .i64 b ∧
      bif (decide (0 ≤ b) && true) && Nat.ble b.toNat x.length then ∃ s : List UInt8, AV.str (List.take (b.toNat - 0) (List.drop 0 x)) = AV.str s ∧ K s else False := by
  have i1 : imin (x.length : Int) N = ((min x.length n : Nat) : Int) := by rw [hN]; exact imin_nat _ n
  refine ⟨_, rfl, _, rfl, ckI ?_ ⟨_, rfl, h _ ?_⟩⟩
  · rw [i1]; simp; omega
  · rw [i1, List.length_take]; omega
theorem right_ok {key nonce : List UInt8} (h1 : key.length = 32) (h2 : nonce.length = 12) : rightM key nonce 0 = true := by simp [rightM, h1, h2]
theorem sealed {key nonce extra plain : List UInt8} (h1 : key.length = 32) (h2 : nonce.length = 12) (h3 : extra.length ≤ 100) (h4 : plain.length ≤ 200) :
    sealM key nonce extra plain = (appM (firstM key nonce) 1 70 plain ++ checkM key nonce extra (appM (firstM key nonce) 1 70 plain), 0) := by
  rw [sealM, if_neg (by rw [right_ok h1 h2]; simp), if_neg (by omega)]
theorem rep_zero (n : Nat) : repM [0] n = List.replicate n 0 := by
  unfold repM
  induction n with
  | zero => rfl
  | succ n ih => rw [Lib.repeatL, ih]; rfl
/-- how many zeros there are up to a multiple of 16 -/
theorem upK (n : Nat) (hn : n ≤ 100000) {K : Int → Prop} (h : K ((upM n : Nat) : Int)) :
    ∃ a : Int, AV.int .i64 (n : Int) = AV.int .i64 a ∧ ∃ b : Int, AV.int .i64 (Int.tmod a 16) = AV.int .i64 b ∧ ∃ c : Int, AV.int .i64 (IntKind.wrap .i64 (16 - b)) = AV.int .i64 c ∧ ∃ d : Int, AV.int .i64 (Int.tmod c 16) = AV.int .i64 d ∧ K d := by
  refine ⟨_, rfl, _, rfl, _, rfl, _, rfl, ?_⟩
  have e1 : Int.tmod (n : Int) 16 = ((n % 16 : Nat) : Int) := by rw [Int.tmod_eq_emod_of_nonneg (by omega)]; omega
  have e2 : IntKind.wrap .i64 (16 - ((n % 16 : Nat) : Int)) = ((16 - n % 16 : Nat) : Int) := by rw [IntKind.wrap_i64]; omega
  have e3 : Int.tmod ((16 - n % 16 : Nat) : Int) 16 = ((upM n : Nat) : Int) := by rw [Int.tmod_eq_emod_of_nonneg (by omega), upM]; omega
  rw [e1, e2, e3]
  exact h
theorem up_lt (n : Nat) : upM n < 16 := Nat.mod_lt _ (by decide)
/-- the octets of a size -/
theorem size_cells (n : Nat) : [toB (.int .u8 (IntKind.wrap .u8 (n : Int))), toB (.int .u8 (IntKind.wrap .u8 (Int.fdiv (n : Int) 256))), toB (.int .u8 0), toB (.int .u8 0), toB (.int .u8 0), toB (.int .u8 0), toB (.int .u8 0), toB (.int .u8 0)] = sizeM n := by
  rw [fdivN n 256 256 rfl, u8_wrap, u8_wrap, toB_nat, toB_nat]
  rfl
theorem size_len (n : Nat) : (sizeM n).length = 8 := rfl
theorem means_run (key nonce extra plain : List UInt8) (Q : Out → List Blk → Gh → Prop) (hq : Q (.ret (.bool true)) [] {}) : ∃ hv hb, goal_6 hv hb key nonce extra plain Q := by
  obtain ⟨hv, hb', e⟩ : ∃ hv hb, goal_6 hv hb key nonce extra plain Q = _ := ⟨_, _, vc_6 key nonce extra plain Q⟩
  refine ⟨hv, hb', e.mpr ?_⟩
  clear e
  refine cutK key 32 rfl fun k1 l1 => cutK nonce 12 rfl fun n1 l2 => cutK extra 100 rfl fun x l3 => cutK plain 200 rfl fun p l4 => ⟨⟨by decide, by decide, by omega⟩, ?_⟩
  rintro k ⟨hk⟩
  refine ⟨⟨by decide, by decide, by omega⟩, ?_⟩
  rintro n ⟨hn⟩
  have lk : k.length = 32 := by rw [hk, sized_len]; rfl
  have ln : n.length = 12 := by rw [hn, sized_len]; rfl
  clear hk hn
  rintro b e ⟨hs⟩
  rw [sealed lk ln l3 l4] at hs
  obtain ⟨rfl, rfl⟩ := Prod.mk.inj hs
  rintro bl e ⟨hbl⟩
  have hck : ∀ H, checkM k n x H = tagM (List.take 32 bl) (((padM x ++ padM H) ++ sizeM x.length) ++ sizeM H.length) := fun H => by rw [checkM, hbl]
  rw [blockM, if_pos (right_ok lk ln)] at hbl
  obtain ⟨rfl, rfl⟩ := Prod.mk.inj hbl
  have lH : (appM (firstM k n) 1 70 p).length = p.length := app_len _ _ _ _ (by omega)
  generalize appM (firstM k n) 1 70 p = H at *
  have lC := check_len k n x H
  have lB : ((blkM (firstM k n) 0).map UInt8.ofNat).length = 64 := by rw [List.length_map, len_blk]
  generalize (blkM (firstM k n) 0).map UInt8.ofNat = bl at *
  have lA : (H ++ checkM k n x H).length = p.length + 16 := by rw [List.length_append, lC, lH]
  generalize hC : checkM k n x H = C at *
  have u1 := up_lt x.length
  have u2 := up_lt H.length
  have d1 : List.take ((H ++ C).length - ((p.length : Nat) : Int).toNat) (List.drop ((p.length : Nat) : Int).toNat (H ++ C)) = C := by
    rw [Int.toNat_natCast, ← lH, List.drop_left, List.take_of_length_le]
    rw [List.length_append]; omega
  have d2 : List.take (((p.length : Nat) : Int).toNat - 0) (List.drop 0 (H ++ C)) = H := by
    rw [Int.toNat_natCast, ← lH, Nat.sub_zero, List.drop_zero, List.take_left]
  refine splitNE (fun h => absurd rfl h) fun _ => splitNE (fun h => absurd rfl h) fun _ => ⟨_, rfl, _, rfl, wrapI (by omega) (by omega) (splitNE (fun h => by exfalso; omega) fun _ => ⟨_, rfl, splitNE (fun h => by exfalso; omega) fun _ => ⟨_, rfl, ckI (by rw [lA]; simp) ⟨_, rfl, ckI (by rw [lB]; rfl) ⟨_, rfl, _, rfl, ckI (by rw [lA]; simp) ⟨_, rfl, _, rfl, _, rfl, ?_⟩⟩⟩⟩⟩)⟩
  rw [d1, d2]
  refine upK x.length (by omega) ⟨⟨by omega, by omega, by decide⟩, ?_⟩
  rintro z ⟨hz⟩
  rw [rep_zero, Int.toNat_natCast] at hz
  subst hz
  refine ckI (by simp; omega) ⟨_, rfl, upK H.length (by omega) ⟨⟨by omega, by omega, by decide⟩, ?_⟩⟩
  rintro z ⟨hz⟩
  rw [rep_zero, Int.toNat_natCast] at hz
  subst hz
  refine ckI (by simp; omega) ⟨_, rfl, ckI (by simp; omega) ⟨_, rfl, _, rfl, _, rfl, _, rfl, _, rfl, ?_⟩⟩
  rw [size_cells]
  refine ckI (by simp [size_len]; omega) ⟨_, rfl, _, rfl, _, rfl, _, rfl, _, rfl, ?_⟩
  rw [size_cells]
  refine ckI (by simp [size_len]; omega) ⟨_, rfl, ?_⟩
  rintro t e ⟨ht⟩
  rw [tagS32 (by rw [List.length_take, List.drop_zero, lB]; rfl) (by simp [size_len]; omega)] at ht
  obtain ⟨rfl, rfl⟩ := Prod.mk.inj ht
  have ec : tagM (List.take 32 (List.drop 0 bl)) ((((x ++ List.replicate (upM x.length) 0) ++ (H ++ List.replicate (upM H.length) 0)) ++ sizeM x.length) ++ sizeM p.length) = C := by
    rw [← hC, hck, ← lH]
    rfl
  rw [ec, show eqB C C = true by rw [eqB_iff]; simp, cond_true]
  exact splitE (fun _ => hq) (fun h => absurd rfl h)
/-! ## SealOpens -/
theorem zipX_inv : ∀ (s : List UInt8) (l : List Nat), s.length ≤ l.length → zipXM (zipXM s l) l = s
  | [], _, _ => by simp [zipXM]
  | _ :: _, [], h => by simp at h
  | a :: s, b :: l, h => by
    have ih := zipX_inv s l (by simpa using h)
    simp only [zipXM, List.zipWith_cons_cons] at ih ⊢
    rw [ih, x8M, x8M, UInt8.xor_assoc, UInt8.xor_self, UInt8.xor_zero]
theorem zipX_lenE (s : List UInt8) (l : List Nat) (h : s.length ≤ l.length) : (zipXM s l).length = s.length := by
  rw [zipXM, List.length_zipWith]; omega
/-- a stream that is applied twice -/
theorem app_inv (w : W16) : ∀ (f : Nat) (c : Int) (s : List UInt8), s.length ≤ 64 * f → appM w c f (appM w c f s) = s
  | 0, c, s, h => by
    have : s = [] := List.length_eq_zero_iff.1 (by omega)
    rw [this]; rfl
  | f + 1, c, s, h => by
    have hb := len_blk w c
    by_cases hs : s.length ≤ 64
    · have e1 : appM w c (f + 1) s = zipXM s (blkM w c) := by rw [appM, if_pos hs]
      have l1 := zipX_lenE s (blkM w c) (by omega)
      rw [e1, appM, if_pos (by omega), zipX_inv _ _ (by omega)]
    · have lt : (s.take 64).length = 64 := by rw [List.length_take]; omega
      have l1 := zipX_lenE (s.take 64) (blkM w c) (by omega)
      have l2 : (appM w (c + 1) f (s.drop 64)).length = s.length - 64 := by rw [app_len w f (c + 1) _ (by rw [List.length_drop]; omega), List.length_drop]
      have e1 : appM w c (f + 1) s = zipXM (s.take 64) (blkM w c) ++ appM w (c + 1) f (s.drop 64) := by rw [appM, if_neg hs]
      have e2 : (zipXM (s.take 64) (blkM w c) ++ appM w (c + 1) f (s.drop 64)).take 64 = zipXM (s.take 64) (blkM w c) := List.take_left' (by omega)
      have e3 : (zipXM (s.take 64) (blkM w c) ++ appM w (c + 1) f (s.drop 64)).drop 64 = appM w (c + 1) f (s.drop 64) := List.drop_left' (by omega)
      rw [e1, appM, if_neg (by rw [List.length_append]; omega), e2, e3, zipX_inv _ _ (by omega), app_inv w f _ _ (by rw [List.length_drop]; omega), List.take_append_drop]
theorem eqAVL_ofB : ∀ l : List UInt8, eqAVL (ofBytes l) (ofBytes l) = true
  | [] => rfl
  | x :: l => by
    have ih := eqAVL_ofB l
    unfold ofBytes at ih ⊢
    rw [List.map_cons, eqAVL, ih]
    simp [eqAV]
theorem opens_run (key nonce extra plain : List UInt8) (k0 c : Int) (hk0 : 0 ≤ k0 ∧ k0 < 256) (hc0 : 0 ≤ c ∧ c < 256) (Q : Out → List Blk → Gh → Prop) (hq : Q (.ret (.bool true)) [] {}) : ∃ hv hb, goal_5 hv hb key nonce extra plain k0 c Q := by
  obtain ⟨hv, hb', e⟩ : ∃ hv hb, goal_5 hv hb key nonce extra plain k0 c Q = _ := ⟨_, _, vc_5 key nonce extra plain k0 c Q⟩
  refine ⟨hv, hb', e.mpr ?_⟩
  clear e
  refine cutK key 32 rfl fun k1 l1 => cutK nonce 12 rfl fun n1 l2 => cutK extra 100 rfl fun x l3 => cutK plain 200 rfl fun p l4 => ⟨⟨by decide, by decide, by omega⟩, ?_⟩
  rintro k ⟨hk⟩
  refine ⟨⟨by decide, by decide, by omega⟩, ?_⟩
  rintro n ⟨hn⟩
  have lk : k.length = 32 := by rw [hk, sized_len]; rfl
  have ln : n.length = 12 := by rw [hn, sized_len]; rfl
  clear hk hn
  rintro b e ⟨hs⟩
  rw [sealed lk ln l3 l4] at hs
  obtain ⟨rfl, rfl⟩ := Prod.mk.inj hs
  rintro h' e ⟨hap⟩
  rw [apply_one (right_ok lk ln) (by omega)] at hap
  obtain ⟨rfl, rfl⟩ := Prod.mk.inj hap
  have lH : (appM (firstM k n) 1 70 p).length = p.length := app_len _ _ _ _ (by omega)
  have hinv := app_inv (firstM k n) 70 1 p (by omega)
  generalize appM (firstM k n) 1 70 p = H at *
  have lC := check_len k n x H
  have hop : ∀ D : List UInt8, D.length = 16 → openM k n x (H ++ D) = if D = checkM k n x H then (p, 0) else ([], 9) := fun D hD => by
    have e1 : (H ++ D).length - 16 = H.length := by rw [List.length_append]; omega
    rw [openM, right_ok lk ln, if_neg (by simp), if_neg (by rw [List.length_append]; omega), if_neg (by rw [List.length_append]; omega), e1, List.drop_left, List.take_left, hinv]
  generalize hC : checkM k n x H = C at *
  have lA : (H ++ C).length = p.length + 16 := by rw [List.length_append, lC, lH]
  have d2 : List.take (((p.length : Nat) : Int).toNat - 0) (List.drop 0 (H ++ C)) = H := by
    rw [Int.toNat_natCast, ← lH, Nat.sub_zero, List.drop_zero, List.take_left]
  have eqs : ∀ l : List UInt8, eqB l l = true := fun l => by rw [eqB_iff]; simp
  refine splitNE (fun h => absurd rfl h) fun _ => splitNE (fun h => absurd rfl h) fun _ => ⟨_, rfl, _, rfl, wrapI (by omega) (by omega) (splitNE (fun h => by exfalso; omega) fun _ => ⟨_, rfl, ckI (by rw [lA]; simp) ⟨_, rfl, ?_⟩⟩)⟩
  rw [d2, eqs, Bool.not_true, cond_false]
  rintro t e ⟨ht⟩
  rw [hop C lC, if_pos rfl] at ht
  obtain ⟨rfl, rfl⟩ := Prod.mk.inj ht
  rw [eqs, cond_true]
  refine splitE (fun _ => splitE (fun _ => hq) (fun hc => ?_)) (fun h => absurd rfl h)
  have m1 : Int.tmod k0 16 = ((k0.toNat % 16 : Nat) : Int) := by rw [Int.tmod_eq_emod_of_nonneg (by omega)]; omega
  have m2 : k0.toNat % 16 < 16 := Nat.mod_lt _ (by decide)
  generalize k0.toNat % 16 = m at *
  refine ⟨_, rfl, _, rfl, ?_⟩
  rw [m1]
  refine wrapI (by omega) (by omega) (wrapI (by omega) (by omega) ?_)
  rw [show ((p.length : Int) + (m : Int)).toNat = p.length + m by omega, ofB_len, Nat.zero_add, Nat.mul_one]
  refine ckI (by simp; omega) (ckI (by simp; omega) (ldB (by omega) rfl ⟨_, rfl, ?_⟩))
  have hj : p.length + m < (H ++ C).length := by omega
  generalize hb : (H ++ C).getD (p.length + m) 0 = b
  have hbC : C.getD m 0 = b := by
    rw [← hb, ← lH, List.getD_eq_getElem?_getD, List.getD_eq_getElem?_getD, List.getElem?_append_right (by omega), Nat.add_sub_cancel_left]
  have hxor : IntKind.wrap .u8 (((((b.toNat : Nat) : Int) % 256).toNat ^^^ (c % 256).toNat : Nat) : Int) = ((b ^^^ UInt8.ofNat c.toNat).toNat : Int) := by
    have h1 := b.toNat_lt
    have e1 : (((b.toNat : Nat) : Int) % 256).toNat = b.toNat := by omega
    have e2 : (c % 256).toNat = (UInt8.ofNat c.toNat).toNat := by rw [UInt8.toNat_ofNat']; omega
    rw [e1, e2, u8_wrap, ← UInt8.toNat_xor, Nat.mod_eq_of_lt (UInt8.toNat_lt _)]
  rw [hxor, stB hj rfl, ofB_len, List.length_set]
  have hset : (H ++ C).set (p.length + m) (b ^^^ UInt8.ofNat c.toNat) = H ++ C.set m (b ^^^ UInt8.ofNat c.toNat) := by
    rw [List.set_append_right _ _ (by omega), ← lH, Nat.add_sub_cancel_left]
  have hne : ¬ C.set m (b ^^^ UInt8.ofNat c.toNat) = C := fun h => by
    have h2 : (C.set m (b ^^^ UInt8.ofNat c.toNat)).getD m 0 = C.getD m 0 := by rw [h]
    rw [hbC, List.getD_eq_getElem?_getD, List.getElem?_set_self (by omega), Option.getD_some] at h2
    have h3 : UInt8.ofNat c.toNat = 0 := by
      have : b ^^^ (b ^^^ UInt8.ofNat c.toNat) = b ^^^ b := by rw [h2]
      rw [← UInt8.xor_assoc, UInt8.xor_self, UInt8.zero_xor] at this
      exact this
    have h4 : (UInt8.ofNat c.toNat).toNat = 0 := by rw [h3]; rfl
    rw [UInt8.toNat_ofNat'] at h4
    omega
  have hold := oldL_ofB (H ++ C)
  refine ckI (by simp; omega) (ckI (by simp; omega) (ckI (by rw [allU8_take]; simp) ⟨_, rfl, ckI ?_ ?_⟩))
  · rw [List.drop_zero, List.take_of_length_le (by rw [ofB_len, List.length_set]; omega), eqAVL_ofB]
    simp
  rintro t e ⟨ht⟩
  rw [strB (by rw [List.length_set]) rfl, hset, hop _ (by rw [List.length_set]; exact lC), if_neg hne] at ht
  obtain ⟨rfl, rfl⟩ := Prod.mk.inj ht
  rw [eqs, cond_true, hold]
  exact splitE (fun _ => ⟨by simp, hq⟩) (fun h => absurd rfl h)
end Go.Proofs.Ytlfbaakndklncaa

/-
  Chapter 24: ControlAll's run, with steps.
-/
import Derived.Test.YtafchcmemeinlaaDoorC24K
set_option linter.unusedSimpArgs false
set_option linter.unusedVariables false
namespace Go.Proofs.YtafchcmemeinlaaDoor
open Go.RowKit
set_option maxRecDepth 1000000

/-- some steps -/
def preB (f : Int) (ks : List Int) : List Blk := [⟨.exact, true, [.int .i64 f]⟩, ⟨.grow, true, cellsI (lM f ks)⟩]
def vB (ks : List Int) : AV := .sl 1 (ks.length + 1) 0 (ks.length + 1) 1
noncomputable def env_6b (hv : Nat → Option Pa) (hb : Nat → Option Bool) (f : Int) (ks : List Int) (ps : List (Int × Int)) : Env := e24 smK (fun i => bif Nat.beq i 6000 then some (fun _ => [[invA_60 f ks, invB_60 f ks]]) else bif Nat.beq i 6002 then some (fun _ => [[invA_62 (preB f ks) (vB ks) ps, invB_62 (preB f ks) 2 (vB ks) ps]]) else bif Nat.beq i 6004 then some (inv_64 (preB f ks) 2 (vB ks) ps) else none) hv hb
noncomputable def goal_6b (hv : Nat → Option Pa) (hb : Nat → Option Bool) (f : Int) (kk ks : List Int) (ps : List (Int × Int)) : Prop :=
  callx (env_6b hv hb f ks ps) (wpx (env_6b hv hb f ks ps) 1000) 6 [.int .u16 f, .lst 0 (cells8M kk) kk.length 1] [] {} isT
theorem vc_6b (f : Int) (kk : List Int) (ks : List Int) (ps : List (Int × Int)) : goal_6b (lookV [(24594, .int .i64), (24599, .int .i64), (24600, .int .i64), (24602, .int .i64), (24606, .int .u8), (24608, .int .i64), (24610, .int .u8), (24611, .int .i64), (24612, .int .i64), (24613, .int .i64), (24623, .int .i64), (24628, .int .i64), (24633, .int .i64), (24639, .int .i64), (24644, .agg [.int .i64, .int .i64]), (24678, .int .i64), (24680, .int .i64), (24682, .int .i64), (24683, .int .i64), (24687, .int .i64), (24688, .int .i64), (24690, .int .i64), (24691, .int .i64), (24694, .int .i64), (24642, .int .i64), (24652, .int .i64), (24655, .int .i64), (24656, .int .i64), (24657, .int .i64), (24658, .int .i64), (24695, .int .i64), (24607, .int .i64), (24618, .int .i64), (24635, .int .i64)]) (lookB []) f kk ks ps = (
(∃ n_0 : Int, (((AV.int IntKind.i64 (IntKind.wrap IntKind.i64 f)) = (AV.int IntKind.i64 n_0)) ∧
 (∃ n_1 : Int, (((AV.int IntKind.i64 (Nat.cast (List.length kk) : Int)) = (AV.int IntKind.i64 n_1)) ∧
 (∃ n_2 : Int, (((AV.int IntKind.i64 (imin n_1 (63 : Int))) = (AV.int IntKind.i64 n_2)) ∧
 (bif ((((decide ((0 : Int) ≤ n_2)) && Bool.true) && (Nat.ble (Int.toNat n_2) (List.length kk))) && Bool.true) then (∃ n_3 : Int, (((AV.int IntKind.i64 (Nat.cast ((Int.toNat n_2) - (0 : Nat)) : Int)) = (AV.int IntKind.i64 n_3)) ∧
 (((∃ x_4 : Nat, ((Lf True) ∧
 ((((AV.int IntKind.i64 n_0) :: []) = ((AV.int IntKind.i64 f) :: [])) ∧
 (((AV.int IntKind.i64 (0 : Int)) = (AV.int IntKind.i64 (0 : Int))) ∧
 (((AV.int IntKind.i64 n_0) = (AV.int IntKind.i64 f)) ∧
 (((AV.lst (0 : Nat) (List.take (((Int.toNat n_2) - (0 : Nat)) * (1 : Nat)) (List.drop (0 : Nat) (cells8M kk))) ((Int.toNat n_2) - (0 : Nat)) (1 : Nat)) = (AV.lst (0 : Nat) (cells8M ks) (List.length ks) (1 : Nat))) ∧
 (((AV.sl (0 : Nat) (1 : Nat) (0 : Nat) (1 : Nat) (1 : Nat)) = (AV.sl (0 : Nat) (1 : Nat) (0 : Nat) (1 : Nat) (1 : Nat))) ∧
 (((AV.int IntKind.i64 n_3) = (AV.int IntKind.i64 (Nat.cast (List.length ks) : Int))) ∧
 True)))))))) ∨
 (∃ x_4 : Nat, ((Lf (((1 : Nat) ≤ x_4) ∧
 (x_4 ≤ (List.length ks)))) ∧
 ((((AV.int IntKind.i64 n_0) :: []) = ((AV.int IntKind.i64 f) :: [])) ∧
 False)))) ∧
 ((Nat →
((Lf True) →
(bif (decide ((0 : Int) < (Nat.cast (List.length ks) : Int))) then (bif ((Nat.blt (0 : Nat) (List.length ks)) && Bool.true) then (bif (Nat.blt (0 : Nat) (List.length (cells8M ks))) then (∃ n_4 : Int, (((List.getD (cells8M ks) (0 : Nat) AV.undef) = (AV.int IntKind.u8 n_4)) ∧
 (∃ n_5 : Int, (((AV.int IntKind.i64 f) = (AV.int IntKind.i64 n_5)) ∧
 (∃ n_6 : Int, (((AV.int IntKind.i64 (IntKind.wrap IntKind.i64 (n_5 + (1 : Int)))) = (AV.int IntKind.i64 n_6)) ∧
 (∃ n_7 : Int, (((AV.int IntKind.u8 (Int.tmod n_4 (24 : Int))) = (AV.int IntKind.u8 n_7)) ∧
 (∃ n_8 : Int, (((AV.int IntKind.i64 (IntKind.wrap IntKind.i64 n_7)) = (AV.int IntKind.i64 n_8)) ∧
 (∃ n_9 : Int, (((AV.int IntKind.i64 (IntKind.wrap IntKind.i64 (n_6 + n_8))) = (AV.int IntKind.i64 n_9)) ∧
 (∃ n_10 : Int, (((AV.int IntKind.i64 (Int.tmod n_9 (65536 : Int))) = (AV.int IntKind.i64 n_10)) ∧
 (∃ n_11 : Int, (((AV.int IntKind.i64 (1 : Int)) = (AV.int IntKind.i64 n_11)) ∧
 ((True ∧
 ((0 : Nat) = (0 : Nat))) ∧
 ((∃ y_12 : Nat, ((Lf True) ∧
 ((((List.length ks) + (1 : Nat)) < ((List.length ks) + (1 : Nat))) ∧
 ((((AV.int IntKind.i64 f) :: []) = ((AV.int IntKind.i64 f) :: [])) ∧
 False)))) ∨
 (∃ y_12 : Nat, ((Lf (((1 : Nat) ≤ y_12) ∧
 (y_12 ≤ (List.length ks)))) ∧
 ((((List.length ks) - y_12) < ((List.length ks) + (1 : Nat))) ∧
 ((((AV.int IntKind.i64 f) :: []) = ((AV.int IntKind.i64 f) :: [])) ∧
 ((((AV.int IntKind.i64 f) :: ((AV.int IntKind.i64 n_10) :: [])) = (cellsI (lM f (List.take y_12 ks)))) ∧
 (((AV.int IntKind.i64 n_11) = (AV.int IntKind.i64 (Nat.cast y_12 : Int))) ∧
 (((AV.int IntKind.i64 n_10) = (AV.int IntKind.i64 (atM f (List.take y_12 ks)))) ∧
 (((AV.lst (0 : Nat) (cells8M ks) (List.length ks) (1 : Nat)) = (AV.lst (0 : Nat) (cells8M ks) (List.length ks) (1 : Nat))) ∧
 (((AV.sl (1 : Nat) (2 : Nat) (0 : Nat) (2 : Nat) (1 : Nat)) = (AV.sl (1 : Nat) (y_12 + (1 : Nat)) (0 : Nat) (y_12 + (1 : Nat)) (1 : Nat))) ∧
 (((AV.int IntKind.i64 (Nat.cast (List.length ks) : Int)) = (AV.int IntKind.i64 (Nat.cast (List.length ks) : Int))) ∧
 True))))))))))))))))))))))))))))
else False)
else False)
else (∃ xs_4 : (List Int), ((Lf ((((AV.int IntKind.i64 f) :: []) = (cellsI xs_4)) ∧
 (((1 : Nat) = (List.length xs_4)) ∧
 ((List.length xs_4) ≤ (4611686018427387904 : Nat))))) ∧
 (∃ n_5 : Int, (((AV.int IntKind.i64 (pairsNM xs_4)) = (AV.int IntKind.i64 n_5)) ∧
 (bif (n_5 != (0 : Int)) then False
else (∃ n_6 : Int, (((AV.int IntKind.i64 (Nat.cast (List.length (pairsEM xs_4)) : Int)) = (AV.int IntKind.i64 n_6)) ∧
 (bif (decide (n_6 < (1 : Int))) then False
else (∃ n_7 : Int, (((AV.int IntKind.i64 (Nat.cast (List.length (pairsEM xs_4)) : Int)) = (AV.int IntKind.i64 n_7)) ∧
 (∃ n_8 : Int, (((AV.int IntKind.i64 (1 : Int)) = (AV.int IntKind.i64 n_8)) ∧
 (bif (decide (n_7 > n_8)) then False
else (∃ n_9 : Int, (((AV.int IntKind.i64 (Nat.cast (List.length (pairsEM xs_4)) : Int)) = (AV.int IntKind.i64 n_9)) ∧
 (((∃ x_10 : Nat, ((Lf True) ∧
 ((((AV.int IntKind.i64 f) :: []) = ((AV.int IntKind.i64 f) :: [])) ∧
 False))) ∨
 (∃ x_10 : Nat, ((Lf (((1 : Nat) ≤ x_10) ∧
 (x_10 ≤ (List.length ps)))) ∧
 ((((AV.int IntKind.i64 f) :: []) = ((AV.int IntKind.i64 f) :: [])) ∧
 False)))) ∧
 ((Nat →
((Lf True) →
(bif (decide ((0 : Int) < (Nat.cast (List.length ps) : Int))) then (∃ n_10 : Int, (((AV.int IntKind.i64 (0 : Int)) = (AV.int IntKind.i64 n_10)) ∧
 (bif ((Nat.blt (0 : Nat) (List.length ps)) && Bool.true) then (bif (Nat.ble (2 : Nat) (List.length (cellsPM ps))) then (∃ n_11 : Int, (∃ n_12 : Int, (((AV.agg (List.take (2 : Nat) (List.drop (0 : Nat) (cellsPM ps)))) = (AV.agg ((AV.int IntKind.i64 n_11) :: ((AV.int IntKind.i64 n_12) :: [])))) ∧
 (bif (decide (n_10 > (0 : Int))) then (∃ n_13 : Int, (((AV.int IntKind.i64 (IntKind.wrap IntKind.i64 (n_10 - (1 : Int)))) = (AV.int IntKind.i64 n_13)) ∧
 (bif (((decide ((0 : Int) ≤ n_13)) && (Nat.blt (Int.toNat n_13) (List.length ps))) && Bool.true) then (bif (Nat.blt (((Int.toNat n_13) * (2 : Nat)) + (0 : Nat)) (List.length (cellsPM ps))) then (∃ n_14 : Int, (((List.getD (cellsPM ps) (((Int.toNat n_13) * (2 : Nat)) + (0 : Nat)) AV.undef) = (AV.int IntKind.i64 n_14)) ∧
 (∃ n_15 : Int, (((AV.int IntKind.i64 (IntKind.wrap IntKind.i64 (n_11 - n_14))) = (AV.int IntKind.i64 n_15)) ∧
 (∃ n_16 : Int, (((AV.int IntKind.i64 (IntKind.wrap IntKind.i64 (n_15 + (65536 : Int)))) = (AV.int IntKind.i64 n_16)) ∧
 (∃ n_17 : Int, (((AV.int IntKind.i64 (Int.tmod n_16 (65536 : Int))) = (AV.int IntKind.i64 n_17)) ∧
 (bif (decide (n_17 ≤ (16 : Int))) then False
else (bif (decide (n_12 < (0 : Int))) then False
else (bif (decide (n_12 > (65535 : Int))) then False
else ((∃ x_18 : Nat, ((Lf (x_18 ≤ (16 : Nat))) ∧
 ((((AV.int IntKind.i64 f) :: []) = ((AV.int IntKind.i64 f) :: [])) ∧
 (((cellsI (lM f ks)) = (cellsI (lM f ks))) ∧
 ((((AV.int IntKind.i64 n_11) :: ((AV.int IntKind.i64 n_12) :: [])) = ((AV.int IntKind.i64 (fstM ps (0 : Nat))) :: ((AV.int IntKind.i64 (sndM ps (0 : Nat))) :: []))) ∧
 ((((AV.int IntKind.i64 n_11) :: []) = (cellsI (decM (fstM ps (0 : Nat)) (sndM ps (0 : Nat)) x_18))) ∧
 (((AV.int IntKind.i64 (Nat.cast (List.length ps) : Int)) = (AV.int IntKind.i64 (Nat.cast (List.length ps) : Int))) ∧
 (((AV.sl (3 : Nat) (1 : Nat) (0 : Nat) (1 : Nat) (1 : Nat)) = (AV.sl (3 : Nat) (List.length (decM (fstM ps (0 : Nat)) (sndM ps (0 : Nat)) x_18)) (0 : Nat) (List.length (decM (fstM ps (0 : Nat)) (sndM ps (0 : Nat)) x_18)) (1 : Nat))) ∧
 (((AV.lst (0 : Nat) (cellsPM ps) (List.length ps) (2 : Nat)) = (AV.lst (0 : Nat) (cellsPM ps) (List.length ps) (2 : Nat))) ∧
 (((AV.ptr (2 : Nat) (2 : Nat) (0 : Nat)) = (AV.ptr (2 : Nat) (2 : Nat) (0 : Nat))) ∧
 (((AV.int IntKind.i64 (0 : Int)) = (AV.int IntKind.i64 (0 : Int))) ∧
 (((AV.int IntKind.i64 (0 : Int)) = (AV.int IntKind.i64 (Nat.cast x_18 : Int))) ∧
 (((AV.sl (1 : Nat) ((List.length ks) + (1 : Nat)) (0 : Nat) ((List.length ks) + (1 : Nat)) (1 : Nat)) = (AV.sl (1 : Nat) ((List.length ks) + (1 : Nat)) (0 : Nat) ((List.length ks) + (1 : Nat)) (1 : Nat))) ∧
 (((AV.lst (0 : Nat) (cellsPM ps) (List.length ps) (2 : Nat)) = (AV.lst (0 : Nat) (cellsPM ps) (List.length ps) (2 : Nat))) ∧
 True)))))))))))))) ∧
 (∀ x_18 : Nat, ((Lf (x_18 ≤ (16 : Nat))) →
(bif (decide ((Nat.cast x_18 : Int) < (16 : Int))) then (∃ n_19 : Int, (((AV.int IntKind.i64 (Nat.cast x_18 : Int)) = (AV.int IntKind.i64 n_19)) ∧
 (∃ n_20 : Int, (((AV.int IntKind.i64 (sndM ps (0 : Nat))) = (AV.int IntKind.i64 n_20)) ∧
 (bif ((decide ((0 : Int) ≤ n_19)) && Bool.true) then (∃ n_21 : Int, (((AV.int IntKind.i64 (Int.fdiv n_20 ((2 : Int) ^ (Min.min (Int.toNat n_19) (64 : Nat))))) = (AV.int IntKind.i64 n_21)) ∧
 (∃ n_22 : Int, (((AV.int IntKind.i64 (IntKind.wrap IntKind.i64 (Nat.cast ((Int.toNat (n_21 % (18446744073709551616 : Int))) &&& (1 : Nat)) : Int))) = (AV.int IntKind.i64 n_22)) ∧
 (bif (n_22 == (1 : Int)) then (∃ n_23 : Int, (((AV.int IntKind.i64 (fstM ps (0 : Nat))) = (AV.int IntKind.i64 n_23)) ∧
 (∃ n_24 : Int, (((AV.int IntKind.i64 (IntKind.wrap IntKind.i64 (n_23 + (1 : Int)))) = (AV.int IntKind.i64 n_24)) ∧
 (∃ n_25 : Int, (((AV.int IntKind.i64 (IntKind.wrap IntKind.i64 (n_24 + n_19))) = (AV.int IntKind.i64 n_25)) ∧
 (∃ n_26 : Int, (((AV.int IntKind.i64 (Int.tmod n_25 (65536 : Int))) = (AV.int IntKind.i64 n_26)) ∧
 (bif (((((Nat.beq (List.length (cellsI (decM (fstM ps (0 : Nat)) (sndM ps (0 : Nat)) x_18))) (List.length (decM (fstM ps (0 : Nat)) (sndM ps (0 : Nat)) x_18))) && Bool.true) && (Nat.beq ((0 : Nat) + ((List.length (decM (fstM ps (0 : Nat)) (sndM ps (0 : Nat)) x_18)) * (1 : Nat))) (List.length (decM (fstM ps (0 : Nat)) (sndM ps (0 : Nat)) x_18)))) && (Nat.ble ((List.length (decM (fstM ps (0 : Nat)) (sndM ps (0 : Nat)) x_18)) + (1 : Nat)) (1099511627776 : Nat))) && (Nat.ble (((List.length (decM (fstM ps (0 : Nat)) (sndM ps (0 : Nat)) x_18)) + (1 : Nat)) * (8 : Nat)) (1099511627776 : Nat))) then (∃ n_27 : Int, (((AV.int IntKind.i64 (IntKind.wrap IntKind.i64 ((Nat.cast x_18 : Int) + (1 : Int)))) = (AV.int IntKind.i64 n_27)) ∧
 ((True ∧
 ((0 : Nat) = (0 : Nat))) ∧
 (∃ y_28 : Nat, ((Lf (y_28 ≤ (16 : Nat))) ∧
 ((((16 : Nat) - y_28) < ((16 : Nat) - x_18)) ∧
 ((((AV.int IntKind.i64 f) :: []) = ((AV.int IntKind.i64 f) :: [])) ∧
 (((cellsI (lM f ks)) = (cellsI (lM f ks))) ∧
 ((((AV.int IntKind.i64 (fstM ps (0 : Nat))) :: ((AV.int IntKind.i64 (sndM ps (0 : Nat))) :: [])) = ((AV.int IntKind.i64 (fstM ps (0 : Nat))) :: ((AV.int IntKind.i64 (sndM ps (0 : Nat))) :: []))) ∧
 ((((cellsI (decM (fstM ps (0 : Nat)) (sndM ps (0 : Nat)) x_18)) ++ ((AV.int IntKind.i64 n_26) :: [])) = (cellsI (decM (fstM ps (0 : Nat)) (sndM ps (0 : Nat)) y_28))) ∧
 (((AV.int IntKind.i64 (Nat.cast (List.length ps) : Int)) = (AV.int IntKind.i64 (Nat.cast (List.length ps) : Int))) ∧
 (((AV.sl (3 : Nat) ((List.length (decM (fstM ps (0 : Nat)) (sndM ps (0 : Nat)) x_18)) + (1 : Nat)) (0 : Nat) ((List.length (decM (fstM ps (0 : Nat)) (sndM ps (0 : Nat)) x_18)) + (1 : Nat)) (1 : Nat)) = (AV.sl (3 : Nat) (List.length (decM (fstM ps (0 : Nat)) (sndM ps (0 : Nat)) y_28)) (0 : Nat) (List.length (decM (fstM ps (0 : Nat)) (sndM ps (0 : Nat)) y_28)) (1 : Nat))) ∧
 (((AV.lst (0 : Nat) (cellsPM ps) (List.length ps) (2 : Nat)) = (AV.lst (0 : Nat) (cellsPM ps) (List.length ps) (2 : Nat))) ∧
 (((AV.ptr (2 : Nat) (2 : Nat) (0 : Nat)) = (AV.ptr (2 : Nat) (2 : Nat) (0 : Nat))) ∧
 (((AV.int IntKind.i64 (0 : Int)) = (AV.int IntKind.i64 (0 : Int))) ∧
 (((AV.int IntKind.i64 n_27) = (AV.int IntKind.i64 (Nat.cast y_28 : Int))) ∧
 (((AV.sl (1 : Nat) ((List.length ks) + (1 : Nat)) (0 : Nat) ((List.length ks) + (1 : Nat)) (1 : Nat)) = (AV.sl (1 : Nat) ((List.length ks) + (1 : Nat)) (0 : Nat) ((List.length ks) + (1 : Nat)) (1 : Nat))) ∧
 (((AV.lst (0 : Nat) (cellsPM ps) (List.length ps) (2 : Nat)) = (AV.lst (0 : Nat) (cellsPM ps) (List.length ps) (2 : Nat))) ∧
 True))))))))))))))))))
else False)))))))))
else (∃ n_23 : Int, (((AV.int IntKind.i64 (IntKind.wrap IntKind.i64 ((Nat.cast x_18 : Int) + (1 : Int)))) = (AV.int IntKind.i64 n_23)) ∧
 ((True ∧
 ((0 : Nat) = (0 : Nat))) ∧
 (∃ y_24 : Nat, ((Lf (y_24 ≤ (16 : Nat))) ∧
 ((((16 : Nat) - y_24) < ((16 : Nat) - x_18)) ∧
 ((((AV.int IntKind.i64 f) :: []) = ((AV.int IntKind.i64 f) :: [])) ∧
 (((cellsI (lM f ks)) = (cellsI (lM f ks))) ∧
 ((((AV.int IntKind.i64 (fstM ps (0 : Nat))) :: ((AV.int IntKind.i64 (sndM ps (0 : Nat))) :: [])) = ((AV.int IntKind.i64 (fstM ps (0 : Nat))) :: ((AV.int IntKind.i64 (sndM ps (0 : Nat))) :: []))) ∧
 (((cellsI (decM (fstM ps (0 : Nat)) (sndM ps (0 : Nat)) x_18)) = (cellsI (decM (fstM ps (0 : Nat)) (sndM ps (0 : Nat)) y_24))) ∧
 (((AV.int IntKind.i64 (Nat.cast (List.length ps) : Int)) = (AV.int IntKind.i64 (Nat.cast (List.length ps) : Int))) ∧
 (((AV.sl (3 : Nat) (List.length (decM (fstM ps (0 : Nat)) (sndM ps (0 : Nat)) x_18)) (0 : Nat) (List.length (decM (fstM ps (0 : Nat)) (sndM ps (0 : Nat)) x_18)) (1 : Nat)) = (AV.sl (3 : Nat) (List.length (decM (fstM ps (0 : Nat)) (sndM ps (0 : Nat)) y_24)) (0 : Nat) (List.length (decM (fstM ps (0 : Nat)) (sndM ps (0 : Nat)) y_24)) (1 : Nat))) ∧
 (((AV.lst (0 : Nat) (cellsPM ps) (List.length ps) (2 : Nat)) = (AV.lst (0 : Nat) (cellsPM ps) (List.length ps) (2 : Nat))) ∧
 (((AV.ptr (2 : Nat) (2 : Nat) (0 : Nat)) = (AV.ptr (2 : Nat) (2 : Nat) (0 : Nat))) ∧
 (((AV.int IntKind.i64 (0 : Int)) = (AV.int IntKind.i64 (0 : Int))) ∧
 (((AV.int IntKind.i64 n_23) = (AV.int IntKind.i64 (Nat.cast y_24 : Int))) ∧
 (((AV.sl (1 : Nat) ((List.length ks) + (1 : Nat)) (0 : Nat) ((List.length ks) + (1 : Nat)) (1 : Nat)) = (AV.sl (1 : Nat) ((List.length ks) + (1 : Nat)) (0 : Nat) ((List.length ks) + (1 : Nat)) (1 : Nat))) ∧
 (((AV.lst (0 : Nat) (cellsPM ps) (List.length ps) (2 : Nat)) = (AV.lst (0 : Nat) (cellsPM ps) (List.length ps) (2 : Nat))) ∧
 True)))))))))))))))))))))))
else False)))))
else (∃ n_19 : Int, (((AV.int IntKind.i64 (1 : Int)) = (AV.int IntKind.i64 n_19)) ∧
 ((True ∧
 ((0 : Nat) = (0 : Nat))) ∧
 ((∃ y_20 : Nat, ((Lf True) ∧
 ((((List.length ps) + (1 : Nat)) < ((List.length ps) + (1 : Nat))) ∧
 ((((AV.int IntKind.i64 f) :: []) = ((AV.int IntKind.i64 f) :: [])) ∧
 (((cellsI (lM f ks)) = (cellsI (lM f ks))) ∧
 False))))) ∨
 (∃ y_20 : Nat, ((Lf (((1 : Nat) ≤ y_20) ∧
 (y_20 ≤ (List.length ps)))) ∧
 ((((List.length ps) - y_20) < ((List.length ps) + (1 : Nat))) ∧
 ((((AV.int IntKind.i64 f) :: []) = ((AV.int IntKind.i64 f) :: [])) ∧
 (((cellsI (lM f ks)) = (cellsI (lM f ks))) ∧
 ((((AV.int IntKind.i64 (fstM ps (0 : Nat))) :: ((AV.int IntKind.i64 (sndM ps (0 : Nat))) :: [])) = ((AV.int IntKind.i64 (fstM ps (0 : Nat))) :: ((AV.int IntKind.i64 (sndM ps (0 : Nat))) :: []))) ∧
 (((cellsI (decM (fstM ps (0 : Nat)) (sndM ps (0 : Nat)) x_18)) = (cellsI (allM (List.take y_20 ps)))) ∧
 (((AV.int IntKind.i64 (Nat.cast (List.length ps) : Int)) = (AV.int IntKind.i64 (Nat.cast (List.length ps) : Int))) ∧
 (((AV.sl (3 : Nat) (List.length (decM (fstM ps (0 : Nat)) (sndM ps (0 : Nat)) x_18)) (0 : Nat) (List.length (decM (fstM ps (0 : Nat)) (sndM ps (0 : Nat)) x_18)) (1 : Nat)) = (AV.sl (3 : Nat) (List.length (allM (List.take y_20 ps))) (0 : Nat) (List.length (allM (List.take y_20 ps))) (1 : Nat))) ∧
 (((AV.lst (0 : Nat) (cellsPM ps) (List.length ps) (2 : Nat)) = (AV.lst (0 : Nat) (cellsPM ps) (List.length ps) (2 : Nat))) ∧
 (((AV.int IntKind.i64 n_19) = (AV.int IntKind.i64 (Nat.cast y_20 : Int))) ∧
 (((AV.sl (1 : Nat) ((List.length ks) + (1 : Nat)) (0 : Nat) ((List.length ks) + (1 : Nat)) (1 : Nat)) = (AV.sl (1 : Nat) ((List.length ks) + (1 : Nat)) (0 : Nat) ((List.length ks) + (1 : Nat)) (1 : Nat))) ∧
 (((AV.lst (0 : Nat) (cellsPM ps) (List.length ps) (2 : Nat)) = (AV.lst (0 : Nat) (cellsPM ps) (List.length ps) (2 : Nat))) ∧
 True))))))))))))))))))))))))))))))))
else False)
else False)))
else (bif (decide (n_12 < (0 : Int))) then False
else (bif (decide (n_12 > (65535 : Int))) then False
else ((∃ x_13 : Nat, ((Lf (x_13 ≤ (16 : Nat))) ∧
 ((((AV.int IntKind.i64 f) :: []) = ((AV.int IntKind.i64 f) :: [])) ∧
 (((cellsI (lM f ks)) = (cellsI (lM f ks))) ∧
 ((((AV.int IntKind.i64 n_11) :: ((AV.int IntKind.i64 n_12) :: [])) = ((AV.int IntKind.i64 (fstM ps (0 : Nat))) :: ((AV.int IntKind.i64 (sndM ps (0 : Nat))) :: []))) ∧
 ((((AV.int IntKind.i64 n_11) :: []) = (cellsI (decM (fstM ps (0 : Nat)) (sndM ps (0 : Nat)) x_13))) ∧
 (((AV.int IntKind.i64 (Nat.cast (List.length ps) : Int)) = (AV.int IntKind.i64 (Nat.cast (List.length ps) : Int))) ∧
 (((AV.sl (3 : Nat) (1 : Nat) (0 : Nat) (1 : Nat) (1 : Nat)) = (AV.sl (3 : Nat) (List.length (decM (fstM ps (0 : Nat)) (sndM ps (0 : Nat)) x_13)) (0 : Nat) (List.length (decM (fstM ps (0 : Nat)) (sndM ps (0 : Nat)) x_13)) (1 : Nat))) ∧
 (((AV.lst (0 : Nat) (cellsPM ps) (List.length ps) (2 : Nat)) = (AV.lst (0 : Nat) (cellsPM ps) (List.length ps) (2 : Nat))) ∧
 (((AV.ptr (2 : Nat) (2 : Nat) (0 : Nat)) = (AV.ptr (2 : Nat) (2 : Nat) (0 : Nat))) ∧
 (((AV.int IntKind.i64 (0 : Int)) = (AV.int IntKind.i64 (0 : Int))) ∧
 (((AV.int IntKind.i64 (0 : Int)) = (AV.int IntKind.i64 (Nat.cast x_13 : Int))) ∧
 (((AV.sl (1 : Nat) ((List.length ks) + (1 : Nat)) (0 : Nat) ((List.length ks) + (1 : Nat)) (1 : Nat)) = (AV.sl (1 : Nat) ((List.length ks) + (1 : Nat)) (0 : Nat) ((List.length ks) + (1 : Nat)) (1 : Nat))) ∧
 (((AV.lst (0 : Nat) (cellsPM ps) (List.length ps) (2 : Nat)) = (AV.lst (0 : Nat) (cellsPM ps) (List.length ps) (2 : Nat))) ∧
 True)))))))))))))) ∧
 (∀ x_13 : Nat, ((Lf (x_13 ≤ (16 : Nat))) →
(bif (decide ((Nat.cast x_13 : Int) < (16 : Int))) then (∃ n_14 : Int, (((AV.int IntKind.i64 (Nat.cast x_13 : Int)) = (AV.int IntKind.i64 n_14)) ∧
 (∃ n_15 : Int, (((AV.int IntKind.i64 (sndM ps (0 : Nat))) = (AV.int IntKind.i64 n_15)) ∧
 (bif ((decide ((0 : Int) ≤ n_14)) && Bool.true) then (∃ n_16 : Int, (((AV.int IntKind.i64 (Int.fdiv n_15 ((2 : Int) ^ (Min.min (Int.toNat n_14) (64 : Nat))))) = (AV.int IntKind.i64 n_16)) ∧
 (∃ n_17 : Int, (((AV.int IntKind.i64 (IntKind.wrap IntKind.i64 (Nat.cast ((Int.toNat (n_16 % (18446744073709551616 : Int))) &&& (1 : Nat)) : Int))) = (AV.int IntKind.i64 n_17)) ∧
 (bif (n_17 == (1 : Int)) then (∃ n_18 : Int, (((AV.int IntKind.i64 (fstM ps (0 : Nat))) = (AV.int IntKind.i64 n_18)) ∧
 (∃ n_19 : Int, (((AV.int IntKind.i64 (IntKind.wrap IntKind.i64 (n_18 + (1 : Int)))) = (AV.int IntKind.i64 n_19)) ∧
 (∃ n_20 : Int, (((AV.int IntKind.i64 (IntKind.wrap IntKind.i64 (n_19 + n_14))) = (AV.int IntKind.i64 n_20)) ∧
 (∃ n_21 : Int, (((AV.int IntKind.i64 (Int.tmod n_20 (65536 : Int))) = (AV.int IntKind.i64 n_21)) ∧
 (bif (((((Nat.beq (List.length (cellsI (decM (fstM ps (0 : Nat)) (sndM ps (0 : Nat)) x_13))) (List.length (decM (fstM ps (0 : Nat)) (sndM ps (0 : Nat)) x_13))) && Bool.true) && (Nat.beq ((0 : Nat) + ((List.length (decM (fstM ps (0 : Nat)) (sndM ps (0 : Nat)) x_13)) * (1 : Nat))) (List.length (decM (fstM ps (0 : Nat)) (sndM ps (0 : Nat)) x_13)))) && (Nat.ble ((List.length (decM (fstM ps (0 : Nat)) (sndM ps (0 : Nat)) x_13)) + (1 : Nat)) (1099511627776 : Nat))) && (Nat.ble (((List.length (decM (fstM ps (0 : Nat)) (sndM ps (0 : Nat)) x_13)) + (1 : Nat)) * (8 : Nat)) (1099511627776 : Nat))) then (∃ n_22 : Int, (((AV.int IntKind.i64 (IntKind.wrap IntKind.i64 ((Nat.cast x_13 : Int) + (1 : Int)))) = (AV.int IntKind.i64 n_22)) ∧
 ((True ∧
 ((0 : Nat) = (0 : Nat))) ∧
 (∃ y_23 : Nat, ((Lf (y_23 ≤ (16 : Nat))) ∧
 ((((16 : Nat) - y_23) < ((16 : Nat) - x_13)) ∧
 ((((AV.int IntKind.i64 f) :: []) = ((AV.int IntKind.i64 f) :: [])) ∧
 (((cellsI (lM f ks)) = (cellsI (lM f ks))) ∧
 ((((AV.int IntKind.i64 (fstM ps (0 : Nat))) :: ((AV.int IntKind.i64 (sndM ps (0 : Nat))) :: [])) = ((AV.int IntKind.i64 (fstM ps (0 : Nat))) :: ((AV.int IntKind.i64 (sndM ps (0 : Nat))) :: []))) ∧
 ((((cellsI (decM (fstM ps (0 : Nat)) (sndM ps (0 : Nat)) x_13)) ++ ((AV.int IntKind.i64 n_21) :: [])) = (cellsI (decM (fstM ps (0 : Nat)) (sndM ps (0 : Nat)) y_23))) ∧
 (((AV.int IntKind.i64 (Nat.cast (List.length ps) : Int)) = (AV.int IntKind.i64 (Nat.cast (List.length ps) : Int))) ∧
 (((AV.sl (3 : Nat) ((List.length (decM (fstM ps (0 : Nat)) (sndM ps (0 : Nat)) x_13)) + (1 : Nat)) (0 : Nat) ((List.length (decM (fstM ps (0 : Nat)) (sndM ps (0 : Nat)) x_13)) + (1 : Nat)) (1 : Nat)) = (AV.sl (3 : Nat) (List.length (decM (fstM ps (0 : Nat)) (sndM ps (0 : Nat)) y_23)) (0 : Nat) (List.length (decM (fstM ps (0 : Nat)) (sndM ps (0 : Nat)) y_23)) (1 : Nat))) ∧
 (((AV.lst (0 : Nat) (cellsPM ps) (List.length ps) (2 : Nat)) = (AV.lst (0 : Nat) (cellsPM ps) (List.length ps) (2 : Nat))) ∧
 (((AV.ptr (2 : Nat) (2 : Nat) (0 : Nat)) = (AV.ptr (2 : Nat) (2 : Nat) (0 : Nat))) ∧
 (((AV.int IntKind.i64 (0 : Int)) = (AV.int IntKind.i64 (0 : Int))) ∧
 (((AV.int IntKind.i64 n_22) = (AV.int IntKind.i64 (Nat.cast y_23 : Int))) ∧
 (((AV.sl (1 : Nat) ((List.length ks) + (1 : Nat)) (0 : Nat) ((List.length ks) + (1 : Nat)) (1 : Nat)) = (AV.sl (1 : Nat) ((List.length ks) + (1 : Nat)) (0 : Nat) ((List.length ks) + (1 : Nat)) (1 : Nat))) ∧
 (((AV.lst (0 : Nat) (cellsPM ps) (List.length ps) (2 : Nat)) = (AV.lst (0 : Nat) (cellsPM ps) (List.length ps) (2 : Nat))) ∧
 True))))))))))))))))))
else False)))))))))
else (∃ n_18 : Int, (((AV.int IntKind.i64 (IntKind.wrap IntKind.i64 ((Nat.cast x_13 : Int) + (1 : Int)))) = (AV.int IntKind.i64 n_18)) ∧
 ((True ∧
 ((0 : Nat) = (0 : Nat))) ∧
 (∃ y_19 : Nat, ((Lf (y_19 ≤ (16 : Nat))) ∧
 ((((16 : Nat) - y_19) < ((16 : Nat) - x_13)) ∧
 ((((AV.int IntKind.i64 f) :: []) = ((AV.int IntKind.i64 f) :: [])) ∧
 (((cellsI (lM f ks)) = (cellsI (lM f ks))) ∧
 ((((AV.int IntKind.i64 (fstM ps (0 : Nat))) :: ((AV.int IntKind.i64 (sndM ps (0 : Nat))) :: [])) = ((AV.int IntKind.i64 (fstM ps (0 : Nat))) :: ((AV.int IntKind.i64 (sndM ps (0 : Nat))) :: []))) ∧
 (((cellsI (decM (fstM ps (0 : Nat)) (sndM ps (0 : Nat)) x_13)) = (cellsI (decM (fstM ps (0 : Nat)) (sndM ps (0 : Nat)) y_19))) ∧
 (((AV.int IntKind.i64 (Nat.cast (List.length ps) : Int)) = (AV.int IntKind.i64 (Nat.cast (List.length ps) : Int))) ∧
 (((AV.sl (3 : Nat) (List.length (decM (fstM ps (0 : Nat)) (sndM ps (0 : Nat)) x_13)) (0 : Nat) (List.length (decM (fstM ps (0 : Nat)) (sndM ps (0 : Nat)) x_13)) (1 : Nat)) = (AV.sl (3 : Nat) (List.length (decM (fstM ps (0 : Nat)) (sndM ps (0 : Nat)) y_19)) (0 : Nat) (List.length (decM (fstM ps (0 : Nat)) (sndM ps (0 : Nat)) y_19)) (1 : Nat))) ∧
 (((AV.lst (0 : Nat) (cellsPM ps) (List.length ps) (2 : Nat)) = (AV.lst (0 : Nat) (cellsPM ps) (List.length ps) (2 : Nat))) ∧
 (((AV.ptr (2 : Nat) (2 : Nat) (0 : Nat)) = (AV.ptr (2 : Nat) (2 : Nat) (0 : Nat))) ∧
 (((AV.int IntKind.i64 (0 : Int)) = (AV.int IntKind.i64 (0 : Int))) ∧
 (((AV.int IntKind.i64 n_18) = (AV.int IntKind.i64 (Nat.cast y_19 : Int))) ∧
 (((AV.sl (1 : Nat) ((List.length ks) + (1 : Nat)) (0 : Nat) ((List.length ks) + (1 : Nat)) (1 : Nat)) = (AV.sl (1 : Nat) ((List.length ks) + (1 : Nat)) (0 : Nat) ((List.length ks) + (1 : Nat)) (1 : Nat))) ∧
 (((AV.lst (0 : Nat) (cellsPM ps) (List.length ps) (2 : Nat)) = (AV.lst (0 : Nat) (cellsPM ps) (List.length ps) (2 : Nat))) ∧
 True)))))))))))))))))))))))
else False)))))
else (∃ n_14 : Int, (((AV.int IntKind.i64 (1 : Int)) = (AV.int IntKind.i64 n_14)) ∧
 ((True ∧
 ((0 : Nat) = (0 : Nat))) ∧
 ((∃ y_15 : Nat, ((Lf True) ∧
 ((((List.length ps) + (1 : Nat)) < ((List.length ps) + (1 : Nat))) ∧
 ((((AV.int IntKind.i64 f) :: []) = ((AV.int IntKind.i64 f) :: [])) ∧
 (((cellsI (lM f ks)) = (cellsI (lM f ks))) ∧
 False))))) ∨
 (∃ y_15 : Nat, ((Lf (((1 : Nat) ≤ y_15) ∧
 (y_15 ≤ (List.length ps)))) ∧
 ((((List.length ps) - y_15) < ((List.length ps) + (1 : Nat))) ∧
 ((((AV.int IntKind.i64 f) :: []) = ((AV.int IntKind.i64 f) :: [])) ∧
 (((cellsI (lM f ks)) = (cellsI (lM f ks))) ∧
 ((((AV.int IntKind.i64 (fstM ps (0 : Nat))) :: ((AV.int IntKind.i64 (sndM ps (0 : Nat))) :: [])) = ((AV.int IntKind.i64 (fstM ps (0 : Nat))) :: ((AV.int IntKind.i64 (sndM ps (0 : Nat))) :: []))) ∧
 (((cellsI (decM (fstM ps (0 : Nat)) (sndM ps (0 : Nat)) x_13)) = (cellsI (allM (List.take y_15 ps)))) ∧
 (((AV.int IntKind.i64 (Nat.cast (List.length ps) : Int)) = (AV.int IntKind.i64 (Nat.cast (List.length ps) : Int))) ∧
 (((AV.sl (3 : Nat) (List.length (decM (fstM ps (0 : Nat)) (sndM ps (0 : Nat)) x_13)) (0 : Nat) (List.length (decM (fstM ps (0 : Nat)) (sndM ps (0 : Nat)) x_13)) (1 : Nat)) = (AV.sl (3 : Nat) (List.length (allM (List.take y_15 ps))) (0 : Nat) (List.length (allM (List.take y_15 ps))) (1 : Nat))) ∧
 (((AV.lst (0 : Nat) (cellsPM ps) (List.length ps) (2 : Nat)) = (AV.lst (0 : Nat) (cellsPM ps) (List.length ps) (2 : Nat))) ∧
 (((AV.int IntKind.i64 n_14) = (AV.int IntKind.i64 (Nat.cast y_15 : Int))) ∧
 (((AV.sl (1 : Nat) ((List.length ks) + (1 : Nat)) (0 : Nat) ((List.length ks) + (1 : Nat)) (1 : Nat)) = (AV.sl (1 : Nat) ((List.length ks) + (1 : Nat)) (0 : Nat) ((List.length ks) + (1 : Nat)) (1 : Nat))) ∧
 (((AV.lst (0 : Nat) (cellsPM ps) (List.length ps) (2 : Nat)) = (AV.lst (0 : Nat) (cellsPM ps) (List.length ps) (2 : Nat))) ∧
 True)))))))))))))))))))))))))))
else False)
else False)))
else (bif (((Nat.beq (List.length (cellsI (lM f ks))) ((List.length ks) + (1 : Nat))) && (Nat.ble ((0 : Nat) + (((List.length ks) + (1 : Nat)) * (1 : Nat))) ((List.length ks) + (1 : Nat)))) && Bool.true) then (∃ xs_10 : (List Int), (∃ ys_11 : (List Int), ((Lf (([] = (cellsI xs_10)) ∧
 (((0 : Nat) = (List.length xs_10)) ∧
 (((List.length xs_10) ≤ (4611686018427387904 : Nat)) ∧
 (((List.map (fun x_12 : AV => (frzV (1 : Nat) ((Blk.mk BK.exact Bool.true ((AV.int IntKind.i64 f) :: [])) :: ((Blk.mk BK.grow Bool.true (cellsI (lM f ks))) :: [])) (8 : Nat) x_12)) (List.take (((List.length ks) + (1 : Nat)) * (1 : Nat)) (List.drop (0 : Nat) (cellsI (lM f ks))))) = (cellsI ys_11)) ∧
 ((((List.length ks) + (1 : Nat)) = (List.length ys_11)) ∧
 ((List.length ys_11) ≤ (4611686018427387904 : Nat)))))))) ∧
 (bif (decide (xs_10 = ys_11)) then True
else False))))
else False)))) ∧
 (∀ x_10 : Nat, ((Lf (((1 : Nat) ≤ x_10) ∧
 (x_10 ≤ (List.length ps)))) →
(bif (decide ((Nat.cast x_10 : Int) < (Nat.cast (List.length ps) : Int))) then (∃ n_11 : Int, (((AV.int IntKind.i64 (Nat.cast x_10 : Int)) = (AV.int IntKind.i64 n_11)) ∧
 (bif ((Nat.blt (Int.toNat (Nat.cast x_10 : Int)) (List.length ps)) && Bool.true) then (bif (Nat.ble (((Int.toNat (Nat.cast x_10 : Int)) * (2 : Nat)) + (2 : Nat)) (List.length (cellsPM ps))) then (∃ n_12 : Int, (∃ n_13 : Int, (((AV.agg (List.take (2 : Nat) (List.drop ((Int.toNat (Nat.cast x_10 : Int)) * (2 : Nat)) (cellsPM ps)))) = (AV.agg ((AV.int IntKind.i64 n_12) :: ((AV.int IntKind.i64 n_13) :: [])))) ∧
 (bif (decide (n_11 > (0 : Int))) then (∃ n_14 : Int, (((AV.int IntKind.i64 (IntKind.wrap IntKind.i64 (n_11 - (1 : Int)))) = (AV.int IntKind.i64 n_14)) ∧
 (bif (((decide ((0 : Int) ≤ n_14)) && (Nat.blt (Int.toNat n_14) (List.length ps))) && Bool.true) then (bif (Nat.blt (((Int.toNat n_14) * (2 : Nat)) + (0 : Nat)) (List.length (cellsPM ps))) then (∃ n_15 : Int, (((List.getD (cellsPM ps) (((Int.toNat n_14) * (2 : Nat)) + (0 : Nat)) AV.undef) = (AV.int IntKind.i64 n_15)) ∧
 (∃ n_16 : Int, (((AV.int IntKind.i64 (IntKind.wrap IntKind.i64 (n_12 - n_15))) = (AV.int IntKind.i64 n_16)) ∧
 (∃ n_17 : Int, (((AV.int IntKind.i64 (IntKind.wrap IntKind.i64 (n_16 + (65536 : Int)))) = (AV.int IntKind.i64 n_17)) ∧
 (∃ n_18 : Int, (((AV.int IntKind.i64 (Int.tmod n_17 (65536 : Int))) = (AV.int IntKind.i64 n_18)) ∧
 (bif (decide (n_18 ≤ (16 : Int))) then False
else (bif (decide (n_13 < (0 : Int))) then False
else (bif (decide (n_13 > (65535 : Int))) then False
else (bif (((((Nat.beq (List.length (cellsI (allM (List.take x_10 ps)))) (List.length (allM (List.take x_10 ps)))) && Bool.true) && (Nat.beq ((0 : Nat) + ((List.length (allM (List.take x_10 ps))) * (1 : Nat))) (List.length (allM (List.take x_10 ps))))) && (Nat.ble ((List.length (allM (List.take x_10 ps))) + (1 : Nat)) (1099511627776 : Nat))) && (Nat.ble (((List.length (allM (List.take x_10 ps))) + (1 : Nat)) * (8 : Nat)) (1099511627776 : Nat))) then ((∃ x_19 : Nat, ((Lf (x_19 ≤ (16 : Nat))) ∧
 ((((AV.int IntKind.i64 f) :: []) = ((AV.int IntKind.i64 f) :: [])) ∧
 (((cellsI (lM f ks)) = (cellsI (lM f ks))) ∧
 ((((AV.int IntKind.i64 (fstM ps (0 : Nat))) :: ((AV.int IntKind.i64 (sndM ps (0 : Nat))) :: [])) = ((AV.int IntKind.i64 (fstM ps (0 : Nat))) :: ((AV.int IntKind.i64 (sndM ps (0 : Nat))) :: []))) ∧
 ((((cellsI (allM (List.take x_10 ps))) ++ ((AV.int IntKind.i64 n_12) :: [])) = (cellsI ((allM (List.take (Int.toNat (Nat.cast x_10 : Int)) ps)) ++ (decM (fstM ps (Int.toNat (Nat.cast x_10 : Int))) (sndM ps (Int.toNat (Nat.cast x_10 : Int))) x_19)))) ∧
 ((((AV.int IntKind.i64 n_12) :: ((AV.int IntKind.i64 n_13) :: [])) = ((AV.int IntKind.i64 (fstM ps (Int.toNat (Nat.cast x_10 : Int)))) :: ((AV.int IntKind.i64 (sndM ps (Int.toNat (Nat.cast x_10 : Int)))) :: []))) ∧
 (((AV.int IntKind.i64 (Nat.cast (List.length ps) : Int)) = (AV.int IntKind.i64 (Nat.cast (List.length ps) : Int))) ∧
 (((AV.sl (3 : Nat) ((List.length (allM (List.take x_10 ps))) + (1 : Nat)) (0 : Nat) ((List.length (allM (List.take x_10 ps))) + (1 : Nat)) (1 : Nat)) = (AV.sl (3 : Nat) (List.length ((allM (List.take (Int.toNat (Nat.cast x_10 : Int)) ps)) ++ (decM (fstM ps (Int.toNat (Nat.cast x_10 : Int))) (sndM ps (Int.toNat (Nat.cast x_10 : Int))) x_19))) (0 : Nat) (List.length ((allM (List.take (Int.toNat (Nat.cast x_10 : Int)) ps)) ++ (decM (fstM ps (Int.toNat (Nat.cast x_10 : Int))) (sndM ps (Int.toNat (Nat.cast x_10 : Int))) x_19))) (1 : Nat))) ∧
 (((AV.lst (0 : Nat) (cellsPM ps) (List.length ps) (2 : Nat)) = (AV.lst (0 : Nat) (cellsPM ps) (List.length ps) (2 : Nat))) ∧
 (((AV.ptr (4 : Nat) (2 : Nat) (0 : Nat)) = (AV.ptr (4 : Nat) (2 : Nat) (0 : Nat))) ∧
 (((AV.int IntKind.i64 (Nat.cast x_10 : Int)) = (AV.int IntKind.i64 (Nat.cast (Int.toNat (Nat.cast x_10 : Int)) : Int))) ∧
 (((AV.int IntKind.i64 (0 : Int)) = (AV.int IntKind.i64 (Nat.cast x_19 : Int))) ∧
 (((AV.sl (1 : Nat) ((List.length ks) + (1 : Nat)) (0 : Nat) ((List.length ks) + (1 : Nat)) (1 : Nat)) = (AV.sl (1 : Nat) ((List.length ks) + (1 : Nat)) (0 : Nat) ((List.length ks) + (1 : Nat)) (1 : Nat))) ∧
 (((AV.lst (0 : Nat) (cellsPM ps) (List.length ps) (2 : Nat)) = (AV.lst (0 : Nat) (cellsPM ps) (List.length ps) (2 : Nat))) ∧
 True))))))))))))))) ∧
 (∀ x_19 : Nat, ((Lf (x_19 ≤ (16 : Nat))) →
(bif (decide ((Nat.cast x_19 : Int) < (16 : Int))) then (∃ n_20 : Int, (((AV.int IntKind.i64 (Nat.cast x_19 : Int)) = (AV.int IntKind.i64 n_20)) ∧
 (∃ n_21 : Int, (((AV.int IntKind.i64 (sndM ps (Int.toNat (Nat.cast x_10 : Int)))) = (AV.int IntKind.i64 n_21)) ∧
 (bif ((decide ((0 : Int) ≤ n_20)) && Bool.true) then (∃ n_22 : Int, (((AV.int IntKind.i64 (Int.fdiv n_21 ((2 : Int) ^ (Min.min (Int.toNat n_20) (64 : Nat))))) = (AV.int IntKind.i64 n_22)) ∧
 (∃ n_23 : Int, (((AV.int IntKind.i64 (IntKind.wrap IntKind.i64 (Nat.cast ((Int.toNat (n_22 % (18446744073709551616 : Int))) &&& (1 : Nat)) : Int))) = (AV.int IntKind.i64 n_23)) ∧
 (bif (n_23 == (1 : Int)) then (∃ n_24 : Int, (((AV.int IntKind.i64 (fstM ps (Int.toNat (Nat.cast x_10 : Int)))) = (AV.int IntKind.i64 n_24)) ∧
 (∃ n_25 : Int, (((AV.int IntKind.i64 (IntKind.wrap IntKind.i64 (n_24 + (1 : Int)))) = (AV.int IntKind.i64 n_25)) ∧
 (∃ n_26 : Int, (((AV.int IntKind.i64 (IntKind.wrap IntKind.i64 (n_25 + n_20))) = (AV.int IntKind.i64 n_26)) ∧
 (∃ n_27 : Int, (((AV.int IntKind.i64 (Int.tmod n_26 (65536 : Int))) = (AV.int IntKind.i64 n_27)) ∧
 (bif (((((Nat.beq (List.length (cellsI ((allM (List.take (Int.toNat (Nat.cast x_10 : Int)) ps)) ++ (decM (fstM ps (Int.toNat (Nat.cast x_10 : Int))) (sndM ps (Int.toNat (Nat.cast x_10 : Int))) x_19)))) (List.length ((allM (List.take (Int.toNat (Nat.cast x_10 : Int)) ps)) ++ (decM (fstM ps (Int.toNat (Nat.cast x_10 : Int))) (sndM ps (Int.toNat (Nat.cast x_10 : Int))) x_19)))) && Bool.true) && (Nat.beq ((0 : Nat) + ((List.length ((allM (List.take (Int.toNat (Nat.cast x_10 : Int)) ps)) ++ (decM (fstM ps (Int.toNat (Nat.cast x_10 : Int))) (sndM ps (Int.toNat (Nat.cast x_10 : Int))) x_19))) * (1 : Nat))) (List.length ((allM (List.take (Int.toNat (Nat.cast x_10 : Int)) ps)) ++ (decM (fstM ps (Int.toNat (Nat.cast x_10 : Int))) (sndM ps (Int.toNat (Nat.cast x_10 : Int))) x_19))))) && (Nat.ble ((List.length ((allM (List.take (Int.toNat (Nat.cast x_10 : Int)) ps)) ++ (decM (fstM ps (Int.toNat (Nat.cast x_10 : Int))) (sndM ps (Int.toNat (Nat.cast x_10 : Int))) x_19))) + (1 : Nat)) (1099511627776 : Nat))) && (Nat.ble (((List.length ((allM (List.take (Int.toNat (Nat.cast x_10 : Int)) ps)) ++ (decM (fstM ps (Int.toNat (Nat.cast x_10 : Int))) (sndM ps (Int.toNat (Nat.cast x_10 : Int))) x_19))) + (1 : Nat)) * (8 : Nat)) (1099511627776 : Nat))) then (∃ n_28 : Int, (((AV.int IntKind.i64 (IntKind.wrap IntKind.i64 ((Nat.cast x_19 : Int) + (1 : Int)))) = (AV.int IntKind.i64 n_28)) ∧
 ((True ∧
 ((0 : Nat) = (0 : Nat))) ∧
 (∃ y_29 : Nat, ((Lf (y_29 ≤ (16 : Nat))) ∧
 ((((16 : Nat) - y_29) < ((16 : Nat) - x_19)) ∧
 ((((AV.int IntKind.i64 f) :: []) = ((AV.int IntKind.i64 f) :: [])) ∧
 (((cellsI (lM f ks)) = (cellsI (lM f ks))) ∧
 ((((AV.int IntKind.i64 (fstM ps (0 : Nat))) :: ((AV.int IntKind.i64 (sndM ps (0 : Nat))) :: [])) = ((AV.int IntKind.i64 (fstM ps (0 : Nat))) :: ((AV.int IntKind.i64 (sndM ps (0 : Nat))) :: []))) ∧
 ((((cellsI ((allM (List.take (Int.toNat (Nat.cast x_10 : Int)) ps)) ++ (decM (fstM ps (Int.toNat (Nat.cast x_10 : Int))) (sndM ps (Int.toNat (Nat.cast x_10 : Int))) x_19))) ++ ((AV.int IntKind.i64 n_27) :: [])) = (cellsI ((allM (List.take (Int.toNat (Nat.cast x_10 : Int)) ps)) ++ (decM (fstM ps (Int.toNat (Nat.cast x_10 : Int))) (sndM ps (Int.toNat (Nat.cast x_10 : Int))) y_29)))) ∧
 ((((AV.int IntKind.i64 (fstM ps (Int.toNat (Nat.cast x_10 : Int)))) :: ((AV.int IntKind.i64 (sndM ps (Int.toNat (Nat.cast x_10 : Int)))) :: [])) = ((AV.int IntKind.i64 (fstM ps (Int.toNat (Nat.cast x_10 : Int)))) :: ((AV.int IntKind.i64 (sndM ps (Int.toNat (Nat.cast x_10 : Int)))) :: []))) ∧
 (((AV.int IntKind.i64 (Nat.cast (List.length ps) : Int)) = (AV.int IntKind.i64 (Nat.cast (List.length ps) : Int))) ∧
 (((AV.sl (3 : Nat) ((List.length ((allM (List.take (Int.toNat (Nat.cast x_10 : Int)) ps)) ++ (decM (fstM ps (Int.toNat (Nat.cast x_10 : Int))) (sndM ps (Int.toNat (Nat.cast x_10 : Int))) x_19))) + (1 : Nat)) (0 : Nat) ((List.length ((allM (List.take (Int.toNat (Nat.cast x_10 : Int)) ps)) ++ (decM (fstM ps (Int.toNat (Nat.cast x_10 : Int))) (sndM ps (Int.toNat (Nat.cast x_10 : Int))) x_19))) + (1 : Nat)) (1 : Nat)) = (AV.sl (3 : Nat) (List.length ((allM (List.take (Int.toNat (Nat.cast x_10 : Int)) ps)) ++ (decM (fstM ps (Int.toNat (Nat.cast x_10 : Int))) (sndM ps (Int.toNat (Nat.cast x_10 : Int))) y_29))) (0 : Nat) (List.length ((allM (List.take (Int.toNat (Nat.cast x_10 : Int)) ps)) ++ (decM (fstM ps (Int.toNat (Nat.cast x_10 : Int))) (sndM ps (Int.toNat (Nat.cast x_10 : Int))) y_29))) (1 : Nat))) ∧
 (((AV.lst (0 : Nat) (cellsPM ps) (List.length ps) (2 : Nat)) = (AV.lst (0 : Nat) (cellsPM ps) (List.length ps) (2 : Nat))) ∧
 (((AV.ptr (4 : Nat) (2 : Nat) (0 : Nat)) = (AV.ptr (4 : Nat) (2 : Nat) (0 : Nat))) ∧
 (((AV.int IntKind.i64 (Nat.cast (Int.toNat (Nat.cast x_10 : Int)) : Int)) = (AV.int IntKind.i64 (Nat.cast (Int.toNat (Nat.cast x_10 : Int)) : Int))) ∧
 (((AV.int IntKind.i64 n_28) = (AV.int IntKind.i64 (Nat.cast y_29 : Int))) ∧
 (((AV.sl (1 : Nat) ((List.length ks) + (1 : Nat)) (0 : Nat) ((List.length ks) + (1 : Nat)) (1 : Nat)) = (AV.sl (1 : Nat) ((List.length ks) + (1 : Nat)) (0 : Nat) ((List.length ks) + (1 : Nat)) (1 : Nat))) ∧
 (((AV.lst (0 : Nat) (cellsPM ps) (List.length ps) (2 : Nat)) = (AV.lst (0 : Nat) (cellsPM ps) (List.length ps) (2 : Nat))) ∧
 True)))))))))))))))))))
else False)))))))))
else (∃ n_24 : Int, (((AV.int IntKind.i64 (IntKind.wrap IntKind.i64 ((Nat.cast x_19 : Int) + (1 : Int)))) = (AV.int IntKind.i64 n_24)) ∧
 ((True ∧
 ((0 : Nat) = (0 : Nat))) ∧
 (∃ y_25 : Nat, ((Lf (y_25 ≤ (16 : Nat))) ∧
 ((((16 : Nat) - y_25) < ((16 : Nat) - x_19)) ∧
 ((((AV.int IntKind.i64 f) :: []) = ((AV.int IntKind.i64 f) :: [])) ∧
 (((cellsI (lM f ks)) = (cellsI (lM f ks))) ∧
 ((((AV.int IntKind.i64 (fstM ps (0 : Nat))) :: ((AV.int IntKind.i64 (sndM ps (0 : Nat))) :: [])) = ((AV.int IntKind.i64 (fstM ps (0 : Nat))) :: ((AV.int IntKind.i64 (sndM ps (0 : Nat))) :: []))) ∧
 (((cellsI ((allM (List.take (Int.toNat (Nat.cast x_10 : Int)) ps)) ++ (decM (fstM ps (Int.toNat (Nat.cast x_10 : Int))) (sndM ps (Int.toNat (Nat.cast x_10 : Int))) x_19))) = (cellsI ((allM (List.take (Int.toNat (Nat.cast x_10 : Int)) ps)) ++ (decM (fstM ps (Int.toNat (Nat.cast x_10 : Int))) (sndM ps (Int.toNat (Nat.cast x_10 : Int))) y_25)))) ∧
 ((((AV.int IntKind.i64 (fstM ps (Int.toNat (Nat.cast x_10 : Int)))) :: ((AV.int IntKind.i64 (sndM ps (Int.toNat (Nat.cast x_10 : Int)))) :: [])) = ((AV.int IntKind.i64 (fstM ps (Int.toNat (Nat.cast x_10 : Int)))) :: ((AV.int IntKind.i64 (sndM ps (Int.toNat (Nat.cast x_10 : Int)))) :: []))) ∧
 (((AV.int IntKind.i64 (Nat.cast (List.length ps) : Int)) = (AV.int IntKind.i64 (Nat.cast (List.length ps) : Int))) ∧
 (((AV.sl (3 : Nat) (List.length ((allM (List.take (Int.toNat (Nat.cast x_10 : Int)) ps)) ++ (decM (fstM ps (Int.toNat (Nat.cast x_10 : Int))) (sndM ps (Int.toNat (Nat.cast x_10 : Int))) x_19))) (0 : Nat) (List.length ((allM (List.take (Int.toNat (Nat.cast x_10 : Int)) ps)) ++ (decM (fstM ps (Int.toNat (Nat.cast x_10 : Int))) (sndM ps (Int.toNat (Nat.cast x_10 : Int))) x_19))) (1 : Nat)) = (AV.sl (3 : Nat) (List.length ((allM (List.take (Int.toNat (Nat.cast x_10 : Int)) ps)) ++ (decM (fstM ps (Int.toNat (Nat.cast x_10 : Int))) (sndM ps (Int.toNat (Nat.cast x_10 : Int))) y_25))) (0 : Nat) (List.length ((allM (List.take (Int.toNat (Nat.cast x_10 : Int)) ps)) ++ (decM (fstM ps (Int.toNat (Nat.cast x_10 : Int))) (sndM ps (Int.toNat (Nat.cast x_10 : Int))) y_25))) (1 : Nat))) ∧
 (((AV.lst (0 : Nat) (cellsPM ps) (List.length ps) (2 : Nat)) = (AV.lst (0 : Nat) (cellsPM ps) (List.length ps) (2 : Nat))) ∧
 (((AV.ptr (4 : Nat) (2 : Nat) (0 : Nat)) = (AV.ptr (4 : Nat) (2 : Nat) (0 : Nat))) ∧
 (((AV.int IntKind.i64 (Nat.cast (Int.toNat (Nat.cast x_10 : Int)) : Int)) = (AV.int IntKind.i64 (Nat.cast (Int.toNat (Nat.cast x_10 : Int)) : Int))) ∧
 (((AV.int IntKind.i64 n_24) = (AV.int IntKind.i64 (Nat.cast y_25 : Int))) ∧
 (((AV.sl (1 : Nat) ((List.length ks) + (1 : Nat)) (0 : Nat) ((List.length ks) + (1 : Nat)) (1 : Nat)) = (AV.sl (1 : Nat) ((List.length ks) + (1 : Nat)) (0 : Nat) ((List.length ks) + (1 : Nat)) (1 : Nat))) ∧
 (((AV.lst (0 : Nat) (cellsPM ps) (List.length ps) (2 : Nat)) = (AV.lst (0 : Nat) (cellsPM ps) (List.length ps) (2 : Nat))) ∧
 True))))))))))))))))))))))))
else False)))))
else (∃ n_20 : Int, (((AV.int IntKind.i64 (IntKind.wrap IntKind.i64 ((Nat.cast (Int.toNat (Nat.cast x_10 : Int)) : Int) + (1 : Int)))) = (AV.int IntKind.i64 n_20)) ∧
 ((True ∧
 ((0 : Nat) = (0 : Nat))) ∧
 ((∃ y_21 : Nat, ((Lf True) ∧
 ((((List.length ps) + (1 : Nat)) < ((List.length ps) - x_10)) ∧
 ((((AV.int IntKind.i64 f) :: []) = ((AV.int IntKind.i64 f) :: [])) ∧
 (((cellsI (lM f ks)) = (cellsI (lM f ks))) ∧
 False))))) ∨
 (∃ y_21 : Nat, ((Lf (((1 : Nat) ≤ y_21) ∧
 (y_21 ≤ (List.length ps)))) ∧
 ((((List.length ps) - y_21) < ((List.length ps) - x_10)) ∧
 ((((AV.int IntKind.i64 f) :: []) = ((AV.int IntKind.i64 f) :: [])) ∧
 (((cellsI (lM f ks)) = (cellsI (lM f ks))) ∧
 ((((AV.int IntKind.i64 (fstM ps (0 : Nat))) :: ((AV.int IntKind.i64 (sndM ps (0 : Nat))) :: [])) = ((AV.int IntKind.i64 (fstM ps (0 : Nat))) :: ((AV.int IntKind.i64 (sndM ps (0 : Nat))) :: []))) ∧
 (((cellsI ((allM (List.take (Int.toNat (Nat.cast x_10 : Int)) ps)) ++ (decM (fstM ps (Int.toNat (Nat.cast x_10 : Int))) (sndM ps (Int.toNat (Nat.cast x_10 : Int))) x_19))) = (cellsI (allM (List.take y_21 ps)))) ∧
 (((AV.int IntKind.i64 (Nat.cast (List.length ps) : Int)) = (AV.int IntKind.i64 (Nat.cast (List.length ps) : Int))) ∧
 (((AV.sl (3 : Nat) (List.length ((allM (List.take (Int.toNat (Nat.cast x_10 : Int)) ps)) ++ (decM (fstM ps (Int.toNat (Nat.cast x_10 : Int))) (sndM ps (Int.toNat (Nat.cast x_10 : Int))) x_19))) (0 : Nat) (List.length ((allM (List.take (Int.toNat (Nat.cast x_10 : Int)) ps)) ++ (decM (fstM ps (Int.toNat (Nat.cast x_10 : Int))) (sndM ps (Int.toNat (Nat.cast x_10 : Int))) x_19))) (1 : Nat)) = (AV.sl (3 : Nat) (List.length (allM (List.take y_21 ps))) (0 : Nat) (List.length (allM (List.take y_21 ps))) (1 : Nat))) ∧
 (((AV.lst (0 : Nat) (cellsPM ps) (List.length ps) (2 : Nat)) = (AV.lst (0 : Nat) (cellsPM ps) (List.length ps) (2 : Nat))) ∧
 (((AV.int IntKind.i64 n_20) = (AV.int IntKind.i64 (Nat.cast y_21 : Int))) ∧
 (((AV.sl (1 : Nat) ((List.length ks) + (1 : Nat)) (0 : Nat) ((List.length ks) + (1 : Nat)) (1 : Nat)) = (AV.sl (1 : Nat) ((List.length ks) + (1 : Nat)) (0 : Nat) ((List.length ks) + (1 : Nat)) (1 : Nat))) ∧
 (((AV.lst (0 : Nat) (cellsPM ps) (List.length ps) (2 : Nat)) = (AV.lst (0 : Nat) (cellsPM ps) (List.length ps) (2 : Nat))) ∧
 True)))))))))))))))))))))
else False))))))))))))
else False)
else False)))
else (bif (decide (n_13 < (0 : Int))) then False
else (bif (decide (n_13 > (65535 : Int))) then False
else (bif (((((Nat.beq (List.length (cellsI (allM (List.take x_10 ps)))) (List.length (allM (List.take x_10 ps)))) && Bool.true) && (Nat.beq ((0 : Nat) + ((List.length (allM (List.take x_10 ps))) * (1 : Nat))) (List.length (allM (List.take x_10 ps))))) && (Nat.ble ((List.length (allM (List.take x_10 ps))) + (1 : Nat)) (1099511627776 : Nat))) && (Nat.ble (((List.length (allM (List.take x_10 ps))) + (1 : Nat)) * (8 : Nat)) (1099511627776 : Nat))) then ((∃ x_14 : Nat, ((Lf (x_14 ≤ (16 : Nat))) ∧
 ((((AV.int IntKind.i64 f) :: []) = ((AV.int IntKind.i64 f) :: [])) ∧
 (((cellsI (lM f ks)) = (cellsI (lM f ks))) ∧
 ((((AV.int IntKind.i64 (fstM ps (0 : Nat))) :: ((AV.int IntKind.i64 (sndM ps (0 : Nat))) :: [])) = ((AV.int IntKind.i64 (fstM ps (0 : Nat))) :: ((AV.int IntKind.i64 (sndM ps (0 : Nat))) :: []))) ∧
 ((((cellsI (allM (List.take x_10 ps))) ++ ((AV.int IntKind.i64 n_12) :: [])) = (cellsI ((allM (List.take (Int.toNat (Nat.cast x_10 : Int)) ps)) ++ (decM (fstM ps (Int.toNat (Nat.cast x_10 : Int))) (sndM ps (Int.toNat (Nat.cast x_10 : Int))) x_14)))) ∧
 ((((AV.int IntKind.i64 n_12) :: ((AV.int IntKind.i64 n_13) :: [])) = ((AV.int IntKind.i64 (fstM ps (Int.toNat (Nat.cast x_10 : Int)))) :: ((AV.int IntKind.i64 (sndM ps (Int.toNat (Nat.cast x_10 : Int)))) :: []))) ∧
 (((AV.int IntKind.i64 (Nat.cast (List.length ps) : Int)) = (AV.int IntKind.i64 (Nat.cast (List.length ps) : Int))) ∧
 (((AV.sl (3 : Nat) ((List.length (allM (List.take x_10 ps))) + (1 : Nat)) (0 : Nat) ((List.length (allM (List.take x_10 ps))) + (1 : Nat)) (1 : Nat)) = (AV.sl (3 : Nat) (List.length ((allM (List.take (Int.toNat (Nat.cast x_10 : Int)) ps)) ++ (decM (fstM ps (Int.toNat (Nat.cast x_10 : Int))) (sndM ps (Int.toNat (Nat.cast x_10 : Int))) x_14))) (0 : Nat) (List.length ((allM (List.take (Int.toNat (Nat.cast x_10 : Int)) ps)) ++ (decM (fstM ps (Int.toNat (Nat.cast x_10 : Int))) (sndM ps (Int.toNat (Nat.cast x_10 : Int))) x_14))) (1 : Nat))) ∧
 (((AV.lst (0 : Nat) (cellsPM ps) (List.length ps) (2 : Nat)) = (AV.lst (0 : Nat) (cellsPM ps) (List.length ps) (2 : Nat))) ∧
 (((AV.ptr (4 : Nat) (2 : Nat) (0 : Nat)) = (AV.ptr (4 : Nat) (2 : Nat) (0 : Nat))) ∧
 (((AV.int IntKind.i64 (Nat.cast x_10 : Int)) = (AV.int IntKind.i64 (Nat.cast (Int.toNat (Nat.cast x_10 : Int)) : Int))) ∧
 (((AV.int IntKind.i64 (0 : Int)) = (AV.int IntKind.i64 (Nat.cast x_14 : Int))) ∧
 (((AV.sl (1 : Nat) ((List.length ks) + (1 : Nat)) (0 : Nat) ((List.length ks) + (1 : Nat)) (1 : Nat)) = (AV.sl (1 : Nat) ((List.length ks) + (1 : Nat)) (0 : Nat) ((List.length ks) + (1 : Nat)) (1 : Nat))) ∧
 (((AV.lst (0 : Nat) (cellsPM ps) (List.length ps) (2 : Nat)) = (AV.lst (0 : Nat) (cellsPM ps) (List.length ps) (2 : Nat))) ∧
 True))))))))))))))) ∧
 (∀ x_14 : Nat, ((Lf (x_14 ≤ (16 : Nat))) →
(bif (decide ((Nat.cast x_14 : Int) < (16 : Int))) then (∃ n_15 : Int, (((AV.int IntKind.i64 (Nat.cast x_14 : Int)) = (AV.int IntKind.i64 n_15)) ∧
 (∃ n_16 : Int, (((AV.int IntKind.i64 (sndM ps (Int.toNat (Nat.cast x_10 : Int)))) = (AV.int IntKind.i64 n_16)) ∧
 (bif ((decide ((0 : Int) ≤ n_15)) && Bool.true) then (∃ n_17 : Int, (((AV.int IntKind.i64 (Int.fdiv n_16 ((2 : Int) ^ (Min.min (Int.toNat n_15) (64 : Nat))))) = (AV.int IntKind.i64 n_17)) ∧
 (∃ n_18 : Int, (((AV.int IntKind.i64 (IntKind.wrap IntKind.i64 (Nat.cast ((Int.toNat (n_17 % (18446744073709551616 : Int))) &&& (1 : Nat)) : Int))) = (AV.int IntKind.i64 n_18)) ∧
 (bif (n_18 == (1 : Int)) then (∃ n_19 : Int, (((AV.int IntKind.i64 (fstM ps (Int.toNat (Nat.cast x_10 : Int)))) = (AV.int IntKind.i64 n_19)) ∧
 (∃ n_20 : Int, (((AV.int IntKind.i64 (IntKind.wrap IntKind.i64 (n_19 + (1 : Int)))) = (AV.int IntKind.i64 n_20)) ∧
 (∃ n_21 : Int, (((AV.int IntKind.i64 (IntKind.wrap IntKind.i64 (n_20 + n_15))) = (AV.int IntKind.i64 n_21)) ∧
 (∃ n_22 : Int, (((AV.int IntKind.i64 (Int.tmod n_21 (65536 : Int))) = (AV.int IntKind.i64 n_22)) ∧
 (bif (((((Nat.beq (List.length (cellsI ((allM (List.take (Int.toNat (Nat.cast x_10 : Int)) ps)) ++ (decM (fstM ps (Int.toNat (Nat.cast x_10 : Int))) (sndM ps (Int.toNat (Nat.cast x_10 : Int))) x_14)))) (List.length ((allM (List.take (Int.toNat (Nat.cast x_10 : Int)) ps)) ++ (decM (fstM ps (Int.toNat (Nat.cast x_10 : Int))) (sndM ps (Int.toNat (Nat.cast x_10 : Int))) x_14)))) && Bool.true) && (Nat.beq ((0 : Nat) + ((List.length ((allM (List.take (Int.toNat (Nat.cast x_10 : Int)) ps)) ++ (decM (fstM ps (Int.toNat (Nat.cast x_10 : Int))) (sndM ps (Int.toNat (Nat.cast x_10 : Int))) x_14))) * (1 : Nat))) (List.length ((allM (List.take (Int.toNat (Nat.cast x_10 : Int)) ps)) ++ (decM (fstM ps (Int.toNat (Nat.cast x_10 : Int))) (sndM ps (Int.toNat (Nat.cast x_10 : Int))) x_14))))) && (Nat.ble ((List.length ((allM (List.take (Int.toNat (Nat.cast x_10 : Int)) ps)) ++ (decM (fstM ps (Int.toNat (Nat.cast x_10 : Int))) (sndM ps (Int.toNat (Nat.cast x_10 : Int))) x_14))) + (1 : Nat)) (1099511627776 : Nat))) && (Nat.ble (((List.length ((allM (List.take (Int.toNat (Nat.cast x_10 : Int)) ps)) ++ (decM (fstM ps (Int.toNat (Nat.cast x_10 : Int))) (sndM ps (Int.toNat (Nat.cast x_10 : Int))) x_14))) + (1 : Nat)) * (8 : Nat)) (1099511627776 : Nat))) then (∃ n_23 : Int, (((AV.int IntKind.i64 (IntKind.wrap IntKind.i64 ((Nat.cast x_14 : Int) + (1 : Int)))) = (AV.int IntKind.i64 n_23)) ∧
 ((True ∧
 ((0 : Nat) = (0 : Nat))) ∧
 (∃ y_24 : Nat, ((Lf (y_24 ≤ (16 : Nat))) ∧
 ((((16 : Nat) - y_24) < ((16 : Nat) - x_14)) ∧
 ((((AV.int IntKind.i64 f) :: []) = ((AV.int IntKind.i64 f) :: [])) ∧
 (((cellsI (lM f ks)) = (cellsI (lM f ks))) ∧
 ((((AV.int IntKind.i64 (fstM ps (0 : Nat))) :: ((AV.int IntKind.i64 (sndM ps (0 : Nat))) :: [])) = ((AV.int IntKind.i64 (fstM ps (0 : Nat))) :: ((AV.int IntKind.i64 (sndM ps (0 : Nat))) :: []))) ∧
 ((((cellsI ((allM (List.take (Int.toNat (Nat.cast x_10 : Int)) ps)) ++ (decM (fstM ps (Int.toNat (Nat.cast x_10 : Int))) (sndM ps (Int.toNat (Nat.cast x_10 : Int))) x_14))) ++ ((AV.int IntKind.i64 n_22) :: [])) = (cellsI ((allM (List.take (Int.toNat (Nat.cast x_10 : Int)) ps)) ++ (decM (fstM ps (Int.toNat (Nat.cast x_10 : Int))) (sndM ps (Int.toNat (Nat.cast x_10 : Int))) y_24)))) ∧
 ((((AV.int IntKind.i64 (fstM ps (Int.toNat (Nat.cast x_10 : Int)))) :: ((AV.int IntKind.i64 (sndM ps (Int.toNat (Nat.cast x_10 : Int)))) :: [])) = ((AV.int IntKind.i64 (fstM ps (Int.toNat (Nat.cast x_10 : Int)))) :: ((AV.int IntKind.i64 (sndM ps (Int.toNat (Nat.cast x_10 : Int)))) :: []))) ∧
 (((AV.int IntKind.i64 (Nat.cast (List.length ps) : Int)) = (AV.int IntKind.i64 (Nat.cast (List.length ps) : Int))) ∧
 (((AV.sl (3 : Nat) ((List.length ((allM (List.take (Int.toNat (Nat.cast x_10 : Int)) ps)) ++ (decM (fstM ps (Int.toNat (Nat.cast x_10 : Int))) (sndM ps (Int.toNat (Nat.cast x_10 : Int))) x_14))) + (1 : Nat)) (0 : Nat) ((List.length ((allM (List.take (Int.toNat (Nat.cast x_10 : Int)) ps)) ++ (decM (fstM ps (Int.toNat (Nat.cast x_10 : Int))) (sndM ps (Int.toNat (Nat.cast x_10 : Int))) x_14))) + (1 : Nat)) (1 : Nat)) = (AV.sl (3 : Nat) (List.length ((allM (List.take (Int.toNat (Nat.cast x_10 : Int)) ps)) ++ (decM (fstM ps (Int.toNat (Nat.cast x_10 : Int))) (sndM ps (Int.toNat (Nat.cast x_10 : Int))) y_24))) (0 : Nat) (List.length ((allM (List.take (Int.toNat (Nat.cast x_10 : Int)) ps)) ++ (decM (fstM ps (Int.toNat (Nat.cast x_10 : Int))) (sndM ps (Int.toNat (Nat.cast x_10 : Int))) y_24))) (1 : Nat))) ∧
 (((AV.lst (0 : Nat) (cellsPM ps) (List.length ps) (2 : Nat)) = (AV.lst (0 : Nat) (cellsPM ps) (List.length ps) (2 : Nat))) ∧
 (((AV.ptr (4 : Nat) (2 : Nat) (0 : Nat)) = (AV.ptr (4 : Nat) (2 : Nat) (0 : Nat))) ∧
 (((AV.int IntKind.i64 (Nat.cast (Int.toNat (Nat.cast x_10 : Int)) : Int)) = (AV.int IntKind.i64 (Nat.cast (Int.toNat (Nat.cast x_10 : Int)) : Int))) ∧
 (((AV.int IntKind.i64 n_23) = (AV.int IntKind.i64 (Nat.cast y_24 : Int))) ∧
 (((AV.sl (1 : Nat) ((List.length ks) + (1 : Nat)) (0 : Nat) ((List.length ks) + (1 : Nat)) (1 : Nat)) = (AV.sl (1 : Nat) ((List.length ks) + (1 : Nat)) (0 : Nat) ((List.length ks) + (1 : Nat)) (1 : Nat))) ∧
 (((AV.lst (0 : Nat) (cellsPM ps) (List.length ps) (2 : Nat)) = (AV.lst (0 : Nat) (cellsPM ps) (List.length ps) (2 : Nat))) ∧
 True)))))))))))))))))))
else False)))))))))
else (∃ n_19 : Int, (((AV.int IntKind.i64 (IntKind.wrap IntKind.i64 ((Nat.cast x_14 : Int) + (1 : Int)))) = (AV.int IntKind.i64 n_19)) ∧
 ((True ∧
 ((0 : Nat) = (0 : Nat))) ∧
 (∃ y_20 : Nat, ((Lf (y_20 ≤ (16 : Nat))) ∧
 ((((16 : Nat) - y_20) < ((16 : Nat) - x_14)) ∧
 ((((AV.int IntKind.i64 f) :: []) = ((AV.int IntKind.i64 f) :: [])) ∧
 (((cellsI (lM f ks)) = (cellsI (lM f ks))) ∧
 ((((AV.int IntKind.i64 (fstM ps (0 : Nat))) :: ((AV.int IntKind.i64 (sndM ps (0 : Nat))) :: [])) = ((AV.int IntKind.i64 (fstM ps (0 : Nat))) :: ((AV.int IntKind.i64 (sndM ps (0 : Nat))) :: []))) ∧
 (((cellsI ((allM (List.take (Int.toNat (Nat.cast x_10 : Int)) ps)) ++ (decM (fstM ps (Int.toNat (Nat.cast x_10 : Int))) (sndM ps (Int.toNat (Nat.cast x_10 : Int))) x_14))) = (cellsI ((allM (List.take (Int.toNat (Nat.cast x_10 : Int)) ps)) ++ (decM (fstM ps (Int.toNat (Nat.cast x_10 : Int))) (sndM ps (Int.toNat (Nat.cast x_10 : Int))) y_20)))) ∧
 ((((AV.int IntKind.i64 (fstM ps (Int.toNat (Nat.cast x_10 : Int)))) :: ((AV.int IntKind.i64 (sndM ps (Int.toNat (Nat.cast x_10 : Int)))) :: [])) = ((AV.int IntKind.i64 (fstM ps (Int.toNat (Nat.cast x_10 : Int)))) :: ((AV.int IntKind.i64 (sndM ps (Int.toNat (Nat.cast x_10 : Int)))) :: []))) ∧
 (((AV.int IntKind.i64 (Nat.cast (List.length ps) : Int)) = (AV.int IntKind.i64 (Nat.cast (List.length ps) : Int))) ∧
 (((AV.sl (3 : Nat) (List.length ((allM (List.take (Int.toNat (Nat.cast x_10 : Int)) ps)) ++ (decM (fstM ps (Int.toNat (Nat.cast x_10 : Int))) (sndM ps (Int.toNat (Nat.cast x_10 : Int))) x_14))) (0 : Nat) (List.length ((allM (List.take (Int.toNat (Nat.cast x_10 : Int)) ps)) ++ (decM (fstM ps (Int.toNat (Nat.cast x_10 : Int))) (sndM ps (Int.toNat (Nat.cast x_10 : Int))) x_14))) (1 : Nat)) = (AV.sl (3 : Nat) (List.length ((allM (List.take (Int.toNat (Nat.cast x_10 : Int)) ps)) ++ (decM (fstM ps (Int.toNat (Nat.cast x_10 : Int))) (sndM ps (Int.toNat (Nat.cast x_10 : Int))) y_20))) (0 : Nat) (List.length ((allM (List.take (Int.toNat (Nat.cast x_10 : Int)) ps)) ++ (decM (fstM ps (Int.toNat (Nat.cast x_10 : Int))) (sndM ps (Int.toNat (Nat.cast x_10 : Int))) y_20))) (1 : Nat))) ∧
 (((AV.lst (0 : Nat) (cellsPM ps) (List.length ps) (2 : Nat)) = (AV.lst (0 : Nat) (cellsPM ps) (List.length ps) (2 : Nat))) ∧
 (((AV.ptr (4 : Nat) (2 : Nat) (0 : Nat)) = (AV.ptr (4 : Nat) (2 : Nat) (0 : Nat))) ∧
 (((AV.int IntKind.i64 (Nat.cast (Int.toNat (Nat.cast x_10 : Int)) : Int)) = (AV.int IntKind.i64 (Nat.cast (Int.toNat (Nat.cast x_10 : Int)) : Int))) ∧
 (((AV.int IntKind.i64 n_19) = (AV.int IntKind.i64 (Nat.cast y_20 : Int))) ∧
 (((AV.sl (1 : Nat) ((List.length ks) + (1 : Nat)) (0 : Nat) ((List.length ks) + (1 : Nat)) (1 : Nat)) = (AV.sl (1 : Nat) ((List.length ks) + (1 : Nat)) (0 : Nat) ((List.length ks) + (1 : Nat)) (1 : Nat))) ∧
 (((AV.lst (0 : Nat) (cellsPM ps) (List.length ps) (2 : Nat)) = (AV.lst (0 : Nat) (cellsPM ps) (List.length ps) (2 : Nat))) ∧
 True))))))))))))))))))))))))
else False)))))
else (∃ n_15 : Int, (((AV.int IntKind.i64 (IntKind.wrap IntKind.i64 ((Nat.cast (Int.toNat (Nat.cast x_10 : Int)) : Int) + (1 : Int)))) = (AV.int IntKind.i64 n_15)) ∧
 ((True ∧
 ((0 : Nat) = (0 : Nat))) ∧
 ((∃ y_16 : Nat, ((Lf True) ∧
 ((((List.length ps) + (1 : Nat)) < ((List.length ps) - x_10)) ∧
 ((((AV.int IntKind.i64 f) :: []) = ((AV.int IntKind.i64 f) :: [])) ∧
 (((cellsI (lM f ks)) = (cellsI (lM f ks))) ∧
 False))))) ∨
 (∃ y_16 : Nat, ((Lf (((1 : Nat) ≤ y_16) ∧
 (y_16 ≤ (List.length ps)))) ∧
 ((((List.length ps) - y_16) < ((List.length ps) - x_10)) ∧
 ((((AV.int IntKind.i64 f) :: []) = ((AV.int IntKind.i64 f) :: [])) ∧
 (((cellsI (lM f ks)) = (cellsI (lM f ks))) ∧
 ((((AV.int IntKind.i64 (fstM ps (0 : Nat))) :: ((AV.int IntKind.i64 (sndM ps (0 : Nat))) :: [])) = ((AV.int IntKind.i64 (fstM ps (0 : Nat))) :: ((AV.int IntKind.i64 (sndM ps (0 : Nat))) :: []))) ∧
 (((cellsI ((allM (List.take (Int.toNat (Nat.cast x_10 : Int)) ps)) ++ (decM (fstM ps (Int.toNat (Nat.cast x_10 : Int))) (sndM ps (Int.toNat (Nat.cast x_10 : Int))) x_14))) = (cellsI (allM (List.take y_16 ps)))) ∧
 (((AV.int IntKind.i64 (Nat.cast (List.length ps) : Int)) = (AV.int IntKind.i64 (Nat.cast (List.length ps) : Int))) ∧
 (((AV.sl (3 : Nat) (List.length ((allM (List.take (Int.toNat (Nat.cast x_10 : Int)) ps)) ++ (decM (fstM ps (Int.toNat (Nat.cast x_10 : Int))) (sndM ps (Int.toNat (Nat.cast x_10 : Int))) x_14))) (0 : Nat) (List.length ((allM (List.take (Int.toNat (Nat.cast x_10 : Int)) ps)) ++ (decM (fstM ps (Int.toNat (Nat.cast x_10 : Int))) (sndM ps (Int.toNat (Nat.cast x_10 : Int))) x_14))) (1 : Nat)) = (AV.sl (3 : Nat) (List.length (allM (List.take y_16 ps))) (0 : Nat) (List.length (allM (List.take y_16 ps))) (1 : Nat))) ∧
 (((AV.lst (0 : Nat) (cellsPM ps) (List.length ps) (2 : Nat)) = (AV.lst (0 : Nat) (cellsPM ps) (List.length ps) (2 : Nat))) ∧
 (((AV.int IntKind.i64 n_15) = (AV.int IntKind.i64 (Nat.cast y_16 : Int))) ∧
 (((AV.sl (1 : Nat) ((List.length ks) + (1 : Nat)) (0 : Nat) ((List.length ks) + (1 : Nat)) (1 : Nat)) = (AV.sl (1 : Nat) ((List.length ks) + (1 : Nat)) (0 : Nat) ((List.length ks) + (1 : Nat)) (1 : Nat))) ∧
 (((AV.lst (0 : Nat) (cellsPM ps) (List.length ps) (2 : Nat)) = (AV.lst (0 : Nat) (cellsPM ps) (List.length ps) (2 : Nat))) ∧
 True)))))))))))))))))))))
else False)))))))
else False)
else False)))
else (bif (((Nat.beq (List.length (cellsI (allM (List.take x_10 ps)))) (List.length (allM (List.take x_10 ps)))) && (Nat.ble ((0 : Nat) + ((List.length (allM (List.take x_10 ps))) * (1 : Nat))) (List.length (allM (List.take x_10 ps))))) && Bool.true) then (bif (((Nat.beq (List.length (cellsI (lM f ks))) ((List.length ks) + (1 : Nat))) && (Nat.ble ((0 : Nat) + (((List.length ks) + (1 : Nat)) * (1 : Nat))) ((List.length ks) + (1 : Nat)))) && Bool.true) then (∃ xs_11 : (List Int), (∃ ys_12 : (List Int), ((Lf (((List.map (fun x_13 : AV => (frzV (1 : Nat) ((Blk.mk BK.exact Bool.true ((AV.int IntKind.i64 f) :: [])) :: ((Blk.mk BK.grow Bool.true (cellsI (lM f ks))) :: ((Blk.mk BK.exact Bool.true ((AV.int IntKind.i64 (fstM ps (0 : Nat))) :: ((AV.int IntKind.i64 (sndM ps (0 : Nat))) :: []))) :: ((Blk.mk BK.grow Bool.true (cellsI (allM (List.take x_10 ps)))) :: [])))) (8 : Nat) x_13)) (List.take ((List.length (allM (List.take x_10 ps))) * (1 : Nat)) (List.drop (0 : Nat) (cellsI (allM (List.take x_10 ps)))))) = (cellsI xs_11)) ∧
 (((List.length (allM (List.take x_10 ps))) = (List.length xs_11)) ∧
 (((List.length xs_11) ≤ (4611686018427387904 : Nat)) ∧
 (((List.map (fun x_13 : AV => (frzV (1 : Nat) ((Blk.mk BK.exact Bool.true ((AV.int IntKind.i64 f) :: [])) :: ((Blk.mk BK.grow Bool.true (cellsI (lM f ks))) :: ((Blk.mk BK.exact Bool.true ((AV.int IntKind.i64 (fstM ps (0 : Nat))) :: ((AV.int IntKind.i64 (sndM ps (0 : Nat))) :: []))) :: ((Blk.mk BK.grow Bool.true (cellsI (allM (List.take x_10 ps)))) :: [])))) (8 : Nat) x_13)) (List.take (((List.length ks) + (1 : Nat)) * (1 : Nat)) (List.drop (0 : Nat) (cellsI (lM f ks))))) = (cellsI ys_12)) ∧
 ((((List.length ks) + (1 : Nat)) = (List.length ys_12)) ∧
 ((List.length ys_12) ≤ (4611686018427387904 : Nat)))))))) ∧
 (bif (decide (xs_11 = ys_12)) then True
else False))))
else False)
else False)))))))))))))))))))))))) ∧
 (∀ x_4 : Nat, ((Lf (((1 : Nat) ≤ x_4) ∧
 (x_4 ≤ (List.length ks)))) →
(bif (decide ((Nat.cast x_4 : Int) < (Nat.cast (List.length ks) : Int))) then (bif ((Nat.blt (Int.toNat (Nat.cast x_4 : Int)) (List.length ks)) && Bool.true) then (bif (Nat.blt ((Int.toNat (Nat.cast x_4 : Int)) * (1 : Nat)) (List.length (cells8M ks))) then (∃ n_5 : Int, (((List.getD (cells8M ks) ((Int.toNat (Nat.cast x_4 : Int)) * (1 : Nat)) AV.undef) = (AV.int IntKind.u8 n_5)) ∧
 (∃ n_6 : Int, (((AV.int IntKind.i64 (atM f (List.take x_4 ks))) = (AV.int IntKind.i64 n_6)) ∧
 (∃ n_7 : Int, (((AV.int IntKind.i64 (IntKind.wrap IntKind.i64 (n_6 + (1 : Int)))) = (AV.int IntKind.i64 n_7)) ∧
 (∃ n_8 : Int, (((AV.int IntKind.u8 (Int.tmod n_5 (24 : Int))) = (AV.int IntKind.u8 n_8)) ∧
 (∃ n_9 : Int, (((AV.int IntKind.i64 (IntKind.wrap IntKind.i64 n_8)) = (AV.int IntKind.i64 n_9)) ∧
 (∃ n_10 : Int, (((AV.int IntKind.i64 (IntKind.wrap IntKind.i64 (n_7 + n_9))) = (AV.int IntKind.i64 n_10)) ∧
 (∃ n_11 : Int, (((AV.int IntKind.i64 (Int.tmod n_10 (65536 : Int))) = (AV.int IntKind.i64 n_11)) ∧
 (bif (((((Nat.beq (List.length (cellsI (lM f (List.take x_4 ks)))) (x_4 + (1 : Nat))) && Bool.true) && (Nat.beq ((0 : Nat) + ((x_4 + (1 : Nat)) * (1 : Nat))) (x_4 + (1 : Nat)))) && (Nat.ble ((x_4 + (1 : Nat)) + (1 : Nat)) (1099511627776 : Nat))) && (Nat.ble (((x_4 + (1 : Nat)) + (1 : Nat)) * (8 : Nat)) (1099511627776 : Nat))) then (∃ n_12 : Int, (((AV.int IntKind.i64 (IntKind.wrap IntKind.i64 ((Nat.cast x_4 : Int) + (1 : Int)))) = (AV.int IntKind.i64 n_12)) ∧
 ((True ∧
 ((0 : Nat) = (0 : Nat))) ∧
 ((∃ y_13 : Nat, ((Lf True) ∧
 ((((List.length ks) + (1 : Nat)) < ((List.length ks) - x_4)) ∧
 ((((AV.int IntKind.i64 f) :: []) = ((AV.int IntKind.i64 f) :: [])) ∧
 False)))) ∨
 (∃ y_13 : Nat, ((Lf (((1 : Nat) ≤ y_13) ∧
 (y_13 ≤ (List.length ks)))) ∧
 ((((List.length ks) - y_13) < ((List.length ks) - x_4)) ∧
 ((((AV.int IntKind.i64 f) :: []) = ((AV.int IntKind.i64 f) :: [])) ∧
 ((((cellsI (lM f (List.take x_4 ks))) ++ ((AV.int IntKind.i64 n_11) :: [])) = (cellsI (lM f (List.take y_13 ks)))) ∧
 (((AV.int IntKind.i64 n_12) = (AV.int IntKind.i64 (Nat.cast y_13 : Int))) ∧
 (((AV.int IntKind.i64 n_11) = (AV.int IntKind.i64 (atM f (List.take y_13 ks)))) ∧
 (((AV.lst (0 : Nat) (cells8M ks) (List.length ks) (1 : Nat)) = (AV.lst (0 : Nat) (cells8M ks) (List.length ks) (1 : Nat))) ∧
 (((AV.sl (1 : Nat) ((x_4 + (1 : Nat)) + (1 : Nat)) (0 : Nat) ((x_4 + (1 : Nat)) + (1 : Nat)) (1 : Nat)) = (AV.sl (1 : Nat) (y_13 + (1 : Nat)) (0 : Nat) (y_13 + (1 : Nat)) (1 : Nat))) ∧
 (((AV.int IntKind.i64 (Nat.cast (List.length ks) : Int)) = (AV.int IntKind.i64 (Nat.cast (List.length ks) : Int))) ∧
 True))))))))))))))
else False)))))))))))))))
else False)
else False)
else (bif (((Nat.beq (List.length (cellsI (lM f (List.take x_4 ks)))) (x_4 + (1 : Nat))) && (Nat.ble ((0 : Nat) + ((x_4 + (1 : Nat)) * (1 : Nat))) (x_4 + (1 : Nat)))) && Bool.true) then (∃ xs_5 : (List Int), ((Lf (((List.map (fun x_6 : AV => (frzV (1 : Nat) ((Blk.mk BK.exact Bool.true ((AV.int IntKind.i64 f) :: [])) :: ((Blk.mk BK.grow Bool.true (cellsI (lM f (List.take x_4 ks)))) :: [])) (8 : Nat) x_6)) (List.take ((x_4 + (1 : Nat)) * (1 : Nat)) (List.drop (0 : Nat) (cellsI (lM f (List.take x_4 ks)))))) = (cellsI xs_5)) ∧
 (((x_4 + (1 : Nat)) = (List.length xs_5)) ∧
 ((List.length xs_5) ≤ (4611686018427387904 : Nat))))) ∧
 (∃ n_6 : Int, (((AV.int IntKind.i64 (pairsNM xs_5)) = (AV.int IntKind.i64 n_6)) ∧
 (bif (n_6 != (0 : Int)) then False
else (∃ n_7 : Int, (((AV.int IntKind.i64 (Nat.cast (List.length (pairsEM xs_5)) : Int)) = (AV.int IntKind.i64 n_7)) ∧
 (bif (decide (n_7 < (1 : Int))) then False
else (∃ n_8 : Int, (((AV.int IntKind.i64 (Nat.cast (List.length (pairsEM xs_5)) : Int)) = (AV.int IntKind.i64 n_8)) ∧
 (bif (Nat.beq (List.length (cellsI (lM f (List.take x_4 ks)))) (x_4 + (1 : Nat))) then (∃ n_9 : Int, (((AV.int IntKind.i64 (Nat.cast (x_4 + (1 : Nat)) : Int)) = (AV.int IntKind.i64 n_9)) ∧
 (bif (decide (n_8 > n_9)) then False
else (∃ n_10 : Int, (((AV.int IntKind.i64 (Nat.cast (List.length (pairsEM xs_5)) : Int)) = (AV.int IntKind.i64 n_10)) ∧
 (((∃ x_11 : Nat, ((Lf True) ∧
 ((((AV.int IntKind.i64 f) :: []) = ((AV.int IntKind.i64 f) :: [])) ∧
 (((cellsI (lM f (List.take x_4 ks))) = (cellsI (lM f ks))) ∧
 (((AV.int IntKind.i64 n_10) = (AV.int IntKind.i64 (Nat.cast (List.length ps) : Int))) ∧
 ((AV.nils = AV.nils) ∧
 (((AV.lst (0 : Nat) (cellsPM (pairsEM xs_5)) (List.length (pairsEM xs_5)) (2 : Nat)) = (AV.lst (0 : Nat) (cellsPM ps) (List.length ps) (2 : Nat))) ∧
 (((AV.int IntKind.i64 (0 : Int)) = (AV.int IntKind.i64 (0 : Int))) ∧
 (((AV.sl (1 : Nat) (x_4 + (1 : Nat)) (0 : Nat) (x_4 + (1 : Nat)) (1 : Nat)) = (AV.sl (1 : Nat) ((List.length ks) + (1 : Nat)) (0 : Nat) ((List.length ks) + (1 : Nat)) (1 : Nat))) ∧
 (((AV.lst (0 : Nat) (cellsPM (pairsEM xs_5)) (List.length (pairsEM xs_5)) (2 : Nat)) = (AV.lst (0 : Nat) (cellsPM ps) (List.length ps) (2 : Nat))) ∧
 True)))))))))) ∨
 (∃ x_11 : Nat, ((Lf (((1 : Nat) ≤ x_11) ∧
 (x_11 ≤ (List.length ps)))) ∧
 ((((AV.int IntKind.i64 f) :: []) = ((AV.int IntKind.i64 f) :: [])) ∧
 (((cellsI (lM f (List.take x_4 ks))) = (cellsI (lM f ks))) ∧
 False))))) ∧
 ((Nat →
((Lf True) →
(bif (decide ((0 : Int) < (Nat.cast (List.length ps) : Int))) then (∃ n_11 : Int, (((AV.int IntKind.i64 (0 : Int)) = (AV.int IntKind.i64 n_11)) ∧
 (bif ((Nat.blt (0 : Nat) (List.length ps)) && Bool.true) then (bif (Nat.ble (2 : Nat) (List.length (cellsPM ps))) then (∃ n_12 : Int, (∃ n_13 : Int, (((AV.agg (List.take (2 : Nat) (List.drop (0 : Nat) (cellsPM ps)))) = (AV.agg ((AV.int IntKind.i64 n_12) :: ((AV.int IntKind.i64 n_13) :: [])))) ∧
 (bif (decide (n_11 > (0 : Int))) then (∃ n_14 : Int, (((AV.int IntKind.i64 (IntKind.wrap IntKind.i64 (n_11 - (1 : Int)))) = (AV.int IntKind.i64 n_14)) ∧
 (bif (((decide ((0 : Int) ≤ n_14)) && (Nat.blt (Int.toNat n_14) (List.length ps))) && Bool.true) then (bif (Nat.blt (((Int.toNat n_14) * (2 : Nat)) + (0 : Nat)) (List.length (cellsPM ps))) then (∃ n_15 : Int, (((List.getD (cellsPM ps) (((Int.toNat n_14) * (2 : Nat)) + (0 : Nat)) AV.undef) = (AV.int IntKind.i64 n_15)) ∧
 (∃ n_16 : Int, (((AV.int IntKind.i64 (IntKind.wrap IntKind.i64 (n_12 - n_15))) = (AV.int IntKind.i64 n_16)) ∧
 (∃ n_17 : Int, (((AV.int IntKind.i64 (IntKind.wrap IntKind.i64 (n_16 + (65536 : Int)))) = (AV.int IntKind.i64 n_17)) ∧
 (∃ n_18 : Int, (((AV.int IntKind.i64 (Int.tmod n_17 (65536 : Int))) = (AV.int IntKind.i64 n_18)) ∧
 (bif (decide (n_18 ≤ (16 : Int))) then False
else (bif (decide (n_13 < (0 : Int))) then False
else (bif (decide (n_13 > (65535 : Int))) then False
else ((∃ x_19 : Nat, ((Lf (x_19 ≤ (16 : Nat))) ∧
 ((((AV.int IntKind.i64 f) :: []) = ((AV.int IntKind.i64 f) :: [])) ∧
 (((cellsI (lM f ks)) = (cellsI (lM f ks))) ∧
 ((((AV.int IntKind.i64 n_12) :: ((AV.int IntKind.i64 n_13) :: [])) = ((AV.int IntKind.i64 (fstM ps (0 : Nat))) :: ((AV.int IntKind.i64 (sndM ps (0 : Nat))) :: []))) ∧
 ((((AV.int IntKind.i64 n_12) :: []) = (cellsI (decM (fstM ps (0 : Nat)) (sndM ps (0 : Nat)) x_19))) ∧
 (((AV.int IntKind.i64 (Nat.cast (List.length ps) : Int)) = (AV.int IntKind.i64 (Nat.cast (List.length ps) : Int))) ∧
 (((AV.sl (3 : Nat) (1 : Nat) (0 : Nat) (1 : Nat) (1 : Nat)) = (AV.sl (3 : Nat) (List.length (decM (fstM ps (0 : Nat)) (sndM ps (0 : Nat)) x_19)) (0 : Nat) (List.length (decM (fstM ps (0 : Nat)) (sndM ps (0 : Nat)) x_19)) (1 : Nat))) ∧
 (((AV.lst (0 : Nat) (cellsPM ps) (List.length ps) (2 : Nat)) = (AV.lst (0 : Nat) (cellsPM ps) (List.length ps) (2 : Nat))) ∧
 (((AV.ptr (2 : Nat) (2 : Nat) (0 : Nat)) = (AV.ptr (2 : Nat) (2 : Nat) (0 : Nat))) ∧
 (((AV.int IntKind.i64 (0 : Int)) = (AV.int IntKind.i64 (0 : Int))) ∧
 (((AV.int IntKind.i64 (0 : Int)) = (AV.int IntKind.i64 (Nat.cast x_19 : Int))) ∧
 (((AV.sl (1 : Nat) ((List.length ks) + (1 : Nat)) (0 : Nat) ((List.length ks) + (1 : Nat)) (1 : Nat)) = (AV.sl (1 : Nat) ((List.length ks) + (1 : Nat)) (0 : Nat) ((List.length ks) + (1 : Nat)) (1 : Nat))) ∧
 (((AV.lst (0 : Nat) (cellsPM ps) (List.length ps) (2 : Nat)) = (AV.lst (0 : Nat) (cellsPM ps) (List.length ps) (2 : Nat))) ∧
 True)))))))))))))) ∧
 (∀ x_19 : Nat, ((Lf (x_19 ≤ (16 : Nat))) →
(bif (decide ((Nat.cast x_19 : Int) < (16 : Int))) then (∃ n_20 : Int, (((AV.int IntKind.i64 (Nat.cast x_19 : Int)) = (AV.int IntKind.i64 n_20)) ∧
 (∃ n_21 : Int, (((AV.int IntKind.i64 (sndM ps (0 : Nat))) = (AV.int IntKind.i64 n_21)) ∧
 (bif ((decide ((0 : Int) ≤ n_20)) && Bool.true) then (∃ n_22 : Int, (((AV.int IntKind.i64 (Int.fdiv n_21 ((2 : Int) ^ (Min.min (Int.toNat n_20) (64 : Nat))))) = (AV.int IntKind.i64 n_22)) ∧
 (∃ n_23 : Int, (((AV.int IntKind.i64 (IntKind.wrap IntKind.i64 (Nat.cast ((Int.toNat (n_22 % (18446744073709551616 : Int))) &&& (1 : Nat)) : Int))) = (AV.int IntKind.i64 n_23)) ∧
 (bif (n_23 == (1 : Int)) then (∃ n_24 : Int, (((AV.int IntKind.i64 (fstM ps (0 : Nat))) = (AV.int IntKind.i64 n_24)) ∧
 (∃ n_25 : Int, (((AV.int IntKind.i64 (IntKind.wrap IntKind.i64 (n_24 + (1 : Int)))) = (AV.int IntKind.i64 n_25)) ∧
 (∃ n_26 : Int, (((AV.int IntKind.i64 (IntKind.wrap IntKind.i64 (n_25 + n_20))) = (AV.int IntKind.i64 n_26)) ∧
 (∃ n_27 : Int, (((AV.int IntKind.i64 (Int.tmod n_26 (65536 : Int))) = (AV.int IntKind.i64 n_27)) ∧
 (bif (((((Nat.beq (List.length (cellsI (decM (fstM ps (0 : Nat)) (sndM ps (0 : Nat)) x_19))) (List.length (decM (fstM ps (0 : Nat)) (sndM ps (0 : Nat)) x_19))) && Bool.true) && (Nat.beq ((0 : Nat) + ((List.length (decM (fstM ps (0 : Nat)) (sndM ps (0 : Nat)) x_19)) * (1 : Nat))) (List.length (decM (fstM ps (0 : Nat)) (sndM ps (0 : Nat)) x_19)))) && (Nat.ble ((List.length (decM (fstM ps (0 : Nat)) (sndM ps (0 : Nat)) x_19)) + (1 : Nat)) (1099511627776 : Nat))) && (Nat.ble (((List.length (decM (fstM ps (0 : Nat)) (sndM ps (0 : Nat)) x_19)) + (1 : Nat)) * (8 : Nat)) (1099511627776 : Nat))) then (∃ n_28 : Int, (((AV.int IntKind.i64 (IntKind.wrap IntKind.i64 ((Nat.cast x_19 : Int) + (1 : Int)))) = (AV.int IntKind.i64 n_28)) ∧
 ((True ∧
 ((0 : Nat) = (0 : Nat))) ∧
 (∃ y_29 : Nat, ((Lf (y_29 ≤ (16 : Nat))) ∧
 ((((16 : Nat) - y_29) < ((16 : Nat) - x_19)) ∧
 ((((AV.int IntKind.i64 f) :: []) = ((AV.int IntKind.i64 f) :: [])) ∧
 (((cellsI (lM f ks)) = (cellsI (lM f ks))) ∧
 ((((AV.int IntKind.i64 (fstM ps (0 : Nat))) :: ((AV.int IntKind.i64 (sndM ps (0 : Nat))) :: [])) = ((AV.int IntKind.i64 (fstM ps (0 : Nat))) :: ((AV.int IntKind.i64 (sndM ps (0 : Nat))) :: []))) ∧
 ((((cellsI (decM (fstM ps (0 : Nat)) (sndM ps (0 : Nat)) x_19)) ++ ((AV.int IntKind.i64 n_27) :: [])) = (cellsI (decM (fstM ps (0 : Nat)) (sndM ps (0 : Nat)) y_29))) ∧
 (((AV.int IntKind.i64 (Nat.cast (List.length ps) : Int)) = (AV.int IntKind.i64 (Nat.cast (List.length ps) : Int))) ∧
 (((AV.sl (3 : Nat) ((List.length (decM (fstM ps (0 : Nat)) (sndM ps (0 : Nat)) x_19)) + (1 : Nat)) (0 : Nat) ((List.length (decM (fstM ps (0 : Nat)) (sndM ps (0 : Nat)) x_19)) + (1 : Nat)) (1 : Nat)) = (AV.sl (3 : Nat) (List.length (decM (fstM ps (0 : Nat)) (sndM ps (0 : Nat)) y_29)) (0 : Nat) (List.length (decM (fstM ps (0 : Nat)) (sndM ps (0 : Nat)) y_29)) (1 : Nat))) ∧
 (((AV.lst (0 : Nat) (cellsPM ps) (List.length ps) (2 : Nat)) = (AV.lst (0 : Nat) (cellsPM ps) (List.length ps) (2 : Nat))) ∧
 (((AV.ptr (2 : Nat) (2 : Nat) (0 : Nat)) = (AV.ptr (2 : Nat) (2 : Nat) (0 : Nat))) ∧
 (((AV.int IntKind.i64 (0 : Int)) = (AV.int IntKind.i64 (0 : Int))) ∧
 (((AV.int IntKind.i64 n_28) = (AV.int IntKind.i64 (Nat.cast y_29 : Int))) ∧
 (((AV.sl (1 : Nat) ((List.length ks) + (1 : Nat)) (0 : Nat) ((List.length ks) + (1 : Nat)) (1 : Nat)) = (AV.sl (1 : Nat) ((List.length ks) + (1 : Nat)) (0 : Nat) ((List.length ks) + (1 : Nat)) (1 : Nat))) ∧
 (((AV.lst (0 : Nat) (cellsPM ps) (List.length ps) (2 : Nat)) = (AV.lst (0 : Nat) (cellsPM ps) (List.length ps) (2 : Nat))) ∧
 True))))))))))))))))))
else False)))))))))
else (∃ n_24 : Int, (((AV.int IntKind.i64 (IntKind.wrap IntKind.i64 ((Nat.cast x_19 : Int) + (1 : Int)))) = (AV.int IntKind.i64 n_24)) ∧
 ((True ∧
 ((0 : Nat) = (0 : Nat))) ∧
 (∃ y_25 : Nat, ((Lf (y_25 ≤ (16 : Nat))) ∧
 ((((16 : Nat) - y_25) < ((16 : Nat) - x_19)) ∧
 ((((AV.int IntKind.i64 f) :: []) = ((AV.int IntKind.i64 f) :: [])) ∧
 (((cellsI (lM f ks)) = (cellsI (lM f ks))) ∧
 ((((AV.int IntKind.i64 (fstM ps (0 : Nat))) :: ((AV.int IntKind.i64 (sndM ps (0 : Nat))) :: [])) = ((AV.int IntKind.i64 (fstM ps (0 : Nat))) :: ((AV.int IntKind.i64 (sndM ps (0 : Nat))) :: []))) ∧
 (((cellsI (decM (fstM ps (0 : Nat)) (sndM ps (0 : Nat)) x_19)) = (cellsI (decM (fstM ps (0 : Nat)) (sndM ps (0 : Nat)) y_25))) ∧
 (((AV.int IntKind.i64 (Nat.cast (List.length ps) : Int)) = (AV.int IntKind.i64 (Nat.cast (List.length ps) : Int))) ∧
 (((AV.sl (3 : Nat) (List.length (decM (fstM ps (0 : Nat)) (sndM ps (0 : Nat)) x_19)) (0 : Nat) (List.length (decM (fstM ps (0 : Nat)) (sndM ps (0 : Nat)) x_19)) (1 : Nat)) = (AV.sl (3 : Nat) (List.length (decM (fstM ps (0 : Nat)) (sndM ps (0 : Nat)) y_25)) (0 : Nat) (List.length (decM (fstM ps (0 : Nat)) (sndM ps (0 : Nat)) y_25)) (1 : Nat))) ∧
 (((AV.lst (0 : Nat) (cellsPM ps) (List.length ps) (2 : Nat)) = (AV.lst (0 : Nat) (cellsPM ps) (List.length ps) (2 : Nat))) ∧
 (((AV.ptr (2 : Nat) (2 : Nat) (0 : Nat)) = (AV.ptr (2 : Nat) (2 : Nat) (0 : Nat))) ∧
 (((AV.int IntKind.i64 (0 : Int)) = (AV.int IntKind.i64 (0 : Int))) ∧
 (((AV.int IntKind.i64 n_24) = (AV.int IntKind.i64 (Nat.cast y_25 : Int))) ∧
 (((AV.sl (1 : Nat) ((List.length ks) + (1 : Nat)) (0 : Nat) ((List.length ks) + (1 : Nat)) (1 : Nat)) = (AV.sl (1 : Nat) ((List.length ks) + (1 : Nat)) (0 : Nat) ((List.length ks) + (1 : Nat)) (1 : Nat))) ∧
 (((AV.lst (0 : Nat) (cellsPM ps) (List.length ps) (2 : Nat)) = (AV.lst (0 : Nat) (cellsPM ps) (List.length ps) (2 : Nat))) ∧
 True)))))))))))))))))))))))
else False)))))
else (∃ n_20 : Int, (((AV.int IntKind.i64 (1 : Int)) = (AV.int IntKind.i64 n_20)) ∧
 ((True ∧
 ((0 : Nat) = (0 : Nat))) ∧
 ((∃ y_21 : Nat, ((Lf True) ∧
 ((((List.length ps) + (1 : Nat)) < ((List.length ps) + (1 : Nat))) ∧
 ((((AV.int IntKind.i64 f) :: []) = ((AV.int IntKind.i64 f) :: [])) ∧
 (((cellsI (lM f ks)) = (cellsI (lM f ks))) ∧
 False))))) ∨
 (∃ y_21 : Nat, ((Lf (((1 : Nat) ≤ y_21) ∧
 (y_21 ≤ (List.length ps)))) ∧
 ((((List.length ps) - y_21) < ((List.length ps) + (1 : Nat))) ∧
 ((((AV.int IntKind.i64 f) :: []) = ((AV.int IntKind.i64 f) :: [])) ∧
 (((cellsI (lM f ks)) = (cellsI (lM f ks))) ∧
 ((((AV.int IntKind.i64 (fstM ps (0 : Nat))) :: ((AV.int IntKind.i64 (sndM ps (0 : Nat))) :: [])) = ((AV.int IntKind.i64 (fstM ps (0 : Nat))) :: ((AV.int IntKind.i64 (sndM ps (0 : Nat))) :: []))) ∧
 (((cellsI (decM (fstM ps (0 : Nat)) (sndM ps (0 : Nat)) x_19)) = (cellsI (allM (List.take y_21 ps)))) ∧
 (((AV.int IntKind.i64 (Nat.cast (List.length ps) : Int)) = (AV.int IntKind.i64 (Nat.cast (List.length ps) : Int))) ∧
 (((AV.sl (3 : Nat) (List.length (decM (fstM ps (0 : Nat)) (sndM ps (0 : Nat)) x_19)) (0 : Nat) (List.length (decM (fstM ps (0 : Nat)) (sndM ps (0 : Nat)) x_19)) (1 : Nat)) = (AV.sl (3 : Nat) (List.length (allM (List.take y_21 ps))) (0 : Nat) (List.length (allM (List.take y_21 ps))) (1 : Nat))) ∧
 (((AV.lst (0 : Nat) (cellsPM ps) (List.length ps) (2 : Nat)) = (AV.lst (0 : Nat) (cellsPM ps) (List.length ps) (2 : Nat))) ∧
 (((AV.int IntKind.i64 n_20) = (AV.int IntKind.i64 (Nat.cast y_21 : Int))) ∧
 (((AV.sl (1 : Nat) ((List.length ks) + (1 : Nat)) (0 : Nat) ((List.length ks) + (1 : Nat)) (1 : Nat)) = (AV.sl (1 : Nat) ((List.length ks) + (1 : Nat)) (0 : Nat) ((List.length ks) + (1 : Nat)) (1 : Nat))) ∧
 (((AV.lst (0 : Nat) (cellsPM ps) (List.length ps) (2 : Nat)) = (AV.lst (0 : Nat) (cellsPM ps) (List.length ps) (2 : Nat))) ∧
 True))))))))))))))))))))))))))))))))
else False)
else False)))
else (bif (decide (n_13 < (0 : Int))) then False
else (bif (decide (n_13 > (65535 : Int))) then False
else ((∃ x_14 : Nat, ((Lf (x_14 ≤ (16 : Nat))) ∧
 ((((AV.int IntKind.i64 f) :: []) = ((AV.int IntKind.i64 f) :: [])) ∧
 (((cellsI (lM f ks)) = (cellsI (lM f ks))) ∧
 ((((AV.int IntKind.i64 n_12) :: ((AV.int IntKind.i64 n_13) :: [])) = ((AV.int IntKind.i64 (fstM ps (0 : Nat))) :: ((AV.int IntKind.i64 (sndM ps (0 : Nat))) :: []))) ∧
 ((((AV.int IntKind.i64 n_12) :: []) = (cellsI (decM (fstM ps (0 : Nat)) (sndM ps (0 : Nat)) x_14))) ∧
 (((AV.int IntKind.i64 (Nat.cast (List.length ps) : Int)) = (AV.int IntKind.i64 (Nat.cast (List.length ps) : Int))) ∧
 (((AV.sl (3 : Nat) (1 : Nat) (0 : Nat) (1 : Nat) (1 : Nat)) = (AV.sl (3 : Nat) (List.length (decM (fstM ps (0 : Nat)) (sndM ps (0 : Nat)) x_14)) (0 : Nat) (List.length (decM (fstM ps (0 : Nat)) (sndM ps (0 : Nat)) x_14)) (1 : Nat))) ∧
 (((AV.lst (0 : Nat) (cellsPM ps) (List.length ps) (2 : Nat)) = (AV.lst (0 : Nat) (cellsPM ps) (List.length ps) (2 : Nat))) ∧
 (((AV.ptr (2 : Nat) (2 : Nat) (0 : Nat)) = (AV.ptr (2 : Nat) (2 : Nat) (0 : Nat))) ∧
 (((AV.int IntKind.i64 (0 : Int)) = (AV.int IntKind.i64 (0 : Int))) ∧
 (((AV.int IntKind.i64 (0 : Int)) = (AV.int IntKind.i64 (Nat.cast x_14 : Int))) ∧
 (((AV.sl (1 : Nat) ((List.length ks) + (1 : Nat)) (0 : Nat) ((List.length ks) + (1 : Nat)) (1 : Nat)) = (AV.sl (1 : Nat) ((List.length ks) + (1 : Nat)) (0 : Nat) ((List.length ks) + (1 : Nat)) (1 : Nat))) ∧
 (((AV.lst (0 : Nat) (cellsPM ps) (List.length ps) (2 : Nat)) = (AV.lst (0 : Nat) (cellsPM ps) (List.length ps) (2 : Nat))) ∧
 True)))))))))))))) ∧
 (∀ x_14 : Nat, ((Lf (x_14 ≤ (16 : Nat))) →
(bif (decide ((Nat.cast x_14 : Int) < (16 : Int))) then (∃ n_15 : Int, (((AV.int IntKind.i64 (Nat.cast x_14 : Int)) = (AV.int IntKind.i64 n_15)) ∧
 (∃ n_16 : Int, (((AV.int IntKind.i64 (sndM ps (0 : Nat))) = (AV.int IntKind.i64 n_16)) ∧
 (bif ((decide ((0 : Int) ≤ n_15)) && Bool.true) then (∃ n_17 : Int, (((AV.int IntKind.i64 (Int.fdiv n_16 ((2 : Int) ^ (Min.min (Int.toNat n_15) (64 : Nat))))) = (AV.int IntKind.i64 n_17)) ∧
 (∃ n_18 : Int, (((AV.int IntKind.i64 (IntKind.wrap IntKind.i64 (Nat.cast ((Int.toNat (n_17 % (18446744073709551616 : Int))) &&& (1 : Nat)) : Int))) = (AV.int IntKind.i64 n_18)) ∧
 (bif (n_18 == (1 : Int)) then (∃ n_19 : Int, (((AV.int IntKind.i64 (fstM ps (0 : Nat))) = (AV.int IntKind.i64 n_19)) ∧
 (∃ n_20 : Int, (((AV.int IntKind.i64 (IntKind.wrap IntKind.i64 (n_19 + (1 : Int)))) = (AV.int IntKind.i64 n_20)) ∧
 (∃ n_21 : Int, (((AV.int IntKind.i64 (IntKind.wrap IntKind.i64 (n_20 + n_15))) = (AV.int IntKind.i64 n_21)) ∧
 (∃ n_22 : Int, (((AV.int IntKind.i64 (Int.tmod n_21 (65536 : Int))) = (AV.int IntKind.i64 n_22)) ∧
 (bif (((((Nat.beq (List.length (cellsI (decM (fstM ps (0 : Nat)) (sndM ps (0 : Nat)) x_14))) (List.length (decM (fstM ps (0 : Nat)) (sndM ps (0 : Nat)) x_14))) && Bool.true) && (Nat.beq ((0 : Nat) + ((List.length (decM (fstM ps (0 : Nat)) (sndM ps (0 : Nat)) x_14)) * (1 : Nat))) (List.length (decM (fstM ps (0 : Nat)) (sndM ps (0 : Nat)) x_14)))) && (Nat.ble ((List.length (decM (fstM ps (0 : Nat)) (sndM ps (0 : Nat)) x_14)) + (1 : Nat)) (1099511627776 : Nat))) && (Nat.ble (((List.length (decM (fstM ps (0 : Nat)) (sndM ps (0 : Nat)) x_14)) + (1 : Nat)) * (8 : Nat)) (1099511627776 : Nat))) then (∃ n_23 : Int, (((AV.int IntKind.i64 (IntKind.wrap IntKind.i64 ((Nat.cast x_14 : Int) + (1 : Int)))) = (AV.int IntKind.i64 n_23)) ∧
 ((True ∧
 ((0 : Nat) = (0 : Nat))) ∧
 (∃ y_24 : Nat, ((Lf (y_24 ≤ (16 : Nat))) ∧
 ((((16 : Nat) - y_24) < ((16 : Nat) - x_14)) ∧
 ((((AV.int IntKind.i64 f) :: []) = ((AV.int IntKind.i64 f) :: [])) ∧
 (((cellsI (lM f ks)) = (cellsI (lM f ks))) ∧
 ((((AV.int IntKind.i64 (fstM ps (0 : Nat))) :: ((AV.int IntKind.i64 (sndM ps (0 : Nat))) :: [])) = ((AV.int IntKind.i64 (fstM ps (0 : Nat))) :: ((AV.int IntKind.i64 (sndM ps (0 : Nat))) :: []))) ∧
 ((((cellsI (decM (fstM ps (0 : Nat)) (sndM ps (0 : Nat)) x_14)) ++ ((AV.int IntKind.i64 n_22) :: [])) = (cellsI (decM (fstM ps (0 : Nat)) (sndM ps (0 : Nat)) y_24))) ∧
 (((AV.int IntKind.i64 (Nat.cast (List.length ps) : Int)) = (AV.int IntKind.i64 (Nat.cast (List.length ps) : Int))) ∧
 (((AV.sl (3 : Nat) ((List.length (decM (fstM ps (0 : Nat)) (sndM ps (0 : Nat)) x_14)) + (1 : Nat)) (0 : Nat) ((List.length (decM (fstM ps (0 : Nat)) (sndM ps (0 : Nat)) x_14)) + (1 : Nat)) (1 : Nat)) = (AV.sl (3 : Nat) (List.length (decM (fstM ps (0 : Nat)) (sndM ps (0 : Nat)) y_24)) (0 : Nat) (List.length (decM (fstM ps (0 : Nat)) (sndM ps (0 : Nat)) y_24)) (1 : Nat))) ∧
 (((AV.lst (0 : Nat) (cellsPM ps) (List.length ps) (2 : Nat)) = (AV.lst (0 : Nat) (cellsPM ps) (List.length ps) (2 : Nat))) ∧
 (((AV.ptr (2 : Nat) (2 : Nat) (0 : Nat)) = (AV.ptr (2 : Nat) (2 : Nat) (0 : Nat))) ∧
 (((AV.int IntKind.i64 (0 : Int)) = (AV.int IntKind.i64 (0 : Int))) ∧
 (((AV.int IntKind.i64 n_23) = (AV.int IntKind.i64 (Nat.cast y_24 : Int))) ∧
 (((AV.sl (1 : Nat) ((List.length ks) + (1 : Nat)) (0 : Nat) ((List.length ks) + (1 : Nat)) (1 : Nat)) = (AV.sl (1 : Nat) ((List.length ks) + (1 : Nat)) (0 : Nat) ((List.length ks) + (1 : Nat)) (1 : Nat))) ∧
 (((AV.lst (0 : Nat) (cellsPM ps) (List.length ps) (2 : Nat)) = (AV.lst (0 : Nat) (cellsPM ps) (List.length ps) (2 : Nat))) ∧
 True))))))))))))))))))
else False)))))))))
else (∃ n_19 : Int, (((AV.int IntKind.i64 (IntKind.wrap IntKind.i64 ((Nat.cast x_14 : Int) + (1 : Int)))) = (AV.int IntKind.i64 n_19)) ∧
 ((True ∧
 ((0 : Nat) = (0 : Nat))) ∧
 (∃ y_20 : Nat, ((Lf (y_20 ≤ (16 : Nat))) ∧
 ((((16 : Nat) - y_20) < ((16 : Nat) - x_14)) ∧
 ((((AV.int IntKind.i64 f) :: []) = ((AV.int IntKind.i64 f) :: [])) ∧
 (((cellsI (lM f ks)) = (cellsI (lM f ks))) ∧
 ((((AV.int IntKind.i64 (fstM ps (0 : Nat))) :: ((AV.int IntKind.i64 (sndM ps (0 : Nat))) :: [])) = ((AV.int IntKind.i64 (fstM ps (0 : Nat))) :: ((AV.int IntKind.i64 (sndM ps (0 : Nat))) :: []))) ∧
 (((cellsI (decM (fstM ps (0 : Nat)) (sndM ps (0 : Nat)) x_14)) = (cellsI (decM (fstM ps (0 : Nat)) (sndM ps (0 : Nat)) y_20))) ∧
 (((AV.int IntKind.i64 (Nat.cast (List.length ps) : Int)) = (AV.int IntKind.i64 (Nat.cast (List.length ps) : Int))) ∧
 (((AV.sl (3 : Nat) (List.length (decM (fstM ps (0 : Nat)) (sndM ps (0 : Nat)) x_14)) (0 : Nat) (List.length (decM (fstM ps (0 : Nat)) (sndM ps (0 : Nat)) x_14)) (1 : Nat)) = (AV.sl (3 : Nat) (List.length (decM (fstM ps (0 : Nat)) (sndM ps (0 : Nat)) y_20)) (0 : Nat) (List.length (decM (fstM ps (0 : Nat)) (sndM ps (0 : Nat)) y_20)) (1 : Nat))) ∧
 (((AV.lst (0 : Nat) (cellsPM ps) (List.length ps) (2 : Nat)) = (AV.lst (0 : Nat) (cellsPM ps) (List.length ps) (2 : Nat))) ∧
 (((AV.ptr (2 : Nat) (2 : Nat) (0 : Nat)) = (AV.ptr (2 : Nat) (2 : Nat) (0 : Nat))) ∧
 (((AV.int IntKind.i64 (0 : Int)) = (AV.int IntKind.i64 (0 : Int))) ∧
 (((AV.int IntKind.i64 n_19) = (AV.int IntKind.i64 (Nat.cast y_20 : Int))) ∧
 (((AV.sl (1 : Nat) ((List.length ks) + (1 : Nat)) (0 : Nat) ((List.length ks) + (1 : Nat)) (1 : Nat)) = (AV.sl (1 : Nat) ((List.length ks) + (1 : Nat)) (0 : Nat) ((List.length ks) + (1 : Nat)) (1 : Nat))) ∧
 (((AV.lst (0 : Nat) (cellsPM ps) (List.length ps) (2 : Nat)) = (AV.lst (0 : Nat) (cellsPM ps) (List.length ps) (2 : Nat))) ∧
 True)))))))))))))))))))))))
else False)))))
else (∃ n_15 : Int, (((AV.int IntKind.i64 (1 : Int)) = (AV.int IntKind.i64 n_15)) ∧
 ((True ∧
 ((0 : Nat) = (0 : Nat))) ∧
 ((∃ y_16 : Nat, ((Lf True) ∧
 ((((List.length ps) + (1 : Nat)) < ((List.length ps) + (1 : Nat))) ∧
 ((((AV.int IntKind.i64 f) :: []) = ((AV.int IntKind.i64 f) :: [])) ∧
 (((cellsI (lM f ks)) = (cellsI (lM f ks))) ∧
 False))))) ∨
 (∃ y_16 : Nat, ((Lf (((1 : Nat) ≤ y_16) ∧
 (y_16 ≤ (List.length ps)))) ∧
 ((((List.length ps) - y_16) < ((List.length ps) + (1 : Nat))) ∧
 ((((AV.int IntKind.i64 f) :: []) = ((AV.int IntKind.i64 f) :: [])) ∧
 (((cellsI (lM f ks)) = (cellsI (lM f ks))) ∧
 ((((AV.int IntKind.i64 (fstM ps (0 : Nat))) :: ((AV.int IntKind.i64 (sndM ps (0 : Nat))) :: [])) = ((AV.int IntKind.i64 (fstM ps (0 : Nat))) :: ((AV.int IntKind.i64 (sndM ps (0 : Nat))) :: []))) ∧
 (((cellsI (decM (fstM ps (0 : Nat)) (sndM ps (0 : Nat)) x_14)) = (cellsI (allM (List.take y_16 ps)))) ∧
 (((AV.int IntKind.i64 (Nat.cast (List.length ps) : Int)) = (AV.int IntKind.i64 (Nat.cast (List.length ps) : Int))) ∧
 (((AV.sl (3 : Nat) (List.length (decM (fstM ps (0 : Nat)) (sndM ps (0 : Nat)) x_14)) (0 : Nat) (List.length (decM (fstM ps (0 : Nat)) (sndM ps (0 : Nat)) x_14)) (1 : Nat)) = (AV.sl (3 : Nat) (List.length (allM (List.take y_16 ps))) (0 : Nat) (List.length (allM (List.take y_16 ps))) (1 : Nat))) ∧
 (((AV.lst (0 : Nat) (cellsPM ps) (List.length ps) (2 : Nat)) = (AV.lst (0 : Nat) (cellsPM ps) (List.length ps) (2 : Nat))) ∧
 (((AV.int IntKind.i64 n_15) = (AV.int IntKind.i64 (Nat.cast y_16 : Int))) ∧
 (((AV.sl (1 : Nat) ((List.length ks) + (1 : Nat)) (0 : Nat) ((List.length ks) + (1 : Nat)) (1 : Nat)) = (AV.sl (1 : Nat) ((List.length ks) + (1 : Nat)) (0 : Nat) ((List.length ks) + (1 : Nat)) (1 : Nat))) ∧
 (((AV.lst (0 : Nat) (cellsPM ps) (List.length ps) (2 : Nat)) = (AV.lst (0 : Nat) (cellsPM ps) (List.length ps) (2 : Nat))) ∧
 True)))))))))))))))))))))))))))
else False)
else False)))
else (bif (((Nat.beq (List.length (cellsI (lM f ks))) ((List.length ks) + (1 : Nat))) && (Nat.ble ((0 : Nat) + (((List.length ks) + (1 : Nat)) * (1 : Nat))) ((List.length ks) + (1 : Nat)))) && Bool.true) then (∃ xs_11 : (List Int), (∃ ys_12 : (List Int), ((Lf (([] = (cellsI xs_11)) ∧
 (((0 : Nat) = (List.length xs_11)) ∧
 (((List.length xs_11) ≤ (4611686018427387904 : Nat)) ∧
 (((List.map (fun x_13 : AV => (frzV (1 : Nat) ((Blk.mk BK.exact Bool.true ((AV.int IntKind.i64 f) :: [])) :: ((Blk.mk BK.grow Bool.true (cellsI (lM f ks))) :: [])) (8 : Nat) x_13)) (List.take (((List.length ks) + (1 : Nat)) * (1 : Nat)) (List.drop (0 : Nat) (cellsI (lM f ks))))) = (cellsI ys_12)) ∧
 ((((List.length ks) + (1 : Nat)) = (List.length ys_12)) ∧
 ((List.length ys_12) ≤ (4611686018427387904 : Nat)))))))) ∧
 (bif (decide (xs_11 = ys_12)) then True
else False))))
else False)))) ∧
 (∀ x_11 : Nat, ((Lf (((1 : Nat) ≤ x_11) ∧
 (x_11 ≤ (List.length ps)))) →
(bif (decide ((Nat.cast x_11 : Int) < (Nat.cast (List.length ps) : Int))) then (∃ n_12 : Int, (((AV.int IntKind.i64 (Nat.cast x_11 : Int)) = (AV.int IntKind.i64 n_12)) ∧
 (bif ((Nat.blt (Int.toNat (Nat.cast x_11 : Int)) (List.length ps)) && Bool.true) then (bif (Nat.ble (((Int.toNat (Nat.cast x_11 : Int)) * (2 : Nat)) + (2 : Nat)) (List.length (cellsPM ps))) then (∃ n_13 : Int, (∃ n_14 : Int, (((AV.agg (List.take (2 : Nat) (List.drop ((Int.toNat (Nat.cast x_11 : Int)) * (2 : Nat)) (cellsPM ps)))) = (AV.agg ((AV.int IntKind.i64 n_13) :: ((AV.int IntKind.i64 n_14) :: [])))) ∧
 (bif (decide (n_12 > (0 : Int))) then (∃ n_15 : Int, (((AV.int IntKind.i64 (IntKind.wrap IntKind.i64 (n_12 - (1 : Int)))) = (AV.int IntKind.i64 n_15)) ∧
 (bif (((decide ((0 : Int) ≤ n_15)) && (Nat.blt (Int.toNat n_15) (List.length ps))) && Bool.true) then (bif (Nat.blt (((Int.toNat n_15) * (2 : Nat)) + (0 : Nat)) (List.length (cellsPM ps))) then (∃ n_16 : Int, (((List.getD (cellsPM ps) (((Int.toNat n_15) * (2 : Nat)) + (0 : Nat)) AV.undef) = (AV.int IntKind.i64 n_16)) ∧
 (∃ n_17 : Int, (((AV.int IntKind.i64 (IntKind.wrap IntKind.i64 (n_13 - n_16))) = (AV.int IntKind.i64 n_17)) ∧
 (∃ n_18 : Int, (((AV.int IntKind.i64 (IntKind.wrap IntKind.i64 (n_17 + (65536 : Int)))) = (AV.int IntKind.i64 n_18)) ∧
 (∃ n_19 : Int, (((AV.int IntKind.i64 (Int.tmod n_18 (65536 : Int))) = (AV.int IntKind.i64 n_19)) ∧
 (bif (decide (n_19 ≤ (16 : Int))) then False
else (bif (decide (n_14 < (0 : Int))) then False
else (bif (decide (n_14 > (65535 : Int))) then False
else (bif (((((Nat.beq (List.length (cellsI (allM (List.take x_11 ps)))) (List.length (allM (List.take x_11 ps)))) && Bool.true) && (Nat.beq ((0 : Nat) + ((List.length (allM (List.take x_11 ps))) * (1 : Nat))) (List.length (allM (List.take x_11 ps))))) && (Nat.ble ((List.length (allM (List.take x_11 ps))) + (1 : Nat)) (1099511627776 : Nat))) && (Nat.ble (((List.length (allM (List.take x_11 ps))) + (1 : Nat)) * (8 : Nat)) (1099511627776 : Nat))) then ((∃ x_20 : Nat, ((Lf (x_20 ≤ (16 : Nat))) ∧
 ((((AV.int IntKind.i64 f) :: []) = ((AV.int IntKind.i64 f) :: [])) ∧
 (((cellsI (lM f ks)) = (cellsI (lM f ks))) ∧
 ((((AV.int IntKind.i64 (fstM ps (0 : Nat))) :: ((AV.int IntKind.i64 (sndM ps (0 : Nat))) :: [])) = ((AV.int IntKind.i64 (fstM ps (0 : Nat))) :: ((AV.int IntKind.i64 (sndM ps (0 : Nat))) :: []))) ∧
 ((((cellsI (allM (List.take x_11 ps))) ++ ((AV.int IntKind.i64 n_13) :: [])) = (cellsI ((allM (List.take (Int.toNat (Nat.cast x_11 : Int)) ps)) ++ (decM (fstM ps (Int.toNat (Nat.cast x_11 : Int))) (sndM ps (Int.toNat (Nat.cast x_11 : Int))) x_20)))) ∧
 ((((AV.int IntKind.i64 n_13) :: ((AV.int IntKind.i64 n_14) :: [])) = ((AV.int IntKind.i64 (fstM ps (Int.toNat (Nat.cast x_11 : Int)))) :: ((AV.int IntKind.i64 (sndM ps (Int.toNat (Nat.cast x_11 : Int)))) :: []))) ∧
 (((AV.int IntKind.i64 (Nat.cast (List.length ps) : Int)) = (AV.int IntKind.i64 (Nat.cast (List.length ps) : Int))) ∧
 (((AV.sl (3 : Nat) ((List.length (allM (List.take x_11 ps))) + (1 : Nat)) (0 : Nat) ((List.length (allM (List.take x_11 ps))) + (1 : Nat)) (1 : Nat)) = (AV.sl (3 : Nat) (List.length ((allM (List.take (Int.toNat (Nat.cast x_11 : Int)) ps)) ++ (decM (fstM ps (Int.toNat (Nat.cast x_11 : Int))) (sndM ps (Int.toNat (Nat.cast x_11 : Int))) x_20))) (0 : Nat) (List.length ((allM (List.take (Int.toNat (Nat.cast x_11 : Int)) ps)) ++ (decM (fstM ps (Int.toNat (Nat.cast x_11 : Int))) (sndM ps (Int.toNat (Nat.cast x_11 : Int))) x_20))) (1 : Nat))) ∧
 (((AV.lst (0 : Nat) (cellsPM ps) (List.length ps) (2 : Nat)) = (AV.lst (0 : Nat) (cellsPM ps) (List.length ps) (2 : Nat))) ∧
 (((AV.ptr (4 : Nat) (2 : Nat) (0 : Nat)) = (AV.ptr (4 : Nat) (2 : Nat) (0 : Nat))) ∧
 (((AV.int IntKind.i64 (Nat.cast x_11 : Int)) = (AV.int IntKind.i64 (Nat.cast (Int.toNat (Nat.cast x_11 : Int)) : Int))) ∧
 (((AV.int IntKind.i64 (0 : Int)) = (AV.int IntKind.i64 (Nat.cast x_20 : Int))) ∧
 (((AV.sl (1 : Nat) ((List.length ks) + (1 : Nat)) (0 : Nat) ((List.length ks) + (1 : Nat)) (1 : Nat)) = (AV.sl (1 : Nat) ((List.length ks) + (1 : Nat)) (0 : Nat) ((List.length ks) + (1 : Nat)) (1 : Nat))) ∧
 (((AV.lst (0 : Nat) (cellsPM ps) (List.length ps) (2 : Nat)) = (AV.lst (0 : Nat) (cellsPM ps) (List.length ps) (2 : Nat))) ∧
 True))))))))))))))) ∧
 (∀ x_20 : Nat, ((Lf (x_20 ≤ (16 : Nat))) →
(bif (decide ((Nat.cast x_20 : Int) < (16 : Int))) then (∃ n_21 : Int, (((AV.int IntKind.i64 (Nat.cast x_20 : Int)) = (AV.int IntKind.i64 n_21)) ∧
 (∃ n_22 : Int, (((AV.int IntKind.i64 (sndM ps (Int.toNat (Nat.cast x_11 : Int)))) = (AV.int IntKind.i64 n_22)) ∧
 (bif ((decide ((0 : Int) ≤ n_21)) && Bool.true) then (∃ n_23 : Int, (((AV.int IntKind.i64 (Int.fdiv n_22 ((2 : Int) ^ (Min.min (Int.toNat n_21) (64 : Nat))))) = (AV.int IntKind.i64 n_23)) ∧
 (∃ n_24 : Int, (((AV.int IntKind.i64 (IntKind.wrap IntKind.i64 (Nat.cast ((Int.toNat (n_23 % (18446744073709551616 : Int))) &&& (1 : Nat)) : Int))) = (AV.int IntKind.i64 n_24)) ∧
 (bif (n_24 == (1 : Int)) then (∃ n_25 : Int, (((AV.int IntKind.i64 (fstM ps (Int.toNat (Nat.cast x_11 : Int)))) = (AV.int IntKind.i64 n_25)) ∧
 (∃ n_26 : Int, (((AV.int IntKind.i64 (IntKind.wrap IntKind.i64 (n_25 + (1 : Int)))) = (AV.int IntKind.i64 n_26)) ∧
 (∃ n_27 : Int, (((AV.int IntKind.i64 (IntKind.wrap IntKind.i64 (n_26 + n_21))) = (AV.int IntKind.i64 n_27)) ∧
 (∃ n_28 : Int, (((AV.int IntKind.i64 (Int.tmod n_27 (65536 : Int))) = (AV.int IntKind.i64 n_28)) ∧
 (bif (((((Nat.beq (List.length (cellsI ((allM (List.take (Int.toNat (Nat.cast x_11 : Int)) ps)) ++ (decM (fstM ps (Int.toNat (Nat.cast x_11 : Int))) (sndM ps (Int.toNat (Nat.cast x_11 : Int))) x_20)))) (List.length ((allM (List.take (Int.toNat (Nat.cast x_11 : Int)) ps)) ++ (decM (fstM ps (Int.toNat (Nat.cast x_11 : Int))) (sndM ps (Int.toNat (Nat.cast x_11 : Int))) x_20)))) && Bool.true) && (Nat.beq ((0 : Nat) + ((List.length ((allM (List.take (Int.toNat (Nat.cast x_11 : Int)) ps)) ++ (decM (fstM ps (Int.toNat (Nat.cast x_11 : Int))) (sndM ps (Int.toNat (Nat.cast x_11 : Int))) x_20))) * (1 : Nat))) (List.length ((allM (List.take (Int.toNat (Nat.cast x_11 : Int)) ps)) ++ (decM (fstM ps (Int.toNat (Nat.cast x_11 : Int))) (sndM ps (Int.toNat (Nat.cast x_11 : Int))) x_20))))) && (Nat.ble ((List.length ((allM (List.take (Int.toNat (Nat.cast x_11 : Int)) ps)) ++ (decM (fstM ps (Int.toNat (Nat.cast x_11 : Int))) (sndM ps (Int.toNat (Nat.cast x_11 : Int))) x_20))) + (1 : Nat)) (1099511627776 : Nat))) && (Nat.ble (((List.length ((allM (List.take (Int.toNat (Nat.cast x_11 : Int)) ps)) ++ (decM (fstM ps (Int.toNat (Nat.cast x_11 : Int))) (sndM ps (Int.toNat (Nat.cast x_11 : Int))) x_20))) + (1 : Nat)) * (8 : Nat)) (1099511627776 : Nat))) then (∃ n_29 : Int, (((AV.int IntKind.i64 (IntKind.wrap IntKind.i64 ((Nat.cast x_20 : Int) + (1 : Int)))) = (AV.int IntKind.i64 n_29)) ∧
 ((True ∧
 ((0 : Nat) = (0 : Nat))) ∧
 (∃ y_30 : Nat, ((Lf (y_30 ≤ (16 : Nat))) ∧
 ((((16 : Nat) - y_30) < ((16 : Nat) - x_20)) ∧
 ((((AV.int IntKind.i64 f) :: []) = ((AV.int IntKind.i64 f) :: [])) ∧
 (((cellsI (lM f ks)) = (cellsI (lM f ks))) ∧
 ((((AV.int IntKind.i64 (fstM ps (0 : Nat))) :: ((AV.int IntKind.i64 (sndM ps (0 : Nat))) :: [])) = ((AV.int IntKind.i64 (fstM ps (0 : Nat))) :: ((AV.int IntKind.i64 (sndM ps (0 : Nat))) :: []))) ∧
 ((((cellsI ((allM (List.take (Int.toNat (Nat.cast x_11 : Int)) ps)) ++ (decM (fstM ps (Int.toNat (Nat.cast x_11 : Int))) (sndM ps (Int.toNat (Nat.cast x_11 : Int))) x_20))) ++ ((AV.int IntKind.i64 n_28) :: [])) = (cellsI ((allM (List.take (Int.toNat (Nat.cast x_11 : Int)) ps)) ++ (decM (fstM ps (Int.toNat (Nat.cast x_11 : Int))) (sndM ps (Int.toNat (Nat.cast x_11 : Int))) y_30)))) ∧
 ((((AV.int IntKind.i64 (fstM ps (Int.toNat (Nat.cast x_11 : Int)))) :: ((AV.int IntKind.i64 (sndM ps (Int.toNat (Nat.cast x_11 : Int)))) :: [])) = ((AV.int IntKind.i64 (fstM ps (Int.toNat (Nat.cast x_11 : Int)))) :: ((AV.int IntKind.i64 (sndM ps (Int.toNat (Nat.cast x_11 : Int)))) :: []))) ∧
 (((AV.int IntKind.i64 (Nat.cast (List.length ps) : Int)) = (AV.int IntKind.i64 (Nat.cast (List.length ps) : Int))) ∧
 (((AV.sl (3 : Nat) ((List.length ((allM (List.take (Int.toNat (Nat.cast x_11 : Int)) ps)) ++ (decM (fstM ps (Int.toNat (Nat.cast x_11 : Int))) (sndM ps (Int.toNat (Nat.cast x_11 : Int))) x_20))) + (1 : Nat)) (0 : Nat) ((List.length ((allM (List.take (Int.toNat (Nat.cast x_11 : Int)) ps)) ++ (decM (fstM ps (Int.toNat (Nat.cast x_11 : Int))) (sndM ps (Int.toNat (Nat.cast x_11 : Int))) x_20))) + (1 : Nat)) (1 : Nat)) = (AV.sl (3 : Nat) (List.length ((allM (List.take (Int.toNat (Nat.cast x_11 : Int)) ps)) ++ (decM (fstM ps (Int.toNat (Nat.cast x_11 : Int))) (sndM ps (Int.toNat (Nat.cast x_11 : Int))) y_30))) (0 : Nat) (List.length ((allM (List.take (Int.toNat (Nat.cast x_11 : Int)) ps)) ++ (decM (fstM ps (Int.toNat (Nat.cast x_11 : Int))) (sndM ps (Int.toNat (Nat.cast x_11 : Int))) y_30))) (1 : Nat))) ∧
 (((AV.lst (0 : Nat) (cellsPM ps) (List.length ps) (2 : Nat)) = (AV.lst (0 : Nat) (cellsPM ps) (List.length ps) (2 : Nat))) ∧
 (((AV.ptr (4 : Nat) (2 : Nat) (0 : Nat)) = (AV.ptr (4 : Nat) (2 : Nat) (0 : Nat))) ∧
 (((AV.int IntKind.i64 (Nat.cast (Int.toNat (Nat.cast x_11 : Int)) : Int)) = (AV.int IntKind.i64 (Nat.cast (Int.toNat (Nat.cast x_11 : Int)) : Int))) ∧
 (((AV.int IntKind.i64 n_29) = (AV.int IntKind.i64 (Nat.cast y_30 : Int))) ∧
 (((AV.sl (1 : Nat) ((List.length ks) + (1 : Nat)) (0 : Nat) ((List.length ks) + (1 : Nat)) (1 : Nat)) = (AV.sl (1 : Nat) ((List.length ks) + (1 : Nat)) (0 : Nat) ((List.length ks) + (1 : Nat)) (1 : Nat))) ∧
 (((AV.lst (0 : Nat) (cellsPM ps) (List.length ps) (2 : Nat)) = (AV.lst (0 : Nat) (cellsPM ps) (List.length ps) (2 : Nat))) ∧
 True)))))))))))))))))))
else False)))))))))
else (∃ n_25 : Int, (((AV.int IntKind.i64 (IntKind.wrap IntKind.i64 ((Nat.cast x_20 : Int) + (1 : Int)))) = (AV.int IntKind.i64 n_25)) ∧
 ((True ∧
 ((0 : Nat) = (0 : Nat))) ∧
 (∃ y_26 : Nat, ((Lf (y_26 ≤ (16 : Nat))) ∧
 ((((16 : Nat) - y_26) < ((16 : Nat) - x_20)) ∧
 ((((AV.int IntKind.i64 f) :: []) = ((AV.int IntKind.i64 f) :: [])) ∧
 (((cellsI (lM f ks)) = (cellsI (lM f ks))) ∧
 ((((AV.int IntKind.i64 (fstM ps (0 : Nat))) :: ((AV.int IntKind.i64 (sndM ps (0 : Nat))) :: [])) = ((AV.int IntKind.i64 (fstM ps (0 : Nat))) :: ((AV.int IntKind.i64 (sndM ps (0 : Nat))) :: []))) ∧
 (((cellsI ((allM (List.take (Int.toNat (Nat.cast x_11 : Int)) ps)) ++ (decM (fstM ps (Int.toNat (Nat.cast x_11 : Int))) (sndM ps (Int.toNat (Nat.cast x_11 : Int))) x_20))) = (cellsI ((allM (List.take (Int.toNat (Nat.cast x_11 : Int)) ps)) ++ (decM (fstM ps (Int.toNat (Nat.cast x_11 : Int))) (sndM ps (Int.toNat (Nat.cast x_11 : Int))) y_26)))) ∧
 ((((AV.int IntKind.i64 (fstM ps (Int.toNat (Nat.cast x_11 : Int)))) :: ((AV.int IntKind.i64 (sndM ps (Int.toNat (Nat.cast x_11 : Int)))) :: [])) = ((AV.int IntKind.i64 (fstM ps (Int.toNat (Nat.cast x_11 : Int)))) :: ((AV.int IntKind.i64 (sndM ps (Int.toNat (Nat.cast x_11 : Int)))) :: []))) ∧
 (((AV.int IntKind.i64 (Nat.cast (List.length ps) : Int)) = (AV.int IntKind.i64 (Nat.cast (List.length ps) : Int))) ∧
 (((AV.sl (3 : Nat) (List.length ((allM (List.take (Int.toNat (Nat.cast x_11 : Int)) ps)) ++ (decM (fstM ps (Int.toNat (Nat.cast x_11 : Int))) (sndM ps (Int.toNat (Nat.cast x_11 : Int))) x_20))) (0 : Nat) (List.length ((allM (List.take (Int.toNat (Nat.cast x_11 : Int)) ps)) ++ (decM (fstM ps (Int.toNat (Nat.cast x_11 : Int))) (sndM ps (Int.toNat (Nat.cast x_11 : Int))) x_20))) (1 : Nat)) = (AV.sl (3 : Nat) (List.length ((allM (List.take (Int.toNat (Nat.cast x_11 : Int)) ps)) ++ (decM (fstM ps (Int.toNat (Nat.cast x_11 : Int))) (sndM ps (Int.toNat (Nat.cast x_11 : Int))) y_26))) (0 : Nat) (List.length ((allM (List.take (Int.toNat (Nat.cast x_11 : Int)) ps)) ++ (decM (fstM ps (Int.toNat (Nat.cast x_11 : Int))) (sndM ps (Int.toNat (Nat.cast x_11 : Int))) y_26))) (1 : Nat))) ∧
 (((AV.lst (0 : Nat) (cellsPM ps) (List.length ps) (2 : Nat)) = (AV.lst (0 : Nat) (cellsPM ps) (List.length ps) (2 : Nat))) ∧
 (((AV.ptr (4 : Nat) (2 : Nat) (0 : Nat)) = (AV.ptr (4 : Nat) (2 : Nat) (0 : Nat))) ∧
 (((AV.int IntKind.i64 (Nat.cast (Int.toNat (Nat.cast x_11 : Int)) : Int)) = (AV.int IntKind.i64 (Nat.cast (Int.toNat (Nat.cast x_11 : Int)) : Int))) ∧
 (((AV.int IntKind.i64 n_25) = (AV.int IntKind.i64 (Nat.cast y_26 : Int))) ∧
 (((AV.sl (1 : Nat) ((List.length ks) + (1 : Nat)) (0 : Nat) ((List.length ks) + (1 : Nat)) (1 : Nat)) = (AV.sl (1 : Nat) ((List.length ks) + (1 : Nat)) (0 : Nat) ((List.length ks) + (1 : Nat)) (1 : Nat))) ∧
 (((AV.lst (0 : Nat) (cellsPM ps) (List.length ps) (2 : Nat)) = (AV.lst (0 : Nat) (cellsPM ps) (List.length ps) (2 : Nat))) ∧
 True))))))))))))))))))))))))
else False)))))
else (∃ n_21 : Int, (((AV.int IntKind.i64 (IntKind.wrap IntKind.i64 ((Nat.cast (Int.toNat (Nat.cast x_11 : Int)) : Int) + (1 : Int)))) = (AV.int IntKind.i64 n_21)) ∧
 ((True ∧
 ((0 : Nat) = (0 : Nat))) ∧
 ((∃ y_22 : Nat, ((Lf True) ∧
 ((((List.length ps) + (1 : Nat)) < ((List.length ps) - x_11)) ∧
 ((((AV.int IntKind.i64 f) :: []) = ((AV.int IntKind.i64 f) :: [])) ∧
 (((cellsI (lM f ks)) = (cellsI (lM f ks))) ∧
 False))))) ∨
 (∃ y_22 : Nat, ((Lf (((1 : Nat) ≤ y_22) ∧
 (y_22 ≤ (List.length ps)))) ∧
 ((((List.length ps) - y_22) < ((List.length ps) - x_11)) ∧
 ((((AV.int IntKind.i64 f) :: []) = ((AV.int IntKind.i64 f) :: [])) ∧
 (((cellsI (lM f ks)) = (cellsI (lM f ks))) ∧
 ((((AV.int IntKind.i64 (fstM ps (0 : Nat))) :: ((AV.int IntKind.i64 (sndM ps (0 : Nat))) :: [])) = ((AV.int IntKind.i64 (fstM ps (0 : Nat))) :: ((AV.int IntKind.i64 (sndM ps (0 : Nat))) :: []))) ∧
 (((cellsI ((allM (List.take (Int.toNat (Nat.cast x_11 : Int)) ps)) ++ (decM (fstM ps (Int.toNat (Nat.cast x_11 : Int))) (sndM ps (Int.toNat (Nat.cast x_11 : Int))) x_20))) = (cellsI (allM (List.take y_22 ps)))) ∧
 (((AV.int IntKind.i64 (Nat.cast (List.length ps) : Int)) = (AV.int IntKind.i64 (Nat.cast (List.length ps) : Int))) ∧
 (((AV.sl (3 : Nat) (List.length ((allM (List.take (Int.toNat (Nat.cast x_11 : Int)) ps)) ++ (decM (fstM ps (Int.toNat (Nat.cast x_11 : Int))) (sndM ps (Int.toNat (Nat.cast x_11 : Int))) x_20))) (0 : Nat) (List.length ((allM (List.take (Int.toNat (Nat.cast x_11 : Int)) ps)) ++ (decM (fstM ps (Int.toNat (Nat.cast x_11 : Int))) (sndM ps (Int.toNat (Nat.cast x_11 : Int))) x_20))) (1 : Nat)) = (AV.sl (3 : Nat) (List.length (allM (List.take y_22 ps))) (0 : Nat) (List.length (allM (List.take y_22 ps))) (1 : Nat))) ∧
 (((AV.lst (0 : Nat) (cellsPM ps) (List.length ps) (2 : Nat)) = (AV.lst (0 : Nat) (cellsPM ps) (List.length ps) (2 : Nat))) ∧
 (((AV.int IntKind.i64 n_21) = (AV.int IntKind.i64 (Nat.cast y_22 : Int))) ∧
 (((AV.sl (1 : Nat) ((List.length ks) + (1 : Nat)) (0 : Nat) ((List.length ks) + (1 : Nat)) (1 : Nat)) = (AV.sl (1 : Nat) ((List.length ks) + (1 : Nat)) (0 : Nat) ((List.length ks) + (1 : Nat)) (1 : Nat))) ∧
 (((AV.lst (0 : Nat) (cellsPM ps) (List.length ps) (2 : Nat)) = (AV.lst (0 : Nat) (cellsPM ps) (List.length ps) (2 : Nat))) ∧
 True)))))))))))))))))))))
else False))))))))))))
else False)
else False)))
else (bif (decide (n_14 < (0 : Int))) then False
else (bif (decide (n_14 > (65535 : Int))) then False
else (bif (((((Nat.beq (List.length (cellsI (allM (List.take x_11 ps)))) (List.length (allM (List.take x_11 ps)))) && Bool.true) && (Nat.beq ((0 : Nat) + ((List.length (allM (List.take x_11 ps))) * (1 : Nat))) (List.length (allM (List.take x_11 ps))))) && (Nat.ble ((List.length (allM (List.take x_11 ps))) + (1 : Nat)) (1099511627776 : Nat))) && (Nat.ble (((List.length (allM (List.take x_11 ps))) + (1 : Nat)) * (8 : Nat)) (1099511627776 : Nat))) then ((∃ x_15 : Nat, ((Lf (x_15 ≤ (16 : Nat))) ∧
 ((((AV.int IntKind.i64 f) :: []) = ((AV.int IntKind.i64 f) :: [])) ∧
 (((cellsI (lM f ks)) = (cellsI (lM f ks))) ∧
 ((((AV.int IntKind.i64 (fstM ps (0 : Nat))) :: ((AV.int IntKind.i64 (sndM ps (0 : Nat))) :: [])) = ((AV.int IntKind.i64 (fstM ps (0 : Nat))) :: ((AV.int IntKind.i64 (sndM ps (0 : Nat))) :: []))) ∧
 ((((cellsI (allM (List.take x_11 ps))) ++ ((AV.int IntKind.i64 n_13) :: [])) = (cellsI ((allM (List.take (Int.toNat (Nat.cast x_11 : Int)) ps)) ++ (decM (fstM ps (Int.toNat (Nat.cast x_11 : Int))) (sndM ps (Int.toNat (Nat.cast x_11 : Int))) x_15)))) ∧
 ((((AV.int IntKind.i64 n_13) :: ((AV.int IntKind.i64 n_14) :: [])) = ((AV.int IntKind.i64 (fstM ps (Int.toNat (Nat.cast x_11 : Int)))) :: ((AV.int IntKind.i64 (sndM ps (Int.toNat (Nat.cast x_11 : Int)))) :: []))) ∧
 (((AV.int IntKind.i64 (Nat.cast (List.length ps) : Int)) = (AV.int IntKind.i64 (Nat.cast (List.length ps) : Int))) ∧
 (((AV.sl (3 : Nat) ((List.length (allM (List.take x_11 ps))) + (1 : Nat)) (0 : Nat) ((List.length (allM (List.take x_11 ps))) + (1 : Nat)) (1 : Nat)) = (AV.sl (3 : Nat) (List.length ((allM (List.take (Int.toNat (Nat.cast x_11 : Int)) ps)) ++ (decM (fstM ps (Int.toNat (Nat.cast x_11 : Int))) (sndM ps (Int.toNat (Nat.cast x_11 : Int))) x_15))) (0 : Nat) (List.length ((allM (List.take (Int.toNat (Nat.cast x_11 : Int)) ps)) ++ (decM (fstM ps (Int.toNat (Nat.cast x_11 : Int))) (sndM ps (Int.toNat (Nat.cast x_11 : Int))) x_15))) (1 : Nat))) ∧
 (((AV.lst (0 : Nat) (cellsPM ps) (List.length ps) (2 : Nat)) = (AV.lst (0 : Nat) (cellsPM ps) (List.length ps) (2 : Nat))) ∧
 (((AV.ptr (4 : Nat) (2 : Nat) (0 : Nat)) = (AV.ptr (4 : Nat) (2 : Nat) (0 : Nat))) ∧
 (((AV.int IntKind.i64 (Nat.cast x_11 : Int)) = (AV.int IntKind.i64 (Nat.cast (Int.toNat (Nat.cast x_11 : Int)) : Int))) ∧
 (((AV.int IntKind.i64 (0 : Int)) = (AV.int IntKind.i64 (Nat.cast x_15 : Int))) ∧
 (((AV.sl (1 : Nat) ((List.length ks) + (1 : Nat)) (0 : Nat) ((List.length ks) + (1 : Nat)) (1 : Nat)) = (AV.sl (1 : Nat) ((List.length ks) + (1 : Nat)) (0 : Nat) ((List.length ks) + (1 : Nat)) (1 : Nat))) ∧
 (((AV.lst (0 : Nat) (cellsPM ps) (List.length ps) (2 : Nat)) = (AV.lst (0 : Nat) (cellsPM ps) (List.length ps) (2 : Nat))) ∧
 True))))))))))))))) ∧
 (∀ x_15 : Nat, ((Lf (x_15 ≤ (16 : Nat))) →
(bif (decide ((Nat.cast x_15 : Int) < (16 : Int))) then (∃ n_16 : Int, (((AV.int IntKind.i64 (Nat.cast x_15 : Int)) = (AV.int IntKind.i64 n_16)) ∧
 (∃ n_17 : Int, (((AV.int IntKind.i64 (sndM ps (Int.toNat (Nat.cast x_11 : Int)))) = (AV.int IntKind.i64 n_17)) ∧
 (bif ((decide ((0 : Int) ≤ n_16)) && Bool.true) then (∃ n_18 : Int, (((AV.int IntKind.i64 (Int.fdiv n_17 ((2 : Int) ^ (Min.min (Int.toNat n_16) (64 : Nat))))) = (AV.int IntKind.i64 n_18)) ∧
 (∃ n_19 : Int, (((AV.int IntKind.i64 (IntKind.wrap IntKind.i64 (Nat.cast ((Int.toNat (n_18 % (18446744073709551616 : Int))) &&& (1 : Nat)) : Int))) = (AV.int IntKind.i64 n_19)) ∧
 (bif (n_19 == (1 : Int)) then (∃ n_20 : Int, (((AV.int IntKind.i64 (fstM ps (Int.toNat (Nat.cast x_11 : Int)))) = (AV.int IntKind.i64 n_20)) ∧
 (∃ n_21 : Int, (((AV.int IntKind.i64 (IntKind.wrap IntKind.i64 (n_20 + (1 : Int)))) = (AV.int IntKind.i64 n_21)) ∧
 (∃ n_22 : Int, (((AV.int IntKind.i64 (IntKind.wrap IntKind.i64 (n_21 + n_16))) = (AV.int IntKind.i64 n_22)) ∧
 (∃ n_23 : Int, (((AV.int IntKind.i64 (Int.tmod n_22 (65536 : Int))) = (AV.int IntKind.i64 n_23)) ∧
 (bif (((((Nat.beq (List.length (cellsI ((allM (List.take (Int.toNat (Nat.cast x_11 : Int)) ps)) ++ (decM (fstM ps (Int.toNat (Nat.cast x_11 : Int))) (sndM ps (Int.toNat (Nat.cast x_11 : Int))) x_15)))) (List.length ((allM (List.take (Int.toNat (Nat.cast x_11 : Int)) ps)) ++ (decM (fstM ps (Int.toNat (Nat.cast x_11 : Int))) (sndM ps (Int.toNat (Nat.cast x_11 : Int))) x_15)))) && Bool.true) && (Nat.beq ((0 : Nat) + ((List.length ((allM (List.take (Int.toNat (Nat.cast x_11 : Int)) ps)) ++ (decM (fstM ps (Int.toNat (Nat.cast x_11 : Int))) (sndM ps (Int.toNat (Nat.cast x_11 : Int))) x_15))) * (1 : Nat))) (List.length ((allM (List.take (Int.toNat (Nat.cast x_11 : Int)) ps)) ++ (decM (fstM ps (Int.toNat (Nat.cast x_11 : Int))) (sndM ps (Int.toNat (Nat.cast x_11 : Int))) x_15))))) && (Nat.ble ((List.length ((allM (List.take (Int.toNat (Nat.cast x_11 : Int)) ps)) ++ (decM (fstM ps (Int.toNat (Nat.cast x_11 : Int))) (sndM ps (Int.toNat (Nat.cast x_11 : Int))) x_15))) + (1 : Nat)) (1099511627776 : Nat))) && (Nat.ble (((List.length ((allM (List.take (Int.toNat (Nat.cast x_11 : Int)) ps)) ++ (decM (fstM ps (Int.toNat (Nat.cast x_11 : Int))) (sndM ps (Int.toNat (Nat.cast x_11 : Int))) x_15))) + (1 : Nat)) * (8 : Nat)) (1099511627776 : Nat))) then (∃ n_24 : Int, (((AV.int IntKind.i64 (IntKind.wrap IntKind.i64 ((Nat.cast x_15 : Int) + (1 : Int)))) = (AV.int IntKind.i64 n_24)) ∧
 ((True ∧
 ((0 : Nat) = (0 : Nat))) ∧
 (∃ y_25 : Nat, ((Lf (y_25 ≤ (16 : Nat))) ∧
 ((((16 : Nat) - y_25) < ((16 : Nat) - x_15)) ∧
 ((((AV.int IntKind.i64 f) :: []) = ((AV.int IntKind.i64 f) :: [])) ∧
 (((cellsI (lM f ks)) = (cellsI (lM f ks))) ∧
 ((((AV.int IntKind.i64 (fstM ps (0 : Nat))) :: ((AV.int IntKind.i64 (sndM ps (0 : Nat))) :: [])) = ((AV.int IntKind.i64 (fstM ps (0 : Nat))) :: ((AV.int IntKind.i64 (sndM ps (0 : Nat))) :: []))) ∧
 ((((cellsI ((allM (List.take (Int.toNat (Nat.cast x_11 : Int)) ps)) ++ (decM (fstM ps (Int.toNat (Nat.cast x_11 : Int))) (sndM ps (Int.toNat (Nat.cast x_11 : Int))) x_15))) ++ ((AV.int IntKind.i64 n_23) :: [])) = (cellsI ((allM (List.take (Int.toNat (Nat.cast x_11 : Int)) ps)) ++ (decM (fstM ps (Int.toNat (Nat.cast x_11 : Int))) (sndM ps (Int.toNat (Nat.cast x_11 : Int))) y_25)))) ∧
 ((((AV.int IntKind.i64 (fstM ps (Int.toNat (Nat.cast x_11 : Int)))) :: ((AV.int IntKind.i64 (sndM ps (Int.toNat (Nat.cast x_11 : Int)))) :: [])) = ((AV.int IntKind.i64 (fstM ps (Int.toNat (Nat.cast x_11 : Int)))) :: ((AV.int IntKind.i64 (sndM ps (Int.toNat (Nat.cast x_11 : Int)))) :: []))) ∧
 (((AV.int IntKind.i64 (Nat.cast (List.length ps) : Int)) = (AV.int IntKind.i64 (Nat.cast (List.length ps) : Int))) ∧
 (((AV.sl (3 : Nat) ((List.length ((allM (List.take (Int.toNat (Nat.cast x_11 : Int)) ps)) ++ (decM (fstM ps (Int.toNat (Nat.cast x_11 : Int))) (sndM ps (Int.toNat (Nat.cast x_11 : Int))) x_15))) + (1 : Nat)) (0 : Nat) ((List.length ((allM (List.take (Int.toNat (Nat.cast x_11 : Int)) ps)) ++ (decM (fstM ps (Int.toNat (Nat.cast x_11 : Int))) (sndM ps (Int.toNat (Nat.cast x_11 : Int))) x_15))) + (1 : Nat)) (1 : Nat)) = (AV.sl (3 : Nat) (List.length ((allM (List.take (Int.toNat (Nat.cast x_11 : Int)) ps)) ++ (decM (fstM ps (Int.toNat (Nat.cast x_11 : Int))) (sndM ps (Int.toNat (Nat.cast x_11 : Int))) y_25))) (0 : Nat) (List.length ((allM (List.take (Int.toNat (Nat.cast x_11 : Int)) ps)) ++ (decM (fstM ps (Int.toNat (Nat.cast x_11 : Int))) (sndM ps (Int.toNat (Nat.cast x_11 : Int))) y_25))) (1 : Nat))) ∧
 (((AV.lst (0 : Nat) (cellsPM ps) (List.length ps) (2 : Nat)) = (AV.lst (0 : Nat) (cellsPM ps) (List.length ps) (2 : Nat))) ∧
 (((AV.ptr (4 : Nat) (2 : Nat) (0 : Nat)) = (AV.ptr (4 : Nat) (2 : Nat) (0 : Nat))) ∧
 (((AV.int IntKind.i64 (Nat.cast (Int.toNat (Nat.cast x_11 : Int)) : Int)) = (AV.int IntKind.i64 (Nat.cast (Int.toNat (Nat.cast x_11 : Int)) : Int))) ∧
 (((AV.int IntKind.i64 n_24) = (AV.int IntKind.i64 (Nat.cast y_25 : Int))) ∧
 (((AV.sl (1 : Nat) ((List.length ks) + (1 : Nat)) (0 : Nat) ((List.length ks) + (1 : Nat)) (1 : Nat)) = (AV.sl (1 : Nat) ((List.length ks) + (1 : Nat)) (0 : Nat) ((List.length ks) + (1 : Nat)) (1 : Nat))) ∧
 (((AV.lst (0 : Nat) (cellsPM ps) (List.length ps) (2 : Nat)) = (AV.lst (0 : Nat) (cellsPM ps) (List.length ps) (2 : Nat))) ∧
 True)))))))))))))))))))
else False)))))))))
else (∃ n_20 : Int, (((AV.int IntKind.i64 (IntKind.wrap IntKind.i64 ((Nat.cast x_15 : Int) + (1 : Int)))) = (AV.int IntKind.i64 n_20)) ∧
 ((True ∧
 ((0 : Nat) = (0 : Nat))) ∧
 (∃ y_21 : Nat, ((Lf (y_21 ≤ (16 : Nat))) ∧
 ((((16 : Nat) - y_21) < ((16 : Nat) - x_15)) ∧
 ((((AV.int IntKind.i64 f) :: []) = ((AV.int IntKind.i64 f) :: [])) ∧
 (((cellsI (lM f ks)) = (cellsI (lM f ks))) ∧
 ((((AV.int IntKind.i64 (fstM ps (0 : Nat))) :: ((AV.int IntKind.i64 (sndM ps (0 : Nat))) :: [])) = ((AV.int IntKind.i64 (fstM ps (0 : Nat))) :: ((AV.int IntKind.i64 (sndM ps (0 : Nat))) :: []))) ∧
 (((cellsI ((allM (List.take (Int.toNat (Nat.cast x_11 : Int)) ps)) ++ (decM (fstM ps (Int.toNat (Nat.cast x_11 : Int))) (sndM ps (Int.toNat (Nat.cast x_11 : Int))) x_15))) = (cellsI ((allM (List.take (Int.toNat (Nat.cast x_11 : Int)) ps)) ++ (decM (fstM ps (Int.toNat (Nat.cast x_11 : Int))) (sndM ps (Int.toNat (Nat.cast x_11 : Int))) y_21)))) ∧
 ((((AV.int IntKind.i64 (fstM ps (Int.toNat (Nat.cast x_11 : Int)))) :: ((AV.int IntKind.i64 (sndM ps (Int.toNat (Nat.cast x_11 : Int)))) :: [])) = ((AV.int IntKind.i64 (fstM ps (Int.toNat (Nat.cast x_11 : Int)))) :: ((AV.int IntKind.i64 (sndM ps (Int.toNat (Nat.cast x_11 : Int)))) :: []))) ∧
 (((AV.int IntKind.i64 (Nat.cast (List.length ps) : Int)) = (AV.int IntKind.i64 (Nat.cast (List.length ps) : Int))) ∧
 (((AV.sl (3 : Nat) (List.length ((allM (List.take (Int.toNat (Nat.cast x_11 : Int)) ps)) ++ (decM (fstM ps (Int.toNat (Nat.cast x_11 : Int))) (sndM ps (Int.toNat (Nat.cast x_11 : Int))) x_15))) (0 : Nat) (List.length ((allM (List.take (Int.toNat (Nat.cast x_11 : Int)) ps)) ++ (decM (fstM ps (Int.toNat (Nat.cast x_11 : Int))) (sndM ps (Int.toNat (Nat.cast x_11 : Int))) x_15))) (1 : Nat)) = (AV.sl (3 : Nat) (List.length ((allM (List.take (Int.toNat (Nat.cast x_11 : Int)) ps)) ++ (decM (fstM ps (Int.toNat (Nat.cast x_11 : Int))) (sndM ps (Int.toNat (Nat.cast x_11 : Int))) y_21))) (0 : Nat) (List.length ((allM (List.take (Int.toNat (Nat.cast x_11 : Int)) ps)) ++ (decM (fstM ps (Int.toNat (Nat.cast x_11 : Int))) (sndM ps (Int.toNat (Nat.cast x_11 : Int))) y_21))) (1 : Nat))) ∧
 (((AV.lst (0 : Nat) (cellsPM ps) (List.length ps) (2 : Nat)) = (AV.lst (0 : Nat) (cellsPM ps) (List.length ps) (2 : Nat))) ∧
 (((AV.ptr (4 : Nat) (2 : Nat) (0 : Nat)) = (AV.ptr (4 : Nat) (2 : Nat) (0 : Nat))) ∧
 (((AV.int IntKind.i64 (Nat.cast (Int.toNat (Nat.cast x_11 : Int)) : Int)) = (AV.int IntKind.i64 (Nat.cast (Int.toNat (Nat.cast x_11 : Int)) : Int))) ∧
 (((AV.int IntKind.i64 n_20) = (AV.int IntKind.i64 (Nat.cast y_21 : Int))) ∧
 (((AV.sl (1 : Nat) ((List.length ks) + (1 : Nat)) (0 : Nat) ((List.length ks) + (1 : Nat)) (1 : Nat)) = (AV.sl (1 : Nat) ((List.length ks) + (1 : Nat)) (0 : Nat) ((List.length ks) + (1 : Nat)) (1 : Nat))) ∧
 (((AV.lst (0 : Nat) (cellsPM ps) (List.length ps) (2 : Nat)) = (AV.lst (0 : Nat) (cellsPM ps) (List.length ps) (2 : Nat))) ∧
 True))))))))))))))))))))))))
else False)))))
else (∃ n_16 : Int, (((AV.int IntKind.i64 (IntKind.wrap IntKind.i64 ((Nat.cast (Int.toNat (Nat.cast x_11 : Int)) : Int) + (1 : Int)))) = (AV.int IntKind.i64 n_16)) ∧
 ((True ∧
 ((0 : Nat) = (0 : Nat))) ∧
 ((∃ y_17 : Nat, ((Lf True) ∧
 ((((List.length ps) + (1 : Nat)) < ((List.length ps) - x_11)) ∧
 ((((AV.int IntKind.i64 f) :: []) = ((AV.int IntKind.i64 f) :: [])) ∧
 (((cellsI (lM f ks)) = (cellsI (lM f ks))) ∧
 False))))) ∨
 (∃ y_17 : Nat, ((Lf (((1 : Nat) ≤ y_17) ∧
 (y_17 ≤ (List.length ps)))) ∧
 ((((List.length ps) - y_17) < ((List.length ps) - x_11)) ∧
 ((((AV.int IntKind.i64 f) :: []) = ((AV.int IntKind.i64 f) :: [])) ∧
 (((cellsI (lM f ks)) = (cellsI (lM f ks))) ∧
 ((((AV.int IntKind.i64 (fstM ps (0 : Nat))) :: ((AV.int IntKind.i64 (sndM ps (0 : Nat))) :: [])) = ((AV.int IntKind.i64 (fstM ps (0 : Nat))) :: ((AV.int IntKind.i64 (sndM ps (0 : Nat))) :: []))) ∧
 (((cellsI ((allM (List.take (Int.toNat (Nat.cast x_11 : Int)) ps)) ++ (decM (fstM ps (Int.toNat (Nat.cast x_11 : Int))) (sndM ps (Int.toNat (Nat.cast x_11 : Int))) x_15))) = (cellsI (allM (List.take y_17 ps)))) ∧
 (((AV.int IntKind.i64 (Nat.cast (List.length ps) : Int)) = (AV.int IntKind.i64 (Nat.cast (List.length ps) : Int))) ∧
 (((AV.sl (3 : Nat) (List.length ((allM (List.take (Int.toNat (Nat.cast x_11 : Int)) ps)) ++ (decM (fstM ps (Int.toNat (Nat.cast x_11 : Int))) (sndM ps (Int.toNat (Nat.cast x_11 : Int))) x_15))) (0 : Nat) (List.length ((allM (List.take (Int.toNat (Nat.cast x_11 : Int)) ps)) ++ (decM (fstM ps (Int.toNat (Nat.cast x_11 : Int))) (sndM ps (Int.toNat (Nat.cast x_11 : Int))) x_15))) (1 : Nat)) = (AV.sl (3 : Nat) (List.length (allM (List.take y_17 ps))) (0 : Nat) (List.length (allM (List.take y_17 ps))) (1 : Nat))) ∧
 (((AV.lst (0 : Nat) (cellsPM ps) (List.length ps) (2 : Nat)) = (AV.lst (0 : Nat) (cellsPM ps) (List.length ps) (2 : Nat))) ∧
 (((AV.int IntKind.i64 n_16) = (AV.int IntKind.i64 (Nat.cast y_17 : Int))) ∧
 (((AV.sl (1 : Nat) ((List.length ks) + (1 : Nat)) (0 : Nat) ((List.length ks) + (1 : Nat)) (1 : Nat)) = (AV.sl (1 : Nat) ((List.length ks) + (1 : Nat)) (0 : Nat) ((List.length ks) + (1 : Nat)) (1 : Nat))) ∧
 (((AV.lst (0 : Nat) (cellsPM ps) (List.length ps) (2 : Nat)) = (AV.lst (0 : Nat) (cellsPM ps) (List.length ps) (2 : Nat))) ∧
 True)))))))))))))))))))))
else False)))))))
else False)
else False)))
else (bif (((Nat.beq (List.length (cellsI (allM (List.take x_11 ps)))) (List.length (allM (List.take x_11 ps)))) && (Nat.ble ((0 : Nat) + ((List.length (allM (List.take x_11 ps))) * (1 : Nat))) (List.length (allM (List.take x_11 ps))))) && Bool.true) then (bif (((Nat.beq (List.length (cellsI (lM f ks))) ((List.length ks) + (1 : Nat))) && (Nat.ble ((0 : Nat) + (((List.length ks) + (1 : Nat)) * (1 : Nat))) ((List.length ks) + (1 : Nat)))) && Bool.true) then (∃ xs_12 : (List Int), (∃ ys_13 : (List Int), ((Lf (((List.map (fun x_14 : AV => (frzV (1 : Nat) ((Blk.mk BK.exact Bool.true ((AV.int IntKind.i64 f) :: [])) :: ((Blk.mk BK.grow Bool.true (cellsI (lM f ks))) :: ((Blk.mk BK.exact Bool.true ((AV.int IntKind.i64 (fstM ps (0 : Nat))) :: ((AV.int IntKind.i64 (sndM ps (0 : Nat))) :: []))) :: ((Blk.mk BK.grow Bool.true (cellsI (allM (List.take x_11 ps)))) :: [])))) (8 : Nat) x_14)) (List.take ((List.length (allM (List.take x_11 ps))) * (1 : Nat)) (List.drop (0 : Nat) (cellsI (allM (List.take x_11 ps)))))) = (cellsI xs_12)) ∧
 (((List.length (allM (List.take x_11 ps))) = (List.length xs_12)) ∧
 (((List.length xs_12) ≤ (4611686018427387904 : Nat)) ∧
 (((List.map (fun x_14 : AV => (frzV (1 : Nat) ((Blk.mk BK.exact Bool.true ((AV.int IntKind.i64 f) :: [])) :: ((Blk.mk BK.grow Bool.true (cellsI (lM f ks))) :: ((Blk.mk BK.exact Bool.true ((AV.int IntKind.i64 (fstM ps (0 : Nat))) :: ((AV.int IntKind.i64 (sndM ps (0 : Nat))) :: []))) :: ((Blk.mk BK.grow Bool.true (cellsI (allM (List.take x_11 ps)))) :: [])))) (8 : Nat) x_14)) (List.take (((List.length ks) + (1 : Nat)) * (1 : Nat)) (List.drop (0 : Nat) (cellsI (lM f ks))))) = (cellsI ys_13)) ∧
 ((((List.length ks) + (1 : Nat)) = (List.length ys_13)) ∧
 ((List.length ys_13) ≤ (4611686018427387904 : Nat)))))))) ∧
 (bif (decide (xs_12 = ys_13)) then True
else False))))
else False)
else False)))))))))))
else False)))))))))))
else False))))))))
else False)))))))) := by kernel_rfl

end Go.Proofs.YtafchcmemeinlaaDoor

/-
  Chapter 23: few.
-/
import Derived.Test.YtbchmkhliehbfaaDoorM23U
set_option linter.unusedSimpArgs false
set_option linter.unusedVariables false
set_option linter.unusedSectionVars false
namespace Go.Proofs.YtbchmkhliehbfaaDoor
open Go.RowKit
set_option maxRecDepth 1000000

def fewXM (l : List Xt) : List Xt := l.map fun x => (x.1, x.2.take 300)
def inv_12 (ex : List Xt) (s : S) : List (List LInv) := match s.hp with
  | [b0, b1] => [[
    { α := Nat, pre := fun i => Lf (i = 0), st := fun i => ⟨mkT [(1, .ptr 0 9 0), (2, .ptr 1 9 0), (3, .nils), (31, s.tm.get 31), (32, s.tm.get 32), (33, .int .i64 (i : Nat))], [b0, b1]⟩, mu := fun i => 100 },
    { α := Nat, pre := fun i => Lf (1 ≤ i ∧ i ≤ 17 ∧ i ≤ ex.length), st := fun i => ⟨mkT [(1, .ptr 0 9 0), (2, .ptr 1 9 0), (3, .sl 4 (2 * i) 0 i 2), (31, s.tm.get 31), (32, s.tm.get 32), (33, .int .i64 (i : Nat))], [b0, b1, ⟨.exact, true, cellsXM (ex.take 1)⟩, ⟨.exact, true, cellsXM (fewXM (ex.take 1))⟩, ⟨.grow, true, cellsXM (fewXM (ex.take i))⟩]⟩, mu := fun i => 17 - i }]]
  | _ => []
noncomputable def env_12 (ex : List Xt) (hv : Nat → Option Pa) (hb : Nat → Option Bool) : Env := e23 sm0 (fun i => bif Nat.beq i 12000 then some (inv_12 ex) else none) hv hb
noncomputable def goal_12 (hv : Nat → Option Pa) (hb : Nat → Option Bool) (mk : Bool) (ty seq ti ss : Int) (tc : Nat) (cs : List Int) (tx : Nat) (ex : List Xt) (pad : Int) (pl : List UInt8) (Q : Out → List Blk → Gh → Prop) : Prop :=
  callx (env_12 ex hv hb) (wpx (env_12 ex hv hb) 1000) 12 [.agg (medM mk ty seq ti ss tc cs tx ex pad pl)] [] {} Q
def vc_12_1 : Prop := (
((((AV.bool false) :: ((AV.int .i64 (0 : Int)) :: ((AV.int .i64 (0 : Int)) :: ((AV.int .i64 (0 : Int)) :: ((AV.int .i64 (0 : Int)) :: (AV.nils :: (AV.nils :: ((AV.int .i64 (0 : Int)) :: ((AV.str []) :: []))))))))) = ((AV.bool false) :: ((AV.int .i64 (0 : Int)) :: ((AV.int .i64 (0 : Int)) :: ((AV.int .i64 (0 : Int)) :: ((AV.int .i64 (0 : Int)) :: (AV.nils :: (AV.nils :: ((AV.int .i64 (0 : Int)) :: ((AV.str []) :: [])))))))))) ∧
 False))
theorem vc_12 (mk : Bool) (ty : Int) (seq : Int) (ti : Int) (ss : Int) (tc : Nat) (cs : List Int) (tx : Nat) (ex : List Xt) (pad : Int) (pl : List UInt8) (Q : Out → List Blk → Gh → Prop) : goal_12 (lookV [(49162, .int .i64), (49163, .int .i64), (49169, .int .i64), (49170, .int .i64), (49176, .int .i64), (49177, .int .i64), (49178, .str), (49184, .int .i64), (49188, .agg [(.int .i64), (.str)]), (49191, .int .i64), (49193, .str), (49195, .str), (49196, .int .i64), (49197, .int .i64), (49198, .str), (49202, .int .i64)]) (lookB []) mk ty seq ti ss tc cs tx ex pad pl Q = (
(∃ n_0 : Int, (((AV.int .i64 (Nat.cast (List.length cs) : Int)) = (AV.int .i64 n_0)) ∧
 (∃ n_1 : Int, (((AV.int .i64 (imin n_0 (17 : Int))) = (AV.int .i64 n_1)) ∧
 (bif ((((decide ((0 : Int) ≤ n_1)) && true) && (Nat.ble (Int.toNat n_1) (List.length cs))) && true) then (∃ n_2 : Int, (((AV.int .i64 (Nat.cast (List.length ex) : Int)) = (AV.int .i64 n_2)) ∧
 (∃ n_3 : Int, (((AV.int .i64 (imin n_2 (17 : Int))) = (AV.int .i64 n_3)) ∧
 (bif ((((decide ((0 : Int) ≤ n_3)) && true) && (Nat.ble (Int.toNat n_3) (List.length ex))) && true) then (∃ n_4 : Int, (((AV.int .i64 (Nat.cast (List.length pl) : Int)) = (AV.int .i64 n_4)) ∧
 (∃ n_5 : Int, (((AV.int .i64 (imin n_4 (1300 : Int))) = (AV.int .i64 n_5)) ∧
 (bif (((decide ((0 : Int) ≤ n_5)) && true) && (Nat.ble (Int.toNat n_5) (List.length pl))) then (∃ s_6 : (List UInt8), (((AV.str (List.take ((Int.toNat n_5) - (0 : Nat)) (List.drop (0 : Nat) pl))) = (AV.str s_6)) ∧
 (∃ n_7 : Int, (((AV.int .i64 (Nat.cast ((Int.toNat n_3) - (0 : Nat)) : Int)) = (AV.int .i64 n_7)) ∧
 (((∃ x_8 : Nat, ((Lf (x_8 = (0 : Nat))) ∧
 ((((AV.bool mk) :: ((AV.int .i64 ty) :: ((AV.int .i64 seq) :: ((AV.int .i64 ti) :: ((AV.int .i64 ss) :: ((AV.lst tc (List.take (((Int.toNat n_1) - (0 : Nat)) * (1 : Nat)) (List.drop (0 : Nat) (cellsI cs))) ((Int.toNat n_1) - (0 : Nat)) (1 : Nat)) :: ((AV.lst tx (List.take (((Int.toNat n_3) - (0 : Nat)) * (2 : Nat)) (List.drop (0 : Nat) (cellsXM ex))) ((Int.toNat n_3) - (0 : Nat)) (2 : Nat)) :: ((AV.int .i64 pad) :: ((AV.str s_6) :: []))))))))) = ((AV.bool mk) :: ((AV.int .i64 ty) :: ((AV.int .i64 seq) :: ((AV.int .i64 ti) :: ((AV.int .i64 ss) :: ((AV.lst tc (List.take (((Int.toNat n_1) - (0 : Nat)) * (1 : Nat)) (List.drop (0 : Nat) (cellsI cs))) ((Int.toNat n_1) - (0 : Nat)) (1 : Nat)) :: ((AV.lst tx (List.take (((Int.toNat n_3) - (0 : Nat)) * (2 : Nat)) (List.drop (0 : Nat) (cellsXM ex))) ((Int.toNat n_3) - (0 : Nat)) (2 : Nat)) :: ((AV.int .i64 pad) :: ((AV.str s_6) :: [])))))))))) ∧
 ((((AV.bool false) :: ((AV.int .i64 (0 : Int)) :: ((AV.int .i64 (0 : Int)) :: ((AV.int .i64 (0 : Int)) :: ((AV.int .i64 (0 : Int)) :: (AV.nils :: (AV.nils :: ((AV.int .i64 (0 : Int)) :: ((AV.str []) :: []))))))))) = ((AV.bool false) :: ((AV.int .i64 (0 : Int)) :: ((AV.int .i64 (0 : Int)) :: ((AV.int .i64 (0 : Int)) :: ((AV.int .i64 (0 : Int)) :: (AV.nils :: (AV.nils :: ((AV.int .i64 (0 : Int)) :: ((AV.str []) :: [])))))))))) ∧
 (((AV.ptr (0 : Nat) (9 : Nat) (0 : Nat)) = (AV.ptr (0 : Nat) (9 : Nat) (0 : Nat))) ∧
 ((AV.nils = AV.nils) ∧
 (((AV.lst tx (List.take (((Int.toNat n_3) - (0 : Nat)) * (2 : Nat)) (List.drop (0 : Nat) (cellsXM ex))) ((Int.toNat n_3) - (0 : Nat)) (2 : Nat)) = (AV.lst tx (List.take (((Int.toNat n_3) - (0 : Nat)) * (2 : Nat)) (List.drop (0 : Nat) (cellsXM ex))) ((Int.toNat n_3) - (0 : Nat)) (2 : Nat))) ∧
 (((AV.int .i64 (0 : Int)) = (AV.int .i64 (Nat.cast x_8 : Int))) ∧
 (((AV.ptr (1 : Nat) (9 : Nat) (0 : Nat)) = (AV.ptr (1 : Nat) (9 : Nat) (0 : Nat))) ∧
 (((AV.int .i64 n_7) = (AV.int .i64 n_7)) ∧
 True)))))))))) ∨
 (∃ x_8 : Nat, ((Lf (((1 : Nat) ≤ x_8) ∧
 ((x_8 ≤ (17 : Nat)) ∧
 (x_8 ≤ (List.length ex))))) ∧
 ((((AV.bool mk) :: ((AV.int .i64 ty) :: ((AV.int .i64 seq) :: ((AV.int .i64 ti) :: ((AV.int .i64 ss) :: ((AV.lst tc (List.take (((Int.toNat n_1) - (0 : Nat)) * (1 : Nat)) (List.drop (0 : Nat) (cellsI cs))) ((Int.toNat n_1) - (0 : Nat)) (1 : Nat)) :: ((AV.lst tx (List.take (((Int.toNat n_3) - (0 : Nat)) * (2 : Nat)) (List.drop (0 : Nat) (cellsXM ex))) ((Int.toNat n_3) - (0 : Nat)) (2 : Nat)) :: ((AV.int .i64 pad) :: ((AV.str s_6) :: []))))))))) = ((AV.bool mk) :: ((AV.int .i64 ty) :: ((AV.int .i64 seq) :: ((AV.int .i64 ti) :: ((AV.int .i64 ss) :: ((AV.lst tc (List.take (((Int.toNat n_1) - (0 : Nat)) * (1 : Nat)) (List.drop (0 : Nat) (cellsI cs))) ((Int.toNat n_1) - (0 : Nat)) (1 : Nat)) :: ((AV.lst tx (List.take (((Int.toNat n_3) - (0 : Nat)) * (2 : Nat)) (List.drop (0 : Nat) (cellsXM ex))) ((Int.toNat n_3) - (0 : Nat)) (2 : Nat)) :: ((AV.int .i64 pad) :: ((AV.str s_6) :: [])))))))))) ∧
 vc_12_1)))) ∧
 ((∀ x_8 : Nat, ((Lf (x_8 = (0 : Nat))) →
(bif (decide ((Nat.cast x_8 : Int) < n_7)) then (bif ((Nat.blt (Int.toNat (Nat.cast x_8 : Int)) ((Int.toNat n_3) - (0 : Nat))) && true) then (bif (Nat.ble (((Int.toNat (Nat.cast x_8 : Int)) * (2 : Nat)) + (2 : Nat)) (List.length (List.take (((Int.toNat n_3) - (0 : Nat)) * (2 : Nat)) (List.drop (0 : Nat) (cellsXM ex))))) then (∃ n_9 : Int, (∃ s_10 : (List UInt8), (((AV.agg (List.take (2 : Nat) (List.drop ((Int.toNat (Nat.cast x_8 : Int)) * (2 : Nat)) (List.take (((Int.toNat n_3) - (0 : Nat)) * (2 : Nat)) (List.drop (0 : Nat) (cellsXM ex)))))) = (AV.agg ((AV.int .i64 n_9) :: ((AV.str s_10) :: [])))) ∧
 (∃ n_11 : Int, (((AV.int .i64 n_9) = (AV.int .i64 n_11)) ∧
 (∃ s_12 : (List UInt8), (((AV.str s_10) = (AV.str s_12)) ∧
 (∃ s_13 : (List UInt8), (((AV.str s_10) = (AV.str s_13)) ∧
 (∃ n_14 : Int, (((AV.int .i64 (Nat.cast (List.length s_13) : Int)) = (AV.int .i64 n_14)) ∧
 (∃ n_15 : Int, (((AV.int .i64 (imin n_14 (300 : Int))) = (AV.int .i64 n_15)) ∧
 (bif (((decide ((0 : Int) ≤ n_15)) && true) && (Nat.ble (Int.toNat n_15) (List.length s_12))) then (∃ s_16 : (List UInt8), (((AV.str (List.take ((Int.toNat n_15) - (0 : Nat)) (List.drop (0 : Nat) s_12))) = (AV.str s_16)) ∧
 (∃ n_17 : Int, (((AV.int .i64 (IntKind.wrap .i64 ((Nat.cast x_8 : Int) + (1 : Int)))) = (AV.int .i64 n_17)) ∧
 ((True ∧
 ((0 : Nat) = (0 : Nat))) ∧
 ((∃ y_18 : Nat, ((Lf (y_18 = (0 : Nat))) ∧
 (((100 : Nat) < (100 : Nat)) ∧
 ((((AV.bool mk) :: ((AV.int .i64 ty) :: ((AV.int .i64 seq) :: ((AV.int .i64 ti) :: ((AV.int .i64 ss) :: ((AV.lst tc (List.take (((Int.toNat n_1) - (0 : Nat)) * (1 : Nat)) (List.drop (0 : Nat) (cellsI cs))) ((Int.toNat n_1) - (0 : Nat)) (1 : Nat)) :: ((AV.lst tx (List.take (((Int.toNat n_3) - (0 : Nat)) * (2 : Nat)) (List.drop (0 : Nat) (cellsXM ex))) ((Int.toNat n_3) - (0 : Nat)) (2 : Nat)) :: ((AV.int .i64 pad) :: ((AV.str s_6) :: []))))))))) = ((AV.bool mk) :: ((AV.int .i64 ty) :: ((AV.int .i64 seq) :: ((AV.int .i64 ti) :: ((AV.int .i64 ss) :: ((AV.lst tc (List.take (((Int.toNat n_1) - (0 : Nat)) * (1 : Nat)) (List.drop (0 : Nat) (cellsI cs))) ((Int.toNat n_1) - (0 : Nat)) (1 : Nat)) :: ((AV.lst tx (List.take (((Int.toNat n_3) - (0 : Nat)) * (2 : Nat)) (List.drop (0 : Nat) (cellsXM ex))) ((Int.toNat n_3) - (0 : Nat)) (2 : Nat)) :: ((AV.int .i64 pad) :: ((AV.str s_6) :: [])))))))))) ∧
 vc_12_1)))) ∨
 (∃ y_18 : Nat, ((Lf (((1 : Nat) ≤ y_18) ∧
 ((y_18 ≤ (17 : Nat)) ∧
 (y_18 ≤ (List.length ex))))) ∧
 ((((17 : Nat) - y_18) < (100 : Nat)) ∧
 ((((AV.bool mk) :: ((AV.int .i64 ty) :: ((AV.int .i64 seq) :: ((AV.int .i64 ti) :: ((AV.int .i64 ss) :: ((AV.lst tc (List.take (((Int.toNat n_1) - (0 : Nat)) * (1 : Nat)) (List.drop (0 : Nat) (cellsI cs))) ((Int.toNat n_1) - (0 : Nat)) (1 : Nat)) :: ((AV.lst tx (List.take (((Int.toNat n_3) - (0 : Nat)) * (2 : Nat)) (List.drop (0 : Nat) (cellsXM ex))) ((Int.toNat n_3) - (0 : Nat)) (2 : Nat)) :: ((AV.int .i64 pad) :: ((AV.str s_6) :: []))))))))) = ((AV.bool mk) :: ((AV.int .i64 ty) :: ((AV.int .i64 seq) :: ((AV.int .i64 ti) :: ((AV.int .i64 ss) :: ((AV.lst tc (List.take (((Int.toNat n_1) - (0 : Nat)) * (1 : Nat)) (List.drop (0 : Nat) (cellsI cs))) ((Int.toNat n_1) - (0 : Nat)) (1 : Nat)) :: ((AV.lst tx (List.take (((Int.toNat n_3) - (0 : Nat)) * (2 : Nat)) (List.drop (0 : Nat) (cellsXM ex))) ((Int.toNat n_3) - (0 : Nat)) (2 : Nat)) :: ((AV.int .i64 pad) :: ((AV.str s_6) :: [])))))))))) ∧
 ((((AV.bool false) :: ((AV.int .i64 (0 : Int)) :: ((AV.int .i64 (0 : Int)) :: ((AV.int .i64 (0 : Int)) :: ((AV.int .i64 (0 : Int)) :: (AV.nils :: (AV.nils :: ((AV.int .i64 (0 : Int)) :: ((AV.str []) :: []))))))))) = ((AV.bool false) :: ((AV.int .i64 (0 : Int)) :: ((AV.int .i64 (0 : Int)) :: ((AV.int .i64 (0 : Int)) :: ((AV.int .i64 (0 : Int)) :: (AV.nils :: (AV.nils :: ((AV.int .i64 (0 : Int)) :: ((AV.str []) :: [])))))))))) ∧
 ((((AV.int .i64 n_9) :: ((AV.str s_10) :: [])) = (cellsXM (List.take (1 : Nat) ex))) ∧
 ((((AV.int .i64 n_11) :: ((AV.str s_16) :: [])) = (cellsXM (fewXM (List.take (1 : Nat) ex)))) ∧
 ((((AV.int .i64 n_11) :: ((AV.str s_16) :: [])) = (cellsXM (fewXM (List.take y_18 ex)))) ∧
 (((AV.ptr (0 : Nat) (9 : Nat) (0 : Nat)) = (AV.ptr (0 : Nat) (9 : Nat) (0 : Nat))) ∧
 (((AV.sl (4 : Nat) (2 : Nat) (0 : Nat) (1 : Nat) (2 : Nat)) = (AV.sl (4 : Nat) ((2 : Nat) * y_18) (0 : Nat) y_18 (2 : Nat))) ∧
 (((AV.lst tx (List.take (((Int.toNat n_3) - (0 : Nat)) * (2 : Nat)) (List.drop (0 : Nat) (cellsXM ex))) ((Int.toNat n_3) - (0 : Nat)) (2 : Nat)) = (AV.lst tx (List.take (((Int.toNat n_3) - (0 : Nat)) * (2 : Nat)) (List.drop (0 : Nat) (cellsXM ex))) ((Int.toNat n_3) - (0 : Nat)) (2 : Nat))) ∧
 (((AV.int .i64 n_17) = (AV.int .i64 (Nat.cast y_18 : Int))) ∧
 (((AV.ptr (1 : Nat) (9 : Nat) (0 : Nat)) = (AV.ptr (1 : Nat) (9 : Nat) (0 : Nat))) ∧
 (((AV.int .i64 n_7) = (AV.int .i64 n_7)) ∧
 True))))))))))))))))))))
else False))))))))))))))
else False)
else False)
else (Q (Out.ret (AV.agg ((AV.bool mk) :: ((AV.int .i64 ty) :: ((AV.int .i64 seq) :: ((AV.int .i64 ti) :: ((AV.int .i64 ss) :: ((AV.lst tc (List.take (((Int.toNat n_1) - (0 : Nat)) * (1 : Nat)) (List.drop (0 : Nat) (cellsI cs))) ((Int.toNat n_1) - (0 : Nat)) (1 : Nat)) :: (AV.nils :: ((AV.int .i64 pad) :: ((AV.str s_6) :: []))))))))))) [] (Gh.mk (0 : Nat) (0 : Nat) []))))) ∧
 (∀ x_8 : Nat, ((Lf (((1 : Nat) ≤ x_8) ∧
 ((x_8 ≤ (17 : Nat)) ∧
 (x_8 ≤ (List.length ex))))) →
(bif (decide ((Nat.cast x_8 : Int) < n_7)) then (bif ((Nat.blt (Int.toNat (Nat.cast x_8 : Int)) ((Int.toNat n_3) - (0 : Nat))) && true) then (bif (Nat.ble (((Int.toNat (Nat.cast x_8 : Int)) * (2 : Nat)) + (2 : Nat)) (List.length (List.take (((Int.toNat n_3) - (0 : Nat)) * (2 : Nat)) (List.drop (0 : Nat) (cellsXM ex))))) then (∃ n_9 : Int, (∃ s_10 : (List UInt8), (((AV.agg (List.take (2 : Nat) (List.drop ((Int.toNat (Nat.cast x_8 : Int)) * (2 : Nat)) (List.take (((Int.toNat n_3) - (0 : Nat)) * (2 : Nat)) (List.drop (0 : Nat) (cellsXM ex)))))) = (AV.agg ((AV.int .i64 n_9) :: ((AV.str s_10) :: [])))) ∧
 (∃ n_11 : Int, (((AV.int .i64 n_9) = (AV.int .i64 n_11)) ∧
 (∃ s_12 : (List UInt8), (((AV.str s_10) = (AV.str s_12)) ∧
 (∃ s_13 : (List UInt8), (((AV.str s_10) = (AV.str s_13)) ∧
 (∃ n_14 : Int, (((AV.int .i64 (Nat.cast (List.length s_13) : Int)) = (AV.int .i64 n_14)) ∧
 (∃ n_15 : Int, (((AV.int .i64 (imin n_14 (300 : Int))) = (AV.int .i64 n_15)) ∧
 (bif (((decide ((0 : Int) ≤ n_15)) && true) && (Nat.ble (Int.toNat n_15) (List.length s_12))) then (∃ s_16 : (List UInt8), (((AV.str (List.take ((Int.toNat n_15) - (0 : Nat)) (List.drop (0 : Nat) s_12))) = (AV.str s_16)) ∧
 (bif (((((Nat.beq (List.length (cellsXM (fewXM (List.take x_8 ex)))) ((2 : Nat) * x_8)) && true) && (Nat.beq ((0 : Nat) + (x_8 * (2 : Nat))) ((2 : Nat) * x_8))) && (Nat.ble (x_8 + (1 : Nat)) (1099511627776 : Nat))) && (Nat.ble ((x_8 + (1 : Nat)) * (24 : Nat)) (1099511627776 : Nat))) then (∃ n_17 : Int, (((AV.int .i64 (IntKind.wrap .i64 ((Nat.cast x_8 : Int) + (1 : Int)))) = (AV.int .i64 n_17)) ∧
 ((True ∧
 ((0 : Nat) = (0 : Nat))) ∧
 ((∃ y_18 : Nat, ((Lf (y_18 = (0 : Nat))) ∧
 (((100 : Nat) < ((17 : Nat) - x_8)) ∧
 ((((AV.bool mk) :: ((AV.int .i64 ty) :: ((AV.int .i64 seq) :: ((AV.int .i64 ti) :: ((AV.int .i64 ss) :: ((AV.lst tc (List.take (((Int.toNat n_1) - (0 : Nat)) * (1 : Nat)) (List.drop (0 : Nat) (cellsI cs))) ((Int.toNat n_1) - (0 : Nat)) (1 : Nat)) :: ((AV.lst tx (List.take (((Int.toNat n_3) - (0 : Nat)) * (2 : Nat)) (List.drop (0 : Nat) (cellsXM ex))) ((Int.toNat n_3) - (0 : Nat)) (2 : Nat)) :: ((AV.int .i64 pad) :: ((AV.str s_6) :: []))))))))) = ((AV.bool mk) :: ((AV.int .i64 ty) :: ((AV.int .i64 seq) :: ((AV.int .i64 ti) :: ((AV.int .i64 ss) :: ((AV.lst tc (List.take (((Int.toNat n_1) - (0 : Nat)) * (1 : Nat)) (List.drop (0 : Nat) (cellsI cs))) ((Int.toNat n_1) - (0 : Nat)) (1 : Nat)) :: ((AV.lst tx (List.take (((Int.toNat n_3) - (0 : Nat)) * (2 : Nat)) (List.drop (0 : Nat) (cellsXM ex))) ((Int.toNat n_3) - (0 : Nat)) (2 : Nat)) :: ((AV.int .i64 pad) :: ((AV.str s_6) :: [])))))))))) ∧
 vc_12_1)))) ∨
 (∃ y_18 : Nat, ((Lf (((1 : Nat) ≤ y_18) ∧
 ((y_18 ≤ (17 : Nat)) ∧
 (y_18 ≤ (List.length ex))))) ∧
 ((((17 : Nat) - y_18) < ((17 : Nat) - x_8)) ∧
 ((((AV.bool mk) :: ((AV.int .i64 ty) :: ((AV.int .i64 seq) :: ((AV.int .i64 ti) :: ((AV.int .i64 ss) :: ((AV.lst tc (List.take (((Int.toNat n_1) - (0 : Nat)) * (1 : Nat)) (List.drop (0 : Nat) (cellsI cs))) ((Int.toNat n_1) - (0 : Nat)) (1 : Nat)) :: ((AV.lst tx (List.take (((Int.toNat n_3) - (0 : Nat)) * (2 : Nat)) (List.drop (0 : Nat) (cellsXM ex))) ((Int.toNat n_3) - (0 : Nat)) (2 : Nat)) :: ((AV.int .i64 pad) :: ((AV.str s_6) :: []))))))))) = ((AV.bool mk) :: ((AV.int .i64 ty) :: ((AV.int .i64 seq) :: ((AV.int .i64 ti) :: ((AV.int .i64 ss) :: ((AV.lst tc (List.take (((Int.toNat n_1) - (0 : Nat)) * (1 : Nat)) (List.drop (0 : Nat) (cellsI cs))) ((Int.toNat n_1) - (0 : Nat)) (1 : Nat)) :: ((AV.lst tx (List.take (((Int.toNat n_3) - (0 : Nat)) * (2 : Nat)) (List.drop (0 : Nat) (cellsXM ex))) ((Int.toNat n_3) - (0 : Nat)) (2 : Nat)) :: ((AV.int .i64 pad) :: ((AV.str s_6) :: [])))))))))) ∧
 ((((AV.bool false) :: ((AV.int .i64 (0 : Int)) :: ((AV.int .i64 (0 : Int)) :: ((AV.int .i64 (0 : Int)) :: ((AV.int .i64 (0 : Int)) :: (AV.nils :: (AV.nils :: ((AV.int .i64 (0 : Int)) :: ((AV.str []) :: []))))))))) = ((AV.bool false) :: ((AV.int .i64 (0 : Int)) :: ((AV.int .i64 (0 : Int)) :: ((AV.int .i64 (0 : Int)) :: ((AV.int .i64 (0 : Int)) :: (AV.nils :: (AV.nils :: ((AV.int .i64 (0 : Int)) :: ((AV.str []) :: [])))))))))) ∧
 (((cellsXM (List.take (1 : Nat) ex)) = (cellsXM (List.take (1 : Nat) ex))) ∧
 (((cellsXM (fewXM (List.take (1 : Nat) ex))) = (cellsXM (fewXM (List.take (1 : Nat) ex)))) ∧
 ((((cellsXM (fewXM (List.take x_8 ex))) ++ ((AV.int .i64 n_11) :: ((AV.str s_16) :: []))) = (cellsXM (fewXM (List.take y_18 ex)))) ∧
 (((AV.ptr (0 : Nat) (9 : Nat) (0 : Nat)) = (AV.ptr (0 : Nat) (9 : Nat) (0 : Nat))) ∧
 (((AV.sl (4 : Nat) (((2 : Nat) * x_8) + (2 : Nat)) (0 : Nat) (x_8 + (1 : Nat)) (2 : Nat)) = (AV.sl (4 : Nat) ((2 : Nat) * y_18) (0 : Nat) y_18 (2 : Nat))) ∧
 (((AV.lst tx (List.take (((Int.toNat n_3) - (0 : Nat)) * (2 : Nat)) (List.drop (0 : Nat) (cellsXM ex))) ((Int.toNat n_3) - (0 : Nat)) (2 : Nat)) = (AV.lst tx (List.take (((Int.toNat n_3) - (0 : Nat)) * (2 : Nat)) (List.drop (0 : Nat) (cellsXM ex))) ((Int.toNat n_3) - (0 : Nat)) (2 : Nat))) ∧
 (((AV.int .i64 n_17) = (AV.int .i64 (Nat.cast y_18 : Int))) ∧
 (((AV.ptr (1 : Nat) (9 : Nat) (0 : Nat)) = (AV.ptr (1 : Nat) (9 : Nat) (0 : Nat))) ∧
 (((AV.int .i64 n_7) = (AV.int .i64 n_7)) ∧
 True))))))))))))))))))
else False)))
else False))))))))))))))
else False)
else False)
else (Q (Out.ret (AV.agg ((AV.bool mk) :: ((AV.int .i64 ty) :: ((AV.int .i64 seq) :: ((AV.int .i64 ti) :: ((AV.int .i64 ss) :: ((AV.lst tc (List.take (((Int.toNat n_1) - (0 : Nat)) * (1 : Nat)) (List.drop (0 : Nat) (cellsI cs))) ((Int.toNat n_1) - (0 : Nat)) (1 : Nat)) :: ((AV.sl (4 : Nat) ((2 : Nat) * x_8) (0 : Nat) x_8 (2 : Nat)) :: ((AV.int .i64 pad) :: ((AV.str s_6) :: []))))))))))) ((Blk.mk BK.exact false ((AV.bool mk) :: ((AV.int .i64 ty) :: ((AV.int .i64 seq) :: ((AV.int .i64 ti) :: ((AV.int .i64 ss) :: ((AV.lst tc (List.take (((Int.toNat n_1) - (0 : Nat)) * (1 : Nat)) (List.drop (0 : Nat) (cellsI cs))) ((Int.toNat n_1) - (0 : Nat)) (1 : Nat)) :: ((AV.sl (4 : Nat) ((2 : Nat) * x_8) (0 : Nat) x_8 (2 : Nat)) :: ((AV.int .i64 pad) :: ((AV.str s_6) :: [])))))))))) :: ((Blk.mk BK.exact false ((AV.bool mk) :: ((AV.int .i64 ty) :: ((AV.int .i64 seq) :: ((AV.int .i64 ti) :: ((AV.int .i64 ss) :: ((AV.lst tc (List.take (((Int.toNat n_1) - (0 : Nat)) * (1 : Nat)) (List.drop (0 : Nat) (cellsI cs))) ((Int.toNat n_1) - (0 : Nat)) (1 : Nat)) :: ((AV.sl (4 : Nat) ((2 : Nat) * x_8) (0 : Nat) x_8 (2 : Nat)) :: ((AV.int .i64 pad) :: ((AV.str s_6) :: [])))))))))) :: ((Blk.mk BK.exact true (cellsXM (List.take (1 : Nat) ex))) :: ((Blk.mk BK.exact true (cellsXM (fewXM (List.take (1 : Nat) ex)))) :: ((Blk.mk BK.grow true (cellsXM (fewXM (List.take x_8 ex)))) :: []))))) (Gh.mk (0 : Nat) (0 : Nat) [])))))))))))
else False)))))
else False)))))
else False)))))) := by kernel_rfl


theorem few_len (l : List Xt) : (fewXM l).length = l.length := by simp [fewXM]
theorem few_app (a b : List Xt) : fewXM (a ++ b) = fewXM a ++ fewXM b := by simp [fewXM]
theorem few1 : ∀ (ex : List Xt) (h : 0 < (ex.take 17).length), [AV.int .i64 (ex.take 17)[0].1, .str (ex.take 17)[0].2] = cellsXM (ex.take 1) ∧ [AV.int .i64 (ex.take 17)[0].1, .str ((ex.take 17)[0].2.take 300)] = cellsXM (fewXM (ex.take 1))
  | x :: l, _ => ⟨rfl, rfl⟩
  | [], h => by simp at h
theorem few_take {ex : List Xt} {i : Nat} (h : i < (ex.take 17).length) : cellsXM (fewXM (ex.take i)) ++ [AV.int .i64 (ex.take 17)[i].1, .str ((ex.take 17)[i].2.take 300)] = cellsXM (fewXM (ex.take (i + 1))) := by
  have hi : i < ex.length := by rw [List.length_take] at h; omega
  have e : (ex.take 17)[i] = ex[i] := List.getElem_take
  have t1 : ex.take (i + 1) = ex.take i ++ [ex[i]] := by rw [List.take_add_one, List.getElem?_eq_getElem hi]; rfl
  rw [e, t1, few_app, cellsX_app]
  rfl
theorem takeX (k : Nat) (ex : List Xt) : List.take (k * 2) (cellsXM ex) = cellsXM (ex.take k) := by
  induction ex generalizing k with
  | nil => simp [cellsXM]
  | cons x l ih =>
    cases k with
    | zero => simp [cellsXM]
    | succ k => rw [show (k + 1) * 2 = k * 2 + 2 by omega]; simp only [cellsXM, List.take_succ_cons, ih]
def endF (Q : Out → List Blk → Gh → Prop) (mk : Bool) (ty seq ti ss : Int) (cs : List Int) (ex : List Xt) (pad : Int) (pl : List UInt8) : Prop :=
  ∀ (a b : AV) (H : List Blk), okA H a (cs.take 17) → okX H b (fewXM (ex.take 17)) → Q (.ret (.agg [.bool mk, .int .i64 ty, .int .i64 seq, .int .i64 ti, .int .i64 ss, a, b, .int .i64 pad, .str (pl.take 1300)])) H {}
theorem few_run (mk : Bool) (ty seq ti ss : Int) (cs : List Int) (tx : Nat) (ex : List Xt) (pad : Int) (pl : List UInt8) (Q : Out → List Blk → Gh → Prop) (hq : endF Q mk ty seq ti ss cs ex pad pl) : ∃ hv hb, goal_12 hv hb mk ty seq ti ss 0 cs tx ex pad pl Q := by
  obtain ⟨hv, hb', e⟩ : ∃ hv hb, goal_12 hv hb mk ty seq ti ss 0 cs tx ex pad pl Q = _ := ⟨_, _, vc_12 mk ty seq ti ss 0 cs tx ex pad pl Q⟩
  refine ⟨hv, hb', e.mpr ?_⟩
  clear e
  have hC : List.take ((Int.toNat ((min cs.length 17 : Nat) : Int) - 0) * 1) (List.drop 0 (cellsI cs)) = cellsI (cs.take 17) := by
    rw [Int.toNat_natCast, Nat.sub_zero, Nat.mul_one, List.drop_zero]
    simp only [cellsI, List.map_take]
    by_cases h : cs.length ≤ 17
    · rw [Nat.min_eq_left h, List.take_of_length_le (by simp), List.take_of_length_le (by simpa using h)]
    · rw [Nat.min_eq_right (by omega)]
  have hX : List.take ((Int.toNat ((min ex.length 17 : Nat) : Int) - 0) * 2) (List.drop 0 (cellsXM ex)) = cellsXM (ex.take 17) := by
    rw [Int.toNat_natCast, Nat.sub_zero, List.drop_zero, takeX]
    by_cases h : ex.length ≤ 17
    · rw [Nat.min_eq_left h, List.take_of_length_le (Nat.le_refl _), List.take_of_length_le h]
    · rw [Nat.min_eq_right (by omega)]
  have hc : Int.toNat ((min cs.length 17 : Nat) : Int) - 0 = (cs.take 17).length := by rw [List.length_take]; omega
  have hx : Int.toNat ((min ex.length 17 : Nat) : Int) - 0 = (ex.take 17).length := by rw [List.length_take]; omega
  have hx17 : (ex.take 17).length ≤ 17 := by rw [List.length_take]; omega
  have hxe : (ex.take 17).length ≤ ex.length := by rw [List.length_take]; omega
  refine ⟨_, rfl, iminI (b := 17) rfl (ckI (by simp; omega) ⟨_, rfl, iminI (b := 17) rfl (ckI (by simp; omega) ⟨_, rfl, iminI (b := 1300) rfl (ckI (by simp; omega) ⟨pl.take 1300, by rw [take_imin], _, rfl, ?_⟩)⟩)⟩)⟩
  rw [hC, hX, hc, hx]
  have hA : ∀ H, okA H (.lst 0 (cellsI (cs.take 17)) (cs.take 17).length 1) (cs.take 17) := fun H => rfl
  have ckX : ∀ {i : Nat} {A : Prop}, i < (ex.take 17).length → A → bif ((Nat.blt (Int.toNat (i : Int)) (ex.take 17).length) && true) then (bif (Nat.ble ((Int.toNat (i : Int)) * 2 + 2) (cellsXM (ex.take 17)).length) then A else False) else False := fun hi h => ckI (by simp; omega) (ckI (by rw [cellsX_len]; simp; omega) h)
  refine ⟨.inl ⟨0, ⟨rfl⟩, rfl, rfl, rfl, rfl, rfl, rfl, rfl, rfl, trivial⟩, ?_, ?_⟩
  · rintro _ ⟨rfl⟩
    refine splitD (fun hlt => ?_) (fun hge => ?_)
    · have h0 : 0 < (ex.take 17).length := by omega
      obtain ⟨f1, f2⟩ := few1 ex h0
      exact ckX h0 (getX h0 (by simp) ⟨_, rfl, _, rfl, _, rfl, _, rfl, iminI (b := 300) rfl (ckI (by simp; omega) ⟨(ex.take 17)[0].2.take 300, by rw [take_imin], wrapI (by omega) (by omega) ⟨⟨trivial, rfl⟩, .inr ⟨1, ⟨by omega, by omega, by omega⟩, by omega, rfl, rfl, f1, f2, f2, rfl, rfl, rfl, rfl, rfl, rfl, trivial⟩⟩⟩)⟩)
    · have h0 : ex.take 17 = [] := List.length_eq_zero_iff.1 (by omega)
      exact hq _ _ _ (hA _) (by rw [h0]; rfl)
  · rintro i ⟨h1, h2, h3⟩
    refine splitD (fun hlt => ?_) (fun hge => ?_)
    · have h0 : i < (ex.take 17).length := by omega
      have hl : (cellsXM (fewXM (ex.take i))).length = 2 * i := by rw [cellsX_len, few_len, List.length_take]; omega
      exact ckX h0 (getX h0 (by simp) ⟨_, rfl, _, rfl, _, rfl, _, rfl, iminI (b := 300) rfl (ckI (by simp; omega) ⟨(ex.take 17)[i].2.take 300, by rw [take_imin], ckI (by rw [hl]; simp; omega) (wrapI (by omega) (by omega) ⟨⟨trivial, rfl⟩, .inr ⟨i + 1, ⟨by omega, by omega, by omega⟩, by omega, rfl, rfl, rfl, rfl, few_take h0, rfl, by rw [show 2 * i + 2 = 2 * (i + 1) by omega], rfl, rfl, rfl, rfl, trivial⟩⟩)⟩)⟩)
    · have hi : i = (ex.take 17).length := by
        rw [List.length_take] at hge ⊢
        omega
      have e : ex.take i = ex.take 17 := by
        rw [hi, List.length_take]
        by_cases h : ex.length ≤ 17
        · rw [Nat.min_eq_right h, List.take_of_length_le (Nat.le_refl _), List.take_of_length_le h]
        · rw [Nat.min_eq_left (by omega)]
      exact hq _ _ _ (hA _) (okX_sl rfl (by rw [e]) (by rw [few_len, ← hi]) (by rw [few_len, ← hi]) (by simp))
def cFew : Con
  | [.agg [.bool mk, .int .i64 ty, .int .i64 seq, .int .i64 ti, .int .i64 ss, .lst 0 c5 n5 1, .lst _ c6 n6 2, .int .i64 pad, .str pl]], H, K => ∃ (cs : List Int) (ex : List Xt), Lf (c5 = cellsI cs ∧ n5 = cs.length ∧ c6 = cellsXM ex ∧ n6 = ex.length) ∧
      ∀ (cs' : List Int) (ex' : List Xt) (pl' : List UInt8), Lf (cs'.length ≤ 17 ∧ ex'.length ≤ 17 ∧ (∀ x ∈ ex', x.2.length ≤ 300) ∧ pl'.length ≤ 1300) → K (.ret (.agg [.bool mk, .int .i64 ty, .int .i64 seq, .int .i64 ti, .int .i64 ss, .lst 0 (cellsI cs') cs'.length 1, .lst 0 (cellsXM ex') ex'.length 2, .int .i64 pad, .str pl'])) H
  | _, _, _ => False
theorem few_ok : ValidF Tryd.prog gl0 12 cFew := by
  refine valid_frz (enters_of (by kernel_rfl)) gl0_noY 9 aggK wk_aggK fun args H Q hc => ?_
  unfold cFew at hc
  split at hc
  · rename_i mk ty seq ti ss c5 n5 tx c6 n6 pad pl
    obtain ⟨cs, ex, ⟨rfl, rfl, rfl, rfl⟩, hq⟩ := hc
    obtain ⟨hv, hb', h⟩ := few_run mk ty seq ti ss cs tx ex pad pl (fun o H' _ => ∃ v, o = .ret v ∧ Q (.ret (aggK (frzV 0 H' 9 v))) H) (fun a b H' e1 e2 => ⟨_, rfl, by
      have := hq (cs.take 17) (fewXM (ex.take 17)) (pl.take 1300) ⟨by rw [List.length_take]; omega, by rw [few_len, List.length_take]; omega, fun x hx => by
        simp only [fewXM, List.mem_map] at hx
        obtain ⟨y, _, rfl⟩ := hx
        dsimp only
        rw [List.length_take]
        omega, by rw [List.length_take]; omega⟩
      unfold okA at e1
      unfold okX at e2
      rw [← e1, ← e2] at this
      exact this⟩)
    refine ⟨rfl, rfl, _, 1000, ?_, rfl, h⟩
    exact ⟨mixed23, names23, tabA_ok, sm0_ok⟩
  · exact hc.elim
end Go.Proofs.YtbchmkhliehbfaaDoor

/-
  Chapter 23: equal packets are the same; changed octets.
-/
import Derived.Test.YtbchmkhliehbfaaDoorM23Q
set_option linter.unusedSimpArgs false
set_option linter.unusedVariables false
set_option linter.unusedSectionVars false
namespace Go.Proofs.YtbchmkhliehbfaaDoor
open Go.RowKit
set_option maxRecDepth 1000000

def inv_23a (cs : List Int) (s : S) : List (List LInv) := [[{ α := Nat, pre := fun i => Lf (i ≤ cs.length), st := fun i => ⟨mkT [(2, .ptr 0 9 0), (3, .ptr 1 9 0), (5, .int .i64 (i : Nat))], s.hp⟩, mu := fun i => cs.length - i }]]
def inv_23b (ex : List Xt) (s : S) : List (List LInv) := [[{ α := Nat, pre := fun i => Lf (i ≤ ex.length), st := fun i => ⟨mkT [(2, .ptr 0 9 0), (3, .ptr 1 9 0), (6, .int .i64 (i : Nat))], s.hp⟩, mu := fun i => ex.length - i }]]
noncomputable def env_23 (hv : Nat → Option Pa) (hb : Nat → Option Bool) (cs : List Int) (ex : List Xt) : Env := e23 sm0 (fun i => bif Nat.beq i 23000 then some (inv_23a cs) else bif Nat.beq i 23002 then some (inv_23b ex) else none) hv hb
noncomputable def goal_23 (hv : Nat → Option Pa) (hb : Nat → Option Bool) (mk : Bool) (ty seq ti ss : Int) (tc : Nat) (cs : List Int) (tx : Nat) (ex : List Xt) (pad : Int) (pl : List UInt8) (tc' tx' : Nat) (Q : Out → List Blk → Gh → Prop) : Prop :=
  callx (env_23 hv hb cs ex) (wpx (env_23 hv hb cs ex) 1000) 23 [.agg (medM mk ty seq ti ss tc cs tx ex pad pl), .agg (medM mk ty seq ti ss tc' cs tx' ex pad pl)] [] {} Q
def vc_23_1 (mk : Bool) (ty : Int) (seq : Int) (ti : Int) (ss : Int) (tc : Nat) (cs : List Int) (tx : Nat) (ex : List Xt) (pad : Int) (pl : List UInt8) (tc' : Nat) (tx' : Nat) (Q : Out → List Blk → Gh → Prop) : Prop := (
(bif (ty != ty) then (Q (Out.ret (AV.bool false)) [] (Gh.mk (0 : Nat) (0 : Nat) []))
else (bif (seq != seq) then (Q (Out.ret (AV.bool false)) [] (Gh.mk (0 : Nat) (0 : Nat) []))
else (bif (ti != ti) then (Q (Out.ret (AV.bool false)) [] (Gh.mk (0 : Nat) (0 : Nat) []))
else (bif (ss != ss) then (Q (Out.ret (AV.bool false)) [] (Gh.mk (0 : Nat) (0 : Nat) []))
else (bif (pad != pad) then (Q (Out.ret (AV.bool false)) [] (Gh.mk (0 : Nat) (0 : Nat) []))
else (bif (!(eqB pl pl)) then (Q (Out.ret (AV.bool false)) [] (Gh.mk (0 : Nat) (0 : Nat) []))
else (∃ n_0 : Int, (((AV.int .i64 (Nat.cast (List.length cs) : Int)) = (AV.int .i64 n_0)) ∧
 (∃ n_1 : Int, (((AV.int .i64 (Nat.cast (List.length cs) : Int)) = (AV.int .i64 n_1)) ∧
 (bif (n_0 != n_1) then (Q (Out.ret (AV.bool false)) [] (Gh.mk (0 : Nat) (0 : Nat) []))
else (∃ n_2 : Int, (((AV.int .i64 (Nat.cast (List.length ex) : Int)) = (AV.int .i64 n_2)) ∧
 (∃ n_3 : Int, (((AV.int .i64 (Nat.cast (List.length ex) : Int)) = (AV.int .i64 n_3)) ∧
 (bif (n_2 != n_3) then (Q (Out.ret (AV.bool false)) [] (Gh.mk (0 : Nat) (0 : Nat) []))
else ((∃ x_4 : Nat, ((Lf (x_4 ≤ (List.length cs))) ∧
 ((((AV.bool mk) :: ((AV.int .i64 ty) :: ((AV.int .i64 seq) :: ((AV.int .i64 ti) :: ((AV.int .i64 ss) :: ((AV.lst tc (cellsI cs) (List.length cs) (1 : Nat)) :: ((AV.lst tx (cellsXM ex) (List.length ex) (2 : Nat)) :: ((AV.int .i64 pad) :: ((AV.str pl) :: []))))))))) = ((AV.bool mk) :: ((AV.int .i64 ty) :: ((AV.int .i64 seq) :: ((AV.int .i64 ti) :: ((AV.int .i64 ss) :: ((AV.lst tc (cellsI cs) (List.length cs) (1 : Nat)) :: ((AV.lst tx (cellsXM ex) (List.length ex) (2 : Nat)) :: ((AV.int .i64 pad) :: ((AV.str pl) :: [])))))))))) ∧
 ((((AV.bool mk) :: ((AV.int .i64 ty) :: ((AV.int .i64 seq) :: ((AV.int .i64 ti) :: ((AV.int .i64 ss) :: ((AV.lst tc' (cellsI cs) (List.length cs) (1 : Nat)) :: ((AV.lst tx' (cellsXM ex) (List.length ex) (2 : Nat)) :: ((AV.int .i64 pad) :: ((AV.str pl) :: []))))))))) = ((AV.bool mk) :: ((AV.int .i64 ty) :: ((AV.int .i64 seq) :: ((AV.int .i64 ti) :: ((AV.int .i64 ss) :: ((AV.lst tc' (cellsI cs) (List.length cs) (1 : Nat)) :: ((AV.lst tx' (cellsXM ex) (List.length ex) (2 : Nat)) :: ((AV.int .i64 pad) :: ((AV.str pl) :: [])))))))))) ∧
 (((AV.ptr (1 : Nat) (9 : Nat) (0 : Nat)) = (AV.ptr (1 : Nat) (9 : Nat) (0 : Nat))) ∧
 (((AV.int .i64 (0 : Int)) = (AV.int .i64 (Nat.cast x_4 : Int))) ∧
 (((AV.ptr (0 : Nat) (9 : Nat) (0 : Nat)) = (AV.ptr (0 : Nat) (9 : Nat) (0 : Nat))) ∧
 True))))))) ∧
 (∀ x_4 : Nat, ((Lf (x_4 ≤ (List.length cs))) →
(∃ n_5 : Int, (((AV.int .i64 (Nat.cast x_4 : Int)) = (AV.int .i64 n_5)) ∧
 (∃ n_6 : Int, (((AV.int .i64 (Nat.cast (List.length cs) : Int)) = (AV.int .i64 n_6)) ∧
 (bif (decide (n_5 < n_6)) then (∃ n_7 : Int, (((AV.int .i64 (Nat.cast x_4 : Int)) = (AV.int .i64 n_7)) ∧
 (bif (((decide ((0 : Int) ≤ n_7)) && (Nat.blt (Int.toNat n_7) (List.length cs))) && true) then (bif (Nat.blt ((Int.toNat n_7) * (1 : Nat)) (List.length (cellsI cs))) then (∃ n_8 : Int, (((List.getD (cellsI cs) ((Int.toNat n_7) * (1 : Nat)) AV.undef) = (AV.int .i64 n_8)) ∧
 (∃ n_9 : Int, (((AV.int .i64 (Nat.cast x_4 : Int)) = (AV.int .i64 n_9)) ∧
 (bif (((decide ((0 : Int) ≤ n_9)) && (Nat.blt (Int.toNat n_9) (List.length cs))) && true) then (bif (Nat.blt ((Int.toNat n_9) * (1 : Nat)) (List.length (cellsI cs))) then (∃ n_10 : Int, (((List.getD (cellsI cs) ((Int.toNat n_9) * (1 : Nat)) AV.undef) = (AV.int .i64 n_10)) ∧
 (bif (n_8 != n_10) then (Q (Out.ret (AV.bool false)) [] (Gh.mk (0 : Nat) (0 : Nat) []))
else (∃ n_11 : Int, (((AV.int .i64 (Nat.cast x_4 : Int)) = (AV.int .i64 n_11)) ∧
 (∃ n_12 : Int, (((AV.int .i64 (IntKind.wrap .i64 (n_11 + (1 : Int)))) = (AV.int .i64 n_12)) ∧
 ((True ∧
 ((0 : Nat) = (0 : Nat))) ∧
 (∃ y_13 : Nat, ((Lf (y_13 ≤ (List.length cs))) ∧
 ((((List.length cs) - y_13) < ((List.length cs) - x_4)) ∧
 ((((AV.bool mk) :: ((AV.int .i64 ty) :: ((AV.int .i64 seq) :: ((AV.int .i64 ti) :: ((AV.int .i64 ss) :: ((AV.lst tc (cellsI cs) (List.length cs) (1 : Nat)) :: ((AV.lst tx (cellsXM ex) (List.length ex) (2 : Nat)) :: ((AV.int .i64 pad) :: ((AV.str pl) :: []))))))))) = ((AV.bool mk) :: ((AV.int .i64 ty) :: ((AV.int .i64 seq) :: ((AV.int .i64 ti) :: ((AV.int .i64 ss) :: ((AV.lst tc (cellsI cs) (List.length cs) (1 : Nat)) :: ((AV.lst tx (cellsXM ex) (List.length ex) (2 : Nat)) :: ((AV.int .i64 pad) :: ((AV.str pl) :: [])))))))))) ∧
 ((((AV.bool mk) :: ((AV.int .i64 ty) :: ((AV.int .i64 seq) :: ((AV.int .i64 ti) :: ((AV.int .i64 ss) :: ((AV.lst tc' (cellsI cs) (List.length cs) (1 : Nat)) :: ((AV.lst tx' (cellsXM ex) (List.length ex) (2 : Nat)) :: ((AV.int .i64 pad) :: ((AV.str pl) :: []))))))))) = ((AV.bool mk) :: ((AV.int .i64 ty) :: ((AV.int .i64 seq) :: ((AV.int .i64 ti) :: ((AV.int .i64 ss) :: ((AV.lst tc' (cellsI cs) (List.length cs) (1 : Nat)) :: ((AV.lst tx' (cellsXM ex) (List.length ex) (2 : Nat)) :: ((AV.int .i64 pad) :: ((AV.str pl) :: [])))))))))) ∧
 (((AV.ptr (1 : Nat) (9 : Nat) (0 : Nat)) = (AV.ptr (1 : Nat) (9 : Nat) (0 : Nat))) ∧
 (((AV.int .i64 n_12) = (AV.int .i64 (Nat.cast y_13 : Int))) ∧
 (((AV.ptr (0 : Nat) (9 : Nat) (0 : Nat)) = (AV.ptr (0 : Nat) (9 : Nat) (0 : Nat))) ∧
 True))))))))))))))))
else False)
else False)))))
else False)
else False)))
else ((∃ x_7 : Nat, ((Lf (x_7 ≤ (List.length ex))) ∧
 ((((AV.bool mk) :: ((AV.int .i64 ty) :: ((AV.int .i64 seq) :: ((AV.int .i64 ti) :: ((AV.int .i64 ss) :: ((AV.lst tc (cellsI cs) (List.length cs) (1 : Nat)) :: ((AV.lst tx (cellsXM ex) (List.length ex) (2 : Nat)) :: ((AV.int .i64 pad) :: ((AV.str pl) :: []))))))))) = ((AV.bool mk) :: ((AV.int .i64 ty) :: ((AV.int .i64 seq) :: ((AV.int .i64 ti) :: ((AV.int .i64 ss) :: ((AV.lst tc (cellsI cs) (List.length cs) (1 : Nat)) :: ((AV.lst tx (cellsXM ex) (List.length ex) (2 : Nat)) :: ((AV.int .i64 pad) :: ((AV.str pl) :: [])))))))))) ∧
 ((((AV.bool mk) :: ((AV.int .i64 ty) :: ((AV.int .i64 seq) :: ((AV.int .i64 ti) :: ((AV.int .i64 ss) :: ((AV.lst tc' (cellsI cs) (List.length cs) (1 : Nat)) :: ((AV.lst tx' (cellsXM ex) (List.length ex) (2 : Nat)) :: ((AV.int .i64 pad) :: ((AV.str pl) :: []))))))))) = ((AV.bool mk) :: ((AV.int .i64 ty) :: ((AV.int .i64 seq) :: ((AV.int .i64 ti) :: ((AV.int .i64 ss) :: ((AV.lst tc' (cellsI cs) (List.length cs) (1 : Nat)) :: ((AV.lst tx' (cellsXM ex) (List.length ex) (2 : Nat)) :: ((AV.int .i64 pad) :: ((AV.str pl) :: [])))))))))) ∧
 (((AV.ptr (1 : Nat) (9 : Nat) (0 : Nat)) = (AV.ptr (1 : Nat) (9 : Nat) (0 : Nat))) ∧
 (((AV.ptr (0 : Nat) (9 : Nat) (0 : Nat)) = (AV.ptr (0 : Nat) (9 : Nat) (0 : Nat))) ∧
 (((AV.int .i64 (0 : Int)) = (AV.int .i64 (Nat.cast x_7 : Int))) ∧
 True))))))) ∧
 (∀ x_7 : Nat, ((Lf (x_7 ≤ (List.length ex))) →
(∃ n_8 : Int, (((AV.int .i64 (Nat.cast x_7 : Int)) = (AV.int .i64 n_8)) ∧
 (∃ n_9 : Int, (((AV.int .i64 (Nat.cast (List.length ex) : Int)) = (AV.int .i64 n_9)) ∧
 (bif (decide (n_8 < n_9)) then (∃ n_10 : Int, (((AV.int .i64 (Nat.cast x_7 : Int)) = (AV.int .i64 n_10)) ∧
 (bif (((decide ((0 : Int) ≤ n_10)) && (Nat.blt (Int.toNat n_10) (List.length ex))) && true) then (bif (Nat.ble (((Int.toNat n_10) * (2 : Nat)) + (2 : Nat)) (List.length (cellsXM ex))) then (∃ n_11 : Int, (∃ s_12 : (List UInt8), (((AV.agg (List.take (2 : Nat) (List.drop ((Int.toNat n_10) * (2 : Nat)) (cellsXM ex)))) = (AV.agg ((AV.int .i64 n_11) :: ((AV.str s_12) :: [])))) ∧
 (∃ n_13 : Int, (((AV.int .i64 (Nat.cast x_7 : Int)) = (AV.int .i64 n_13)) ∧
 (bif (((decide ((0 : Int) ≤ n_13)) && (Nat.blt (Int.toNat n_13) (List.length ex))) && true) then (bif (Nat.ble (((Int.toNat n_13) * (2 : Nat)) + (2 : Nat)) (List.length (cellsXM ex))) then (∃ n_14 : Int, (∃ s_15 : (List UInt8), (((AV.agg (List.take (2 : Nat) (List.drop ((Int.toNat n_13) * (2 : Nat)) (cellsXM ex)))) = (AV.agg ((AV.int .i64 n_14) :: ((AV.str s_15) :: [])))) ∧
 (bif (!((n_11 == n_14) && ((eqB s_12 s_15) && true))) then (Q (Out.ret (AV.bool false)) [] (Gh.mk (0 : Nat) (0 : Nat) []))
else (∃ n_16 : Int, (((AV.int .i64 (Nat.cast x_7 : Int)) = (AV.int .i64 n_16)) ∧
 (∃ n_17 : Int, (((AV.int .i64 (IntKind.wrap .i64 (n_16 + (1 : Int)))) = (AV.int .i64 n_17)) ∧
 ((True ∧
 ((0 : Nat) = (0 : Nat))) ∧
 (∃ y_18 : Nat, ((Lf (y_18 ≤ (List.length ex))) ∧
 ((((List.length ex) - y_18) < ((List.length ex) - x_7)) ∧
 ((((AV.bool mk) :: ((AV.int .i64 ty) :: ((AV.int .i64 seq) :: ((AV.int .i64 ti) :: ((AV.int .i64 ss) :: ((AV.lst tc (cellsI cs) (List.length cs) (1 : Nat)) :: ((AV.lst tx (cellsXM ex) (List.length ex) (2 : Nat)) :: ((AV.int .i64 pad) :: ((AV.str pl) :: []))))))))) = ((AV.bool mk) :: ((AV.int .i64 ty) :: ((AV.int .i64 seq) :: ((AV.int .i64 ti) :: ((AV.int .i64 ss) :: ((AV.lst tc (cellsI cs) (List.length cs) (1 : Nat)) :: ((AV.lst tx (cellsXM ex) (List.length ex) (2 : Nat)) :: ((AV.int .i64 pad) :: ((AV.str pl) :: [])))))))))) ∧
 ((((AV.bool mk) :: ((AV.int .i64 ty) :: ((AV.int .i64 seq) :: ((AV.int .i64 ti) :: ((AV.int .i64 ss) :: ((AV.lst tc' (cellsI cs) (List.length cs) (1 : Nat)) :: ((AV.lst tx' (cellsXM ex) (List.length ex) (2 : Nat)) :: ((AV.int .i64 pad) :: ((AV.str pl) :: []))))))))) = ((AV.bool mk) :: ((AV.int .i64 ty) :: ((AV.int .i64 seq) :: ((AV.int .i64 ti) :: ((AV.int .i64 ss) :: ((AV.lst tc' (cellsI cs) (List.length cs) (1 : Nat)) :: ((AV.lst tx' (cellsXM ex) (List.length ex) (2 : Nat)) :: ((AV.int .i64 pad) :: ((AV.str pl) :: [])))))))))) ∧
 (((AV.ptr (1 : Nat) (9 : Nat) (0 : Nat)) = (AV.ptr (1 : Nat) (9 : Nat) (0 : Nat))) ∧
 (((AV.ptr (0 : Nat) (9 : Nat) (0 : Nat)) = (AV.ptr (0 : Nat) (9 : Nat) (0 : Nat))) ∧
 (((AV.int .i64 n_17) = (AV.int .i64 (Nat.cast y_18 : Int))) ∧
 True)))))))))))))))))
else False)
else False))))))
else False)
else False)))
else (Q (Out.ret (AV.bool true)) [] (Gh.mk (0 : Nat) (0 : Nat) [])))))))))))))))))))))))))))))))))))
theorem vc_23 (mk : Bool) (ty : Int) (seq : Int) (ti : Int) (ss : Int) (tc : Nat) (cs : List Int) (tx : Nat) (ex : List Xt) (pad : Int) (pl : List UInt8) (tc' : Nat) (tx' : Nat) (Q : Out → List Blk → Gh → Prop) : goal_23 (lookV [(94265, .int .i64), (94268, .int .i64), (94274, .int .i64), (94277, .int .i64), (94280, .int .i64), (94283, .int .i64), (94289, .int .i64), (94291, .int .i64), (94294, .int .i64), (94296, .int .i64), (94285, .int .i64), (94286, .int .i64), (94298, .int .i64), (94301, .int .i64), (94307, .int .i64), (94309, .agg [(.int .i64), (.str)]), (94312, .int .i64), (94314, .agg [(.int .i64), (.str)]), (94303, .int .i64), (94304, .int .i64)]) (lookB []) mk ty seq ti ss tc cs tx ex pad pl tc' tx' Q = (
(bif mk then (bif mk then (vc_23_1 mk ty seq ti ss tc cs tx ex pad pl tc' tx' Q)
else (Q (Out.ret (AV.bool false)) [] (Gh.mk (0 : Nat) (0 : Nat) [])))
else (bif mk then (Q (Out.ret (AV.bool false)) [] (Gh.mk (0 : Nat) (0 : Nat) []))
else (vc_23_1 mk ty seq ti ss tc cs tx ex pad pl tc' tx' Q)))) := by kernel_rfl

noncomputable def goal_20 (hv : Nat → Option Pa) (hb : Nat → Option Bool) (at' less : Int) (text s : List UInt8) (Q : Out → List Blk → Gh → Prop) : Prop :=
  callx (e23 sm0 (fun _ => none) hv hb) (wpx (e23 sm0 (fun _ => none) hv hb) 1000) 20 [.agg [.int .u16 at', .int .u8 less, .str text], .str s] [] {} Q
theorem vc_20 (at' : Int) (less : Int) (text : List UInt8) (s : List UInt8) (Q : Out → List Blk → Gh → Prop) : goal_20 (lookV [(81928, .int .i64), (81930, .int .i64), (81931, .int .i64), (81934, .str), (81939, .int .i64), (81940, .int .i64), (81941, .str), (81942, .str), (81947, .int .i64), (81948, .int .i64), (81950, .int .i64), (81951, .int .i64), (81952, .str), (81953, .str)]) (lookB []) at' less text s Q = (
(∃ n_0 : Int, (((AV.int .i64 (IntKind.wrap .i64 at')) = (AV.int .i64 n_0)) ∧
 (∃ n_1 : Int, (((AV.int .i64 (Nat.cast (List.length s) : Int)) = (AV.int .i64 n_1)) ∧
 (∃ n_2 : Int, (((AV.int .i64 (imin n_0 n_1)) = (AV.int .i64 n_2)) ∧
 (bif (((decide ((0 : Int) ≤ n_2)) && true) && (Nat.ble (Int.toNat n_2) (List.length s))) then (∃ s_3 : (List UInt8), (((AV.str (List.take ((Int.toNat n_2) - (0 : Nat)) (List.drop (0 : Nat) s))) = (AV.str s_3)) ∧
 (∃ n_4 : Int, (((AV.int .i64 (Nat.cast (List.length text) : Int)) = (AV.int .i64 n_4)) ∧
 (∃ n_5 : Int, (((AV.int .i64 (imin n_4 (20 : Int))) = (AV.int .i64 n_5)) ∧
 (bif (((decide ((0 : Int) ≤ n_5)) && true) && (Nat.ble (Int.toNat n_5) (List.length text))) then (∃ s_6 : (List UInt8), (((AV.str (List.take ((Int.toNat n_5) - (0 : Nat)) (List.drop (0 : Nat) text))) = (AV.str s_6)) ∧
 (bif ((decide (((List.length s_3) + (List.length s_6)) ≤ (9223372036854775807 : Nat))) && true) then (∃ s_7 : (List UInt8), (((AV.str (s_3 ++ s_6)) = (AV.str s_7)) ∧
 (∃ n_8 : Int, (((AV.int .i64 (IntKind.wrap .i64 less)) = (AV.int .i64 n_8)) ∧
 (∃ n_9 : Int, (((AV.int .i64 (IntKind.wrap .i64 (n_2 + n_8))) = (AV.int .i64 n_9)) ∧
 (∃ n_10 : Int, (((AV.int .i64 (Nat.cast (List.length s) : Int)) = (AV.int .i64 n_10)) ∧
 (∃ n_11 : Int, (((AV.int .i64 (imin n_9 n_10)) = (AV.int .i64 n_11)) ∧
 (bif ((((decide ((0 : Int) ≤ n_11)) && true) && (Nat.ble (Int.toNat n_11) (List.length s))) && (Nat.ble (List.length s) (List.length s))) then (∃ s_12 : (List UInt8), (((AV.str (List.take ((List.length s) - (Int.toNat n_11)) (List.drop (Int.toNat n_11) s))) = (AV.str s_12)) ∧
 (bif ((decide (((List.length s_7) + (List.length s_12)) ≤ (9223372036854775807 : Nat))) && true) then (∃ s_13 : (List UInt8), (((AV.str (s_7 ++ s_12)) = (AV.str s_13)) ∧
 (Q (Out.ret (AV.str s_13)) [] (Gh.mk (0 : Nat) (0 : Nat) []))))
else False)))
else False)))))))))))
else False)))
else False)))))))
else False)))))))) := by kernel_rfl

theorem same_run (mk : Bool) (ty seq ti ss : Int) (tc : Nat) (cs : List Int) (tx : Nat) (ex : List Xt) (pad : Int) (pl : List UInt8) (tc' tx' : Nat) (hc : cs.length ≤ 1000000) (hx : ex.length ≤ 1000000) (Q : Out → List Blk → Gh → Prop) (hq : Q (.ret (.bool true)) [] {}) :
    ∃ hv hb, goal_23 hv hb mk ty seq ti ss tc cs tx ex pad pl tc' tx' Q := by
  obtain ⟨hv, hb', e⟩ : ∃ hv hb, goal_23 hv hb mk ty seq ti ss tc cs tx ex pad pl tc' tx' Q = _ := ⟨_, _, vc_23 mk ty seq ti ss tc cs tx ex pad pl tc' tx' Q⟩
  refine ⟨hv, hb', e.mpr ?_⟩
  clear e
  have h1 : vc_23_1 mk ty seq ti ss tc cs tx ex pad pl tc' tx' Q := by
    unfold vc_23_1
    refine splitNE (fun h => absurd rfl h) (fun _ => splitNE (fun h => absurd rfl h) (fun _ => splitNE (fun h => absurd rfl h) (fun _ => splitNE (fun h => absurd rfl h) (fun _ => splitNE (fun h => absurd rfl h) (fun _ => eqbI ⟨_, rfl, _, rfl, splitNE (fun h => absurd rfl h) (fun _ => ⟨_, rfl, _, rfl, splitNE (fun h => absurd rfl h) (fun _ => ⟨⟨0, ⟨by omega⟩, rfl, rfl, rfl, rfl, rfl, trivial⟩, ?_⟩)⟩)⟩)))))
    rintro i ⟨hi⟩
    refine ⟨_, rfl, _, rfl, splitD (fun h => ?_) (fun h => ⟨⟨0, ⟨by omega⟩, rfl, rfl, rfl, rfl, rfl, trivial⟩, ?_⟩)⟩
    · have hlt : i < cs.length := by omega
      refine ⟨_, rfl, ckI (by simp; omega) (ckI (by simp [cellsI_length]; omega) (cellsI_get hlt ⟨_, rfl, ckI (by simp; omega) (ckI (by simp [cellsI_length]; omega) (cellsI_get hlt (splitNE (fun h => absurd rfl h) (fun _ => ⟨_, rfl, wrapI (by omega) (by omega) ⟨⟨trivial, rfl⟩, i + 1, ⟨by omega⟩, by omega, rfl, rfl, rfl, rfl, rfl, trivial⟩⟩)) (by simp)))⟩ (by simp)))⟩
    · rintro j ⟨hj⟩
      refine ⟨_, rfl, _, rfl, splitD (fun h => ?_) (fun h => hq)⟩
      have hlt : j < ex.length := by omega
      refine ⟨_, rfl, ckI (by simp; omega) (ckI (by simp [cellsX_len]; omega) (getX hlt (by simp) ⟨_, rfl, ckI (by simp; omega) (ckI (by simp [cellsX_len]; omega) (getX hlt (by simp) ?_))⟩))⟩
      rw [show (!((ex[j].1 == ex[j].1) && ((eqB ex[j].2 ex[j].2) && true))) = false by simp [eqB_self]]
      exact ⟨_, rfl, wrapI (by omega) (by omega) ⟨⟨trivial, rfl⟩, j + 1, ⟨by omega⟩, by omega, rfl, rfl, rfl, rfl, rfl, trivial⟩⟩
  cases mk
  · exact h1
  · exact h1
def cSame : Con
  | [.agg [.bool mk, .int .i64 ty, .int .i64 seq, .int .i64 ti, .int .i64 ss, .lst _ c5 n5 1, .lst _ c6 n6 2, .int .i64 pad, .str pl], .agg [.bool mk', .int .i64 ty', .int .i64 seq', .int .i64 ti', .int .i64 ss', .lst _ c5' n5' 1, .lst _ c6' n6' 2, .int .i64 pad', .str pl']], H, K => ∃ (cs : List Int) (ex : List Xt), Lf ((c5 = cellsI cs ∧ n5 = cs.length ∧ c6 = cellsXM ex ∧ n6 = ex.length ∧ cs.length ≤ 1000000 ∧ ex.length ≤ 1000000) ∧ (mk' = mk ∧ ty' = ty ∧ seq' = seq ∧ ti' = ti ∧ ss' = ss ∧ c5' = cellsI cs ∧ n5' = cs.length ∧ c6' = cellsXM ex ∧ n6' = ex.length ∧ pad' = pad ∧ pl' = pl)) ∧ K (.ret (.bool true)) H
  | _, _, _ => False
theorem same_raw : ValidF Tryd.prog gl0 23 cSame := by
  refine valid_flat (enters_of (by kernel_rfl)) gl0_noY fun args H Q hc => ?_
  unfold cSame at hc
  split at hc
  · rename_i mk ty seq ti ss tc c5 n5 tx c6 n6 pad pl mk' ty' seq' ti' ss' tc' c5' n5' tx' c6' n6' pad' pl'
    obtain ⟨cs, ex, ⟨⟨rfl, rfl, rfl, rfl, k1, k2⟩, rfl, rfl, rfl, rfl, rfl, rfl, rfl, rfl, rfl, rfl, rfl⟩, hq⟩ := hc
    obtain ⟨hv, hb', h⟩ := same_run mk' ty' seq' ti' ss' tc cs tx ex pad' pl' tc' tx' k1 k2 (fun o H' _ => H' = [] ∧ (∃ v, o = .ret v ∧ old 0 v = true ∧ noY v = true) ∧ Q o H) ⟨rfl, ⟨_, rfl, rfl, rfl⟩, hq⟩
    exact ⟨rfl, rfl, _, 1000, ⟨mixed23, names23, tabA_ok, sm0_ok⟩, rfl, h⟩
  · exact hc.elim
def aggL : List AV → List AV
  | [a, b] => [aggK a, aggK b]
  | l => l
def cSameV : Con := fun args H Q => cSame (aggL args) H Q
theorem same_ok : ValidF Tryd.prog gl0 23 cSameV := valid_wkA same_raw fun args H Q h => ⟨aggL args, by
  unfold aggL
  split
  · exact wkL_cons (wk_aggK _) (wkL_cons (wk_aggK _) wkL_nil)
  · exact wkL_refl _, h⟩
/-! ## Edit.Of -/
theorem edit_run (a b : Nat) (text s : List UInt8) (ha : a ≤ 65535) (hb : b ≤ 255) (hs : s.length ≤ 1000000) (Q : Out → List Blk → Gh → Prop) (hq : ∀ t : List UInt8, t.length ≤ s.length + 20 → Q (.ret (.str t)) [] {}) : ∃ hv hb, goal_20 hv hb a b text s Q := by
  obtain ⟨hv, hb', e⟩ : ∃ hv hb, goal_20 hv hb a b text s Q = _ := ⟨_, _, vc_20 a b text s Q⟩
  refine ⟨hv, hb', e.mpr ?_⟩
  clear e
  refine wrapI (by omega) (by omega) ⟨_, rfl, iminI rfl (ckI (by simp; omega) ⟨_, rfl, _, rfl, iminI (b := 20) rfl (ckI (by simp; omega) ⟨_, rfl, ckI (by simp; omega) ⟨_, rfl, wrapI (by omega) (by omega) (wrapI (by omega) (by omega) ⟨_, rfl, iminI (a := min a s.length + b) (by omega) (ckI (by simp; omega) ⟨_, rfl, ckI (by simp; omega) ⟨_, rfl, hq _ (by simp; omega)⟩⟩)⟩)⟩⟩)⟩)⟩
def cEdit : Con
  | [.agg [.int .u16 a, .int .u8 b, .str text], .str s], H, K => Lf ((0 ≤ a ∧ a ≤ 65535) ∧ (0 ≤ b ∧ b ≤ 255) ∧ s.length ≤ 1000000) ∧ ∀ t : List UInt8, Lf (t.length ≤ s.length + 20) → K (.ret (.str t)) H
  | _, _, _ => False
theorem edit_ok : ValidF Tryd.prog gl0 20 cEdit := by
  refine valid_flat (enters_of (by kernel_rfl)) gl0_noY fun args H Q hc => ?_
  unfold cEdit at hc
  split at hc
  · rename_i a b text s
    obtain ⟨⟨⟨a0, a1⟩, ⟨b0, b1⟩, hs⟩, hq⟩ := hc
    obtain ⟨a, rfl⟩ := Int.eq_ofNat_of_zero_le a0
    obtain ⟨b, rfl⟩ := Int.eq_ofNat_of_zero_le b0
    obtain ⟨hv, hb', h⟩ := edit_run a b text s (by omega) (by omega) hs (fun o H' _ => H' = [] ∧ (∃ v, o = .ret v ∧ old 0 v = true ∧ noY v = true) ∧ Q o H) (fun t ht => ⟨rfl, ⟨_, rfl, rfl, rfl⟩, hq t ⟨ht⟩⟩)
    exact ⟨rfl, rfl, _, 1000, ⟨mixed23, names23, tabA_ok, sm0_ok⟩, rfl, h⟩
  · exact hc.elim
end Go.Proofs.YtbchmkhliehbfaaDoor

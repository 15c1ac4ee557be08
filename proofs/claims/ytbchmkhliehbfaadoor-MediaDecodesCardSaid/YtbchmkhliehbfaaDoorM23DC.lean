/-
  Chapter 23: the extensions that are read.
-/
import Derived.Test.YtbchmkhliehbfaaDoorM23DA
set_option linter.unusedSimpArgs false
set_option linter.unusedVariables false
set_option linter.unusedSectionVars false
namespace Go.Proofs.YtbchmkhliehbfaaDoor
open Go.RowKit
set_option maxRecDepth 1000000

def cShortV : Con := fun args H Q => lendL [2] H args fun a => cShort a H Q
def smDC : SM := lookS [(42, cTrim), (57, cShortV)]
/-- what was read so far: the extensions 'acc', the last number; 'r' is left -/
def goM (p : Int) (s : List UInt8) (acc : List Xt) (last : Int) (r : List UInt8) : Prop :=
  r.length ≤ s.length ∧ ∃ f, r.length ≤ f ∧ extGoM p s.length 0 0 s = (acc ++ (extGoM p f last acc.length r).1, (extGoM p f last acc.length r).2)
def inv_41 (p : Int) (s0 : List UInt8) (s : S) : List (List LInv) := match s.hp with
  | [b0, ⟨k, lf, [a0, a1, a2, a3, a4, cs, ex, a7, a8, a9, a10]⟩, b2, b3] => [[
    { α := Nat, pre := fun i => Lf (i = 0), st := fun i => ⟨mkT [(0, .ptr 1 11 0), (1, .str s0), (2, .int .i64 p), (6, .int .i64 0)], s.hp⟩, mu := fun i => s0.length + 1 },
    { α := List Xt × Int × List UInt8, pre := fun x => Lf (goM p s0 x.1 x.2.1 x.2.2 ∧ 1 ≤ x.1.length ∧ x.1.length ≤ 16), st := fun x => ⟨mkT [(0, .ptr 1 11 0), (1, .str x.2.2), (2, .int .i64 p), (6, .int .i64 x.2.1)], [b0, ⟨k, false, [a0, a1, a2, a3, a4, cs, .sl 5 (2 * x.1.length) 0 x.1.length 2, a7, a8, a9, .bool false]⟩, b2, b3, ⟨.exact, true, cellsXM (x.1.take 1)⟩, ⟨.grow, true, cellsXM x.1⟩]⟩, mu := fun x => x.2.2.length }]]
  | [b0, ⟨k, lf, [a0, a1, a2, a3, a4, cs, ex, a7, a8, a9, a10]⟩, b2, b3, b4, b5] => [[
    { α := Nat, pre := fun i => Lf (i = 0), st := fun i => ⟨mkT [(0, .ptr 1 11 0), (1, .str s0), (2, .int .i64 p), (6, .int .i64 0)], s.hp⟩, mu := fun i => s0.length + 1 },
    { α := List Xt × Int × List UInt8, pre := fun x => Lf (goM p s0 x.1 x.2.1 x.2.2 ∧ 1 ≤ x.1.length ∧ x.1.length ≤ 16), st := fun x => ⟨mkT [(0, .ptr 1 11 0), (1, .str x.2.2), (2, .int .i64 p), (6, .int .i64 x.2.1)], [b0, ⟨k, false, [a0, a1, a2, a3, a4, cs, .sl 7 (2 * x.1.length) 0 x.1.length 2, a7, a8, a9, .bool false]⟩, b2, b3, b4, b5, ⟨.exact, true, cellsXM (x.1.take 1)⟩, ⟨.grow, true, cellsXM x.1⟩]⟩, mu := fun x => x.2.2.length }]]
  | _ => []
noncomputable def env_41 (hv : Nat → Option Pa) (hb : Nat → Option Bool) (p : Int) (s : List UInt8) : Env := e23 smDC (fun i => bif Nat.beq i 41000 then some (inv_41 p s) else none) hv hb
noncomputable def goal_41a (hv : Nat → Option Pa) (hb : Nat → Option Bool) (p : Int) (s : List UInt8) (sq ti ss : Int) (l : List UInt8) (sh : Bool) (Q : Out → List Blk → Gh → Prop) : Prop :=
  callx (env_41 hv hb p s) (wpx (env_41 hv hb p s) 1000) 41 [.ptr 1 11 0, .str s, .int .i64 p] (heapM sq ti ss .nils true l sh []) {} Q
def roundD (p : Int) (r : List UInt8) (last cnt : Int) (c1 c2 : Bool) (E1 E0 : Prop) (STEP : Int → List UInt8 → List UInt8 → Prop) : Prop := (∃ n_1 : Int, (((AV.int .i64 (Nat.cast (List.length r) : Int)) = (AV.int .i64 n_1)) ∧
 (bif (decide (n_1 > (0 : Int))) then (bif (Nat.blt (0 : Nat) (List.length r)) then (∃ n_2 : Int, (((AV.int .u8 (Nat.cast (UInt8.toNat (List.getD r (0 : Nat) (UInt8.ofNat (0 : Nat)))) : Int)) = (AV.int .u8 n_2)) ∧
 (∃ n_3 : Int, (((AV.int .i64 (IntKind.wrap .i64 n_2)) = (AV.int .i64 n_3)) ∧
 (bif (n_3 == (0 : Int)) then (∃ n_4 : Int, (((AV.int .i64 (Nat.cast (List.length r) : Int)) = (AV.int .i64 n_4)) ∧
 (bif (decide (n_4 > (3 : Int))) then E1
else (bif (Nat.ble (List.length r) (1000000 : Nat)) then (∃ s_5 : (List UInt8), (((AV.str (trimM r)) = (AV.str s_5)) ∧
 (bif (!(eqB s_5 [])) then E1
else E0)))
else False))))
else (bif (p == (48862 : Int)) then (∃ n_4 : Int, (((AV.int .i64 (Int.fdiv n_3 (16 : Int))) = (AV.int .i64 n_4)) ∧
 (∃ n_5 : Int, (((AV.int .i64 (IntKind.wrap .i64 (Nat.cast ((Int.toNat (n_3 % (18446744073709551616 : Int))) &&& (15 : Nat)) : Int))) = (AV.int .i64 n_5)) ∧
 (∃ n_6 : Int, (((AV.int .i64 (IntKind.wrap .i64 (n_5 + (1 : Int)))) = (AV.int .i64 n_6)) ∧
 (bif (decide (n_4 ≤ last)) then E1
else (∃ n_7 : Int, (((AV.int .i64 (IntKind.wrap .i64 ((1 : Int) + n_6))) = (AV.int .i64 n_7)) ∧
 (∃ n_8 : Int, (((AV.int .i64 (Nat.cast (List.length r) : Int)) = (AV.int .i64 n_8)) ∧
 (bif (decide (n_7 > n_8)) then E1
else (bif (p == (48862 : Int)) then (bif (decide (n_4 > (14 : Int))) then E1
else (bif c1 then (∃ n_9 : Int, (((AV.int .i64 cnt) = (AV.int .i64 n_9)) ∧
 (bif (n_9 == (16 : Int)) then E1
else (∃ n_10 : Int, (((AV.int .i64 (IntKind.wrap .i64 ((1 : Int) + n_6))) = (AV.int .i64 n_10)) ∧
 (bif (((decide ((0 : Int) ≤ n_10)) && (Nat.ble (1 : Nat) (Int.toNat n_10))) && (Nat.ble (Int.toNat n_10) (List.length r))) then (∃ s_11 : (List UInt8), (((AV.str (List.take ((Int.toNat n_10) - (1 : Nat)) (List.drop (1 : Nat) r))) = (AV.str s_11)) ∧
 (bif c2 then (∃ n_12 : Int, (((AV.int .i64 (IntKind.wrap .i64 ((1 : Int) + n_6))) = (AV.int .i64 n_12)) ∧
 (bif ((((decide ((0 : Int) ≤ n_12)) && true) && (Nat.ble (Int.toNat n_12) (List.length r))) && (Nat.ble (List.length r) (List.length r))) then (∃ s_13 : (List UInt8), (((AV.str (List.take ((List.length r) - (Int.toNat n_12)) (List.drop (Int.toNat n_12) r))) = (AV.str s_13)) ∧
 (STEP n_4 s_11 s_13)))
else False)))
else False)))
else False))))))
else False))
else (bif c1 then (∃ n_9 : Int, (((AV.int .i64 cnt) = (AV.int .i64 n_9)) ∧
 (bif (n_9 == (16 : Int)) then E1
else (∃ n_10 : Int, (((AV.int .i64 (IntKind.wrap .i64 ((1 : Int) + n_6))) = (AV.int .i64 n_10)) ∧
 (bif (((decide ((0 : Int) ≤ n_10)) && (Nat.ble (1 : Nat) (Int.toNat n_10))) && (Nat.ble (Int.toNat n_10) (List.length r))) then (∃ s_11 : (List UInt8), (((AV.str (List.take ((Int.toNat n_10) - (1 : Nat)) (List.drop (1 : Nat) r))) = (AV.str s_11)) ∧
 (bif c2 then (∃ n_12 : Int, (((AV.int .i64 (IntKind.wrap .i64 ((1 : Int) + n_6))) = (AV.int .i64 n_12)) ∧
 (bif ((((decide ((0 : Int) ≤ n_12)) && true) && (Nat.ble (Int.toNat n_12) (List.length r))) && (Nat.ble (List.length r) (List.length r))) then (∃ s_13 : (List UInt8), (((AV.str (List.take ((List.length r) - (Int.toNat n_12)) (List.drop (Int.toNat n_12) r))) = (AV.str s_13)) ∧
 (STEP n_4 s_11 s_13)))
else False)))
else False)))
else False))))))
else False))))))))))))))
else (∃ n_4 : Int, (((AV.int .i64 (Nat.cast (List.length r) : Int)) = (AV.int .i64 n_4)) ∧
 (bif (decide (n_4 < (2 : Int))) then E1
else (bif (Nat.blt (1 : Nat) (List.length r)) then (∃ n_5 : Int, (((AV.int .u8 (Nat.cast (UInt8.toNat (List.getD r (1 : Nat) (UInt8.ofNat (0 : Nat)))) : Int)) = (AV.int .u8 n_5)) ∧
 (∃ n_6 : Int, (((AV.int .i64 (IntKind.wrap .i64 n_5)) = (AV.int .i64 n_6)) ∧
 (bif (decide (n_3 ≤ last)) then E1
else (∃ n_7 : Int, (((AV.int .i64 (IntKind.wrap .i64 ((2 : Int) + n_6))) = (AV.int .i64 n_7)) ∧
 (∃ n_8 : Int, (((AV.int .i64 (Nat.cast (List.length r) : Int)) = (AV.int .i64 n_8)) ∧
 (bif (decide (n_7 > n_8)) then E1
else (bif (p == (48862 : Int)) then (bif (decide (n_3 > (14 : Int))) then E1
else (bif c1 then (∃ n_9 : Int, (((AV.int .i64 cnt) = (AV.int .i64 n_9)) ∧
 (bif (n_9 == (16 : Int)) then E1
else (∃ n_10 : Int, (((AV.int .i64 (IntKind.wrap .i64 ((2 : Int) + n_6))) = (AV.int .i64 n_10)) ∧
 (bif (((decide ((0 : Int) ≤ n_10)) && (Nat.ble (2 : Nat) (Int.toNat n_10))) && (Nat.ble (Int.toNat n_10) (List.length r))) then (∃ s_11 : (List UInt8), (((AV.str (List.take ((Int.toNat n_10) - (2 : Nat)) (List.drop (2 : Nat) r))) = (AV.str s_11)) ∧
 (bif c2 then (∃ n_12 : Int, (((AV.int .i64 (IntKind.wrap .i64 ((2 : Int) + n_6))) = (AV.int .i64 n_12)) ∧
 (bif ((((decide ((0 : Int) ≤ n_12)) && true) && (Nat.ble (Int.toNat n_12) (List.length r))) && (Nat.ble (List.length r) (List.length r))) then (∃ s_13 : (List UInt8), (((AV.str (List.take ((List.length r) - (Int.toNat n_12)) (List.drop (Int.toNat n_12) r))) = (AV.str s_13)) ∧
 (STEP n_3 s_11 s_13)))
else False)))
else False)))
else False))))))
else False))
else (bif c1 then (∃ n_9 : Int, (((AV.int .i64 cnt) = (AV.int .i64 n_9)) ∧
 (bif (n_9 == (16 : Int)) then E1
else (∃ n_10 : Int, (((AV.int .i64 (IntKind.wrap .i64 ((2 : Int) + n_6))) = (AV.int .i64 n_10)) ∧
 (bif (((decide ((0 : Int) ≤ n_10)) && (Nat.ble (2 : Nat) (Int.toNat n_10))) && (Nat.ble (Int.toNat n_10) (List.length r))) then (∃ s_11 : (List UInt8), (((AV.str (List.take ((Int.toNat n_10) - (2 : Nat)) (List.drop (2 : Nat) r))) = (AV.str s_11)) ∧
 (bif c2 then (∃ n_12 : Int, (((AV.int .i64 (IntKind.wrap .i64 ((2 : Int) + n_6))) = (AV.int .i64 n_12)) ∧
 (bif ((((decide ((0 : Int) ≤ n_12)) && true) && (Nat.ble (Int.toNat n_12) (List.length r))) && (Nat.ble (List.length r) (List.length r))) then (∃ s_13 : (List UInt8), (((AV.str (List.take ((List.length r) - (Int.toNat n_12)) (List.drop (Int.toNat n_12) r))) = (AV.str s_13)) ∧
 (STEP n_3 s_11 s_13)))
else False)))
else False)))
else False))))))
else False))))))))))))
else False))))))))))
else False)
else E0)))
def vc_41a_1 : Prop := (
((((AV.bool false) :: ((AV.int .i64 (0 : Int)) :: ((AV.int .i64 (0 : Int)) :: ((AV.int .i64 (0 : Int)) :: ((AV.int .i64 (0 : Int)) :: (AV.nils :: (AV.nils :: ((AV.int .i64 (0 : Int)) :: ((AV.str []) :: []))))))))) = ((AV.bool false) :: ((AV.int .i64 (0 : Int)) :: ((AV.int .i64 (0 : Int)) :: ((AV.int .i64 (0 : Int)) :: ((AV.int .i64 (0 : Int)) :: (AV.nils :: (AV.nils :: ((AV.int .i64 (0 : Int)) :: ((AV.str []) :: [])))))))))) ∧
 False))
def vc_41a_2 (p : Int) (sq : Int) (ti : Int) (ss : Int) (l : List UInt8) (sh : Bool) (Q : Out → List Blk → Gh → Prop) : Prop := (
(bif (p == (48862 : Int)) then (Q (Out.ret (AV.tup [])) ((Blk.mk BK.exact true zeroMedM) :: ((Blk.mk BK.exact true ((AV.bool false) :: ((AV.int .i64 (0 : Int)) :: ((AV.int .i64 sq) :: ((AV.int .i64 ti) :: ((AV.int .i64 ss) :: (AV.nils :: (AV.nils :: ((AV.int .i64 (0 : Int)) :: ((AV.str []) :: ((AV.str l) :: ((AV.bool true) :: [])))))))))))) :: ((Blk.mk BK.exact false ((AV.ptr (1 : Nat) (11 : Nat) (0 : Nat)) :: [])) :: ((Blk.mk BK.exact true ((AV.bool sh) :: [])) :: [])))) (Gh.mk (0 : Nat) (0 : Nat) []))
else (bif (p == (4096 : Int)) then (Q (Out.ret (AV.tup [])) ((Blk.mk BK.exact true zeroMedM) :: ((Blk.mk BK.exact true ((AV.bool false) :: ((AV.int .i64 (0 : Int)) :: ((AV.int .i64 sq) :: ((AV.int .i64 ti) :: ((AV.int .i64 ss) :: (AV.nils :: (AV.nils :: ((AV.int .i64 (0 : Int)) :: ((AV.str []) :: ((AV.str l) :: ((AV.bool true) :: [])))))))))))) :: ((Blk.mk BK.exact false ((AV.ptr (1 : Nat) (11 : Nat) (0 : Nat)) :: [])) :: ((Blk.mk BK.exact true ((AV.bool sh) :: [])) :: [])))) (Gh.mk (0 : Nat) (0 : Nat) []))
else (Q (Out.ret (AV.tup [])) ((Blk.mk BK.exact true zeroMedM) :: ((Blk.mk BK.exact true ((AV.bool false) :: ((AV.int .i64 (0 : Int)) :: ((AV.int .i64 sq) :: ((AV.int .i64 ti) :: ((AV.int .i64 ss) :: (AV.nils :: (AV.nils :: ((AV.int .i64 (0 : Int)) :: ((AV.str []) :: ((AV.str l) :: ((AV.bool true) :: [])))))))))))) :: ((Blk.mk BK.exact false ((AV.ptr (1 : Nat) (11 : Nat) (0 : Nat)) :: [])) :: ((Blk.mk BK.exact true ((AV.bool sh) :: [])) :: [])))) (Gh.mk (0 : Nat) (0 : Nat) [])))))
def vc_41a_3 (p : Int) (sq : Int) (ti : Int) (ss : Int) (l : List UInt8) (sh : Bool) (Q : Out → List Blk → Gh → Prop) : Prop := (
(∃ n_0 : Int, (((AV.int .i64 (0 : Int)) = (AV.int .i64 n_0)) ∧
 (bif (n_0 == (0 : Int)) then (Q (Out.ret (AV.tup [])) ((Blk.mk BK.exact true zeroMedM) :: ((Blk.mk BK.exact true ((AV.bool false) :: ((AV.int .i64 (0 : Int)) :: ((AV.int .i64 sq) :: ((AV.int .i64 ti) :: ((AV.int .i64 ss) :: (AV.nils :: (AV.nils :: ((AV.int .i64 (0 : Int)) :: ((AV.str []) :: ((AV.str l) :: ((AV.bool true) :: [])))))))))))) :: ((Blk.mk BK.exact false ((AV.ptr (1 : Nat) (11 : Nat) (0 : Nat)) :: [])) :: ((Blk.mk BK.exact true ((AV.bool sh) :: [])) :: [])))) (Gh.mk (0 : Nat) (0 : Nat) []))
else (∃ ex_1 : (List Xt), ((Lf ((([] : (List AV)) = (cellsXM ex_1)) ∧
 (((0 : Nat) = (List.length ex_1)) ∧
 (((List.length ex_1) ≤ (1000000 : Nat)) ∧
 (dataM ex_1))))) ∧
 (bif (shortM ex_1) then (bif (p == (48862 : Int)) then (Q (Out.ret (AV.tup [])) ((Blk.mk BK.exact true zeroMedM) :: ((Blk.mk BK.exact true ((AV.bool false) :: ((AV.int .i64 (0 : Int)) :: ((AV.int .i64 sq) :: ((AV.int .i64 ti) :: ((AV.int .i64 ss) :: (AV.nils :: (AV.nils :: ((AV.int .i64 (0 : Int)) :: ((AV.str []) :: ((AV.str l) :: ((AV.bool false) :: [])))))))))))) :: ((Blk.mk BK.exact false ((AV.ptr (1 : Nat) (11 : Nat) (0 : Nat)) :: [])) :: ((Blk.mk BK.exact true ((AV.bool sh) :: [])) :: [])))) (Gh.mk (0 : Nat) (0 : Nat) []))
else (Q (Out.ret (AV.tup [])) ((Blk.mk BK.exact true zeroMedM) :: ((Blk.mk BK.exact true ((AV.bool false) :: ((AV.int .i64 (0 : Int)) :: ((AV.int .i64 sq) :: ((AV.int .i64 ti) :: ((AV.int .i64 ss) :: (AV.nils :: (AV.nils :: ((AV.int .i64 (0 : Int)) :: ((AV.str []) :: ((AV.str l) :: ((AV.bool true) :: [])))))))))))) :: ((Blk.mk BK.exact false ((AV.ptr (1 : Nat) (11 : Nat) (0 : Nat)) :: [])) :: ((Blk.mk BK.exact true ((AV.bool sh) :: [])) :: [])))) (Gh.mk (0 : Nat) (0 : Nat) [])))
else (bif (p == (48862 : Int)) then (Q (Out.ret (AV.tup [])) ((Blk.mk BK.exact true zeroMedM) :: ((Blk.mk BK.exact true ((AV.bool false) :: ((AV.int .i64 (0 : Int)) :: ((AV.int .i64 sq) :: ((AV.int .i64 ti) :: ((AV.int .i64 ss) :: (AV.nils :: (AV.nils :: ((AV.int .i64 (0 : Int)) :: ((AV.str []) :: ((AV.str l) :: ((AV.bool true) :: [])))))))))))) :: ((Blk.mk BK.exact false ((AV.ptr (1 : Nat) (11 : Nat) (0 : Nat)) :: [])) :: ((Blk.mk BK.exact true ((AV.bool sh) :: [])) :: [])))) (Gh.mk (0 : Nat) (0 : Nat) []))
else (Q (Out.ret (AV.tup [])) ((Blk.mk BK.exact true zeroMedM) :: ((Blk.mk BK.exact true ((AV.bool false) :: ((AV.int .i64 (0 : Int)) :: ((AV.int .i64 sq) :: ((AV.int .i64 ti) :: ((AV.int .i64 ss) :: (AV.nils :: (AV.nils :: ((AV.int .i64 (0 : Int)) :: ((AV.str []) :: ((AV.str l) :: ((AV.bool false) :: [])))))))))))) :: ((Blk.mk BK.exact false ((AV.ptr (1 : Nat) (11 : Nat) (0 : Nat)) :: [])) :: ((Blk.mk BK.exact true ((AV.bool sh) :: [])) :: [])))) (Gh.mk (0 : Nat) (0 : Nat) []))))))))))
def vc_41a_4 (p : Int) (sq : Int) (ti : Int) (ss : Int) (l : List UInt8) (sh : Bool) (Q : Out → List Blk → Gh → Prop) : Prop := (
(bif (p == (48862 : Int)) then (vc_41a_3 p sq ti ss l sh Q)
else (bif (p == (4096 : Int)) then (vc_41a_3 p sq ti ss l sh Q)
else (Q (Out.ret (AV.tup [])) ((Blk.mk BK.exact true zeroMedM) :: ((Blk.mk BK.exact true ((AV.bool false) :: ((AV.int .i64 (0 : Int)) :: ((AV.int .i64 sq) :: ((AV.int .i64 ti) :: ((AV.int .i64 ss) :: (AV.nils :: (AV.nils :: ((AV.int .i64 (0 : Int)) :: ((AV.str []) :: ((AV.str l) :: ((AV.bool true) :: [])))))))))))) :: ((Blk.mk BK.exact false ((AV.ptr (1 : Nat) (11 : Nat) (0 : Nat)) :: [])) :: ((Blk.mk BK.exact true ((AV.bool sh) :: [])) :: [])))) (Gh.mk (0 : Nat) (0 : Nat) [])))))
def vc_41a_5 (s : List UInt8) : Prop := (
(∃ y_0 : Nat, ((Lf (y_0 = (0 : Nat))) ∧
 ((((List.length s) + (1 : Nat)) < ((List.length s) + (1 : Nat))) ∧
 vc_41a_1))))
def qaM (Q : Out → List Blk → Gh → Prop) (sq ti ss : Int) (l : List UInt8) (sh : Bool) (acc : List Xt) (bad : Bool) : Prop := (Q (Out.ret (AV.tup [])) ((Blk.mk BK.exact true zeroMedM) :: ((Blk.mk BK.exact false ((AV.bool false) :: ((AV.int .i64 (0 : Int)) :: ((AV.int .i64 sq) :: ((AV.int .i64 ti) :: ((AV.int .i64 ss) :: (AV.nils :: ((AV.sl (5 : Nat) ((2 : Nat) * (List.length acc)) (0 : Nat) (List.length acc) (2 : Nat)) :: ((AV.int .i64 (0 : Int)) :: ((AV.str []) :: ((AV.str l) :: ((AV.bool bad) :: [])))))))))))) :: ((Blk.mk BK.exact false ((AV.ptr (1 : Nat) (11 : Nat) (0 : Nat)) :: [])) :: ((Blk.mk BK.exact true ((AV.bool sh) :: [])) :: ((Blk.mk BK.exact true (cellsXM (List.take (1 : Nat) acc))) :: ((Blk.mk BK.grow true (cellsXM acc)) :: [])))))) (Gh.mk (0 : Nat) (0 : Nat) []))
def haM (sq ti ss : Int) (l : List UInt8) (sh : Bool) (acc : List Xt) : List Blk := ((Blk.mk BK.exact true zeroMedM) :: ((Blk.mk BK.exact false ((AV.bool false) :: ((AV.int .i64 (0 : Int)) :: ((AV.int .i64 sq) :: ((AV.int .i64 ti) :: ((AV.int .i64 ss) :: (AV.nils :: ((AV.sl (5 : Nat) ((2 : Nat) * (List.length acc)) (0 : Nat) (List.length acc) (2 : Nat)) :: ((AV.int .i64 (0 : Int)) :: ((AV.str []) :: ((AV.str l) :: ((AV.bool false) :: [])))))))))))) :: ((Blk.mk BK.exact false ((AV.ptr (1 : Nat) (11 : Nat) (0 : Nat)) :: [])) :: ((Blk.mk BK.exact true ((AV.bool sh) :: [])) :: ((Blk.mk BK.exact true (cellsXM (List.take (1 : Nat) acc))) :: ((Blk.mk BK.grow true (cellsXM acc)) :: []))))))
theorem vc_41a (p : Int) (s : List UInt8) (sq : Int) (ti : Int) (ss : Int) (l : List UInt8) (sh : Bool) (Q : Out → List Blk → Gh → Prop) : goal_41a (lookV [(167948, .int .i64), (167951, .int .u8), (167952, .int .i64), (167966, .int .i64), (167971, .str), (167980, .int .i64), (167982, .int .i64), (167983, .int .i64), (167997, .int .i64), (167999, .int .i64), (168033, .int .i64), (168034, .str), (168044, .int .i64), (168045, .str), (167986, .int .i64), (167954, .int .u8), (167955, .int .i64), (168068, .int .i64), (168016, .int .i64)]) (lookB []) p s sq ti ss l sh Q = (
(((∃ x_0 : Nat, ((Lf (x_0 = (0 : Nat))) ∧
 ((((AV.bool false) :: ((AV.int .i64 (0 : Int)) :: ((AV.int .i64 (0 : Int)) :: ((AV.int .i64 (0 : Int)) :: ((AV.int .i64 (0 : Int)) :: (AV.nils :: (AV.nils :: ((AV.int .i64 (0 : Int)) :: ((AV.str []) :: []))))))))) = ((AV.bool false) :: ((AV.int .i64 (0 : Int)) :: ((AV.int .i64 (0 : Int)) :: ((AV.int .i64 (0 : Int)) :: ((AV.int .i64 (0 : Int)) :: (AV.nils :: (AV.nils :: ((AV.int .i64 (0 : Int)) :: ((AV.str []) :: [])))))))))) ∧
 ((((AV.bool false) :: ((AV.int .i64 (0 : Int)) :: ((AV.int .i64 sq) :: ((AV.int .i64 ti) :: ((AV.int .i64 ss) :: (AV.nils :: (AV.nils :: ((AV.int .i64 (0 : Int)) :: ((AV.str []) :: ((AV.str l) :: ((AV.bool false) :: []))))))))))) = ((AV.bool false) :: ((AV.int .i64 (0 : Int)) :: ((AV.int .i64 sq) :: ((AV.int .i64 ti) :: ((AV.int .i64 ss) :: (AV.nils :: (AV.nils :: ((AV.int .i64 (0 : Int)) :: ((AV.str []) :: ((AV.str l) :: ((AV.bool false) :: [])))))))))))) ∧
 ((((AV.ptr (1 : Nat) (11 : Nat) (0 : Nat)) :: []) = ((AV.ptr (1 : Nat) (11 : Nat) (0 : Nat)) :: [])) ∧
 ((((AV.bool sh) :: []) = ((AV.bool sh) :: [])) ∧
 (((AV.ptr (1 : Nat) (11 : Nat) (0 : Nat)) = (AV.ptr (1 : Nat) (11 : Nat) (0 : Nat))) ∧
 (((AV.str s) = (AV.str s)) ∧
 (((AV.int .i64 p) = (AV.int .i64 p)) ∧
 (((AV.int .i64 (0 : Int)) = (AV.int .i64 (0 : Int))) ∧
 True)))))))))) ∨
 (∃ x_0 : (Prod (List Xt) (Prod Int (List UInt8))), ((Lf ((goM p s (Prod.fst x_0) (Prod.fst (Prod.snd x_0)) (Prod.snd (Prod.snd x_0))) ∧
 (((1 : Nat) ≤ (List.length (Prod.fst x_0))) ∧
 ((List.length (Prod.fst x_0)) ≤ (16 : Nat))))) ∧
 vc_41a_1))) ∧
 ((∀ x_0 : Nat, ((Lf (x_0 = (0 : Nat))) →
(roundD p s (0 : Int) (0 : Int) true true (vc_41a_2 p sq ti ss l sh Q) (vc_41a_4 p sq ti ss l sh Q) (fun (id_ : Int) (dt_ rs_ : List UInt8) => ((True ∧
 ((0 : Nat) = (0 : Nat))) ∧
 ((vc_41a_5 s) ∨
 (∃ y_14 : (Prod (List Xt) (Prod Int (List UInt8))), ((Lf ((goM p s (Prod.fst y_14) (Prod.fst (Prod.snd y_14)) (Prod.snd (Prod.snd y_14))) ∧
 (((1 : Nat) ≤ (List.length (Prod.fst y_14))) ∧
 ((List.length (Prod.fst y_14)) ≤ (16 : Nat))))) ∧
 (((List.length (Prod.snd (Prod.snd y_14))) < ((List.length s) + (1 : Nat))) ∧
 ((((AV.bool false) :: ((AV.int .i64 (0 : Int)) :: ((AV.int .i64 (0 : Int)) :: ((AV.int .i64 (0 : Int)) :: ((AV.int .i64 (0 : Int)) :: (AV.nils :: (AV.nils :: ((AV.int .i64 (0 : Int)) :: ((AV.str []) :: []))))))))) = ((AV.bool false) :: ((AV.int .i64 (0 : Int)) :: ((AV.int .i64 (0 : Int)) :: ((AV.int .i64 (0 : Int)) :: ((AV.int .i64 (0 : Int)) :: (AV.nils :: (AV.nils :: ((AV.int .i64 (0 : Int)) :: ((AV.str []) :: [])))))))))) ∧
 ((((AV.bool false) :: ((AV.int .i64 (0 : Int)) :: ((AV.int .i64 sq) :: ((AV.int .i64 ti) :: ((AV.int .i64 ss) :: (AV.nils :: ((AV.sl (5 : Nat) (2 : Nat) (0 : Nat) (1 : Nat) (2 : Nat)) :: ((AV.int .i64 (0 : Int)) :: ((AV.str []) :: ((AV.str l) :: ((AV.bool false) :: []))))))))))) = ((AV.bool false) :: ((AV.int .i64 (0 : Int)) :: ((AV.int .i64 sq) :: ((AV.int .i64 ti) :: ((AV.int .i64 ss) :: (AV.nils :: ((AV.sl (5 : Nat) ((2 : Nat) * (List.length (Prod.fst y_14))) (0 : Nat) (List.length (Prod.fst y_14)) (2 : Nat)) :: ((AV.int .i64 (0 : Int)) :: ((AV.str []) :: ((AV.str l) :: ((AV.bool false) :: [])))))))))))) ∧
 ((((AV.ptr (1 : Nat) (11 : Nat) (0 : Nat)) :: []) = ((AV.ptr (1 : Nat) (11 : Nat) (0 : Nat)) :: [])) ∧
 ((((AV.bool sh) :: []) = ((AV.bool sh) :: [])) ∧
 ((((AV.int .i64 id_) :: ((AV.str dt_) :: [])) = (cellsXM (List.take (1 : Nat) (Prod.fst y_14)))) ∧
 ((((AV.int .i64 id_) :: ((AV.str dt_) :: [])) = (cellsXM (Prod.fst y_14))) ∧
 (((AV.ptr (1 : Nat) (11 : Nat) (0 : Nat)) = (AV.ptr (1 : Nat) (11 : Nat) (0 : Nat))) ∧
 (((AV.str rs_) = (AV.str (Prod.snd (Prod.snd y_14)))) ∧
 (((AV.int .i64 p) = (AV.int .i64 p)) ∧
 (((AV.int .i64 id_) = (AV.int .i64 (Prod.fst (Prod.snd y_14)))) ∧
 True))))))))))))))))))) ∧
 (∀ x_0 : (Prod (List Xt) (Prod Int (List UInt8))), ((Lf ((goM p s (Prod.fst x_0) (Prod.fst (Prod.snd x_0)) (Prod.snd (Prod.snd x_0))) ∧
 (((1 : Nat) ≤ (List.length (Prod.fst x_0))) ∧
 ((List.length (Prod.fst x_0)) ≤ (16 : Nat))))) →
(roundD p (Prod.snd (Prod.snd x_0)) (Prod.fst (Prod.snd x_0)) (Nat.cast (List.length (Prod.fst x_0)) : Int) (Nat.beq (List.length (cellsXM (Prod.fst x_0))) ((2 : Nat) * (List.length (Prod.fst x_0)))) (((((Nat.beq (List.length (cellsXM (Prod.fst x_0))) ((2 : Nat) * (List.length (Prod.fst x_0)))) && true) && (Nat.beq ((0 : Nat) + ((List.length (Prod.fst x_0)) * (2 : Nat))) ((2 : Nat) * (List.length (Prod.fst x_0))))) && (Nat.ble ((List.length (Prod.fst x_0)) + (1 : Nat)) (1099511627776 : Nat))) && (Nat.ble (((List.length (Prod.fst x_0)) + (1 : Nat)) * (24 : Nat)) (1099511627776 : Nat))) (bif (p == (48862 : Int)) then (qaM Q sq ti ss l sh (Prod.fst x_0) true)
else (bif (p == (4096 : Int)) then (qaM Q sq ti ss l sh (Prod.fst x_0) true)
else (qaM Q sq ti ss l sh (Prod.fst x_0) true))) (bif (p == (48862 : Int)) then (bif (Nat.beq (List.length (cellsXM (Prod.fst x_0))) ((2 : Nat) * (List.length (Prod.fst x_0)))) then (∃ n_6 : Int, (((AV.int .i64 (Nat.cast (List.length (Prod.fst x_0)) : Int)) = (AV.int .i64 n_6)) ∧
 (bif (n_6 == (0 : Int)) then (qaM Q sq ti ss l sh (Prod.fst x_0) true)
else (bif (((Nat.beq (List.length (cellsXM (Prod.fst x_0))) ((2 : Nat) * (List.length (Prod.fst x_0)))) && (Nat.ble ((0 : Nat) + ((List.length (Prod.fst x_0)) * (2 : Nat))) ((2 : Nat) * (List.length (Prod.fst x_0))))) && true) then (∃ ex_7 : (List Xt), ((Lf (((List.map (fun x_8 : AV => (frzV (1 : Nat) (haM sq ti ss l sh (Prod.fst x_0)) (8 : Nat) x_8)) (List.take ((List.length (Prod.fst x_0)) * (2 : Nat)) (List.drop (0 : Nat) (cellsXM (Prod.fst x_0))))) = (cellsXM ex_7)) ∧
 (((List.length (Prod.fst x_0)) = (List.length ex_7)) ∧
 (((List.length ex_7) ≤ (1000000 : Nat)) ∧
 (dataM ex_7))))) ∧
 (bif (shortM ex_7) then (bif (p == (48862 : Int)) then (qaM Q sq ti ss l sh (Prod.fst x_0) false)
else (qaM Q sq ti ss l sh (Prod.fst x_0) true))
else (bif (p == (48862 : Int)) then (qaM Q sq ti ss l sh (Prod.fst x_0) true)
else (qaM Q sq ti ss l sh (Prod.fst x_0) false)))))
else False))))
else False)
else (bif (p == (4096 : Int)) then (bif (Nat.beq (List.length (cellsXM (Prod.fst x_0))) ((2 : Nat) * (List.length (Prod.fst x_0)))) then (∃ n_6 : Int, (((AV.int .i64 (Nat.cast (List.length (Prod.fst x_0)) : Int)) = (AV.int .i64 n_6)) ∧
 (bif (n_6 == (0 : Int)) then (qaM Q sq ti ss l sh (Prod.fst x_0) true)
else (bif (((Nat.beq (List.length (cellsXM (Prod.fst x_0))) ((2 : Nat) * (List.length (Prod.fst x_0)))) && (Nat.ble ((0 : Nat) + ((List.length (Prod.fst x_0)) * (2 : Nat))) ((2 : Nat) * (List.length (Prod.fst x_0))))) && true) then (∃ ex_7 : (List Xt), ((Lf (((List.map (fun x_8 : AV => (frzV (1 : Nat) (haM sq ti ss l sh (Prod.fst x_0)) (8 : Nat) x_8)) (List.take ((List.length (Prod.fst x_0)) * (2 : Nat)) (List.drop (0 : Nat) (cellsXM (Prod.fst x_0))))) = (cellsXM ex_7)) ∧
 (((List.length (Prod.fst x_0)) = (List.length ex_7)) ∧
 (((List.length ex_7) ≤ (1000000 : Nat)) ∧
 (dataM ex_7))))) ∧
 (bif (shortM ex_7) then (bif (p == (48862 : Int)) then (qaM Q sq ti ss l sh (Prod.fst x_0) false)
else (qaM Q sq ti ss l sh (Prod.fst x_0) true))
else (bif (p == (48862 : Int)) then (qaM Q sq ti ss l sh (Prod.fst x_0) true)
else (qaM Q sq ti ss l sh (Prod.fst x_0) false)))))
else False))))
else False)
else (qaM Q sq ti ss l sh (Prod.fst x_0) true))) (fun (id_ : Int) (dt_ rs_ : List UInt8) => ((True ∧
 ((0 : Nat) = (0 : Nat))) ∧
 ((∃ y_14 : Nat, ((Lf (y_14 = (0 : Nat))) ∧
 ((((List.length s) + (1 : Nat)) < (List.length (Prod.snd (Prod.snd x_0)))) ∧
 vc_41a_1))) ∨
 (∃ y_14 : (Prod (List Xt) (Prod Int (List UInt8))), ((Lf ((goM p s (Prod.fst y_14) (Prod.fst (Prod.snd y_14)) (Prod.snd (Prod.snd y_14))) ∧
 (((1 : Nat) ≤ (List.length (Prod.fst y_14))) ∧
 ((List.length (Prod.fst y_14)) ≤ (16 : Nat))))) ∧
 (((List.length (Prod.snd (Prod.snd y_14))) < (List.length (Prod.snd (Prod.snd x_0)))) ∧
 ((((AV.bool false) :: ((AV.int .i64 (0 : Int)) :: ((AV.int .i64 (0 : Int)) :: ((AV.int .i64 (0 : Int)) :: ((AV.int .i64 (0 : Int)) :: (AV.nils :: (AV.nils :: ((AV.int .i64 (0 : Int)) :: ((AV.str []) :: []))))))))) = ((AV.bool false) :: ((AV.int .i64 (0 : Int)) :: ((AV.int .i64 (0 : Int)) :: ((AV.int .i64 (0 : Int)) :: ((AV.int .i64 (0 : Int)) :: (AV.nils :: (AV.nils :: ((AV.int .i64 (0 : Int)) :: ((AV.str []) :: [])))))))))) ∧
 ((((AV.bool false) :: ((AV.int .i64 (0 : Int)) :: ((AV.int .i64 sq) :: ((AV.int .i64 ti) :: ((AV.int .i64 ss) :: (AV.nils :: ((AV.sl (5 : Nat) (((2 : Nat) * (List.length (Prod.fst x_0))) + (2 : Nat)) (0 : Nat) ((List.length (Prod.fst x_0)) + (1 : Nat)) (2 : Nat)) :: ((AV.int .i64 (0 : Int)) :: ((AV.str []) :: ((AV.str l) :: ((AV.bool false) :: []))))))))))) = ((AV.bool false) :: ((AV.int .i64 (0 : Int)) :: ((AV.int .i64 sq) :: ((AV.int .i64 ti) :: ((AV.int .i64 ss) :: (AV.nils :: ((AV.sl (5 : Nat) ((2 : Nat) * (List.length (Prod.fst y_14))) (0 : Nat) (List.length (Prod.fst y_14)) (2 : Nat)) :: ((AV.int .i64 (0 : Int)) :: ((AV.str []) :: ((AV.str l) :: ((AV.bool false) :: [])))))))))))) ∧
 ((((AV.ptr (1 : Nat) (11 : Nat) (0 : Nat)) :: []) = ((AV.ptr (1 : Nat) (11 : Nat) (0 : Nat)) :: [])) ∧
 ((((AV.bool sh) :: []) = ((AV.bool sh) :: [])) ∧
 (((cellsXM (List.take (1 : Nat) (Prod.fst x_0))) = (cellsXM (List.take (1 : Nat) (Prod.fst y_14)))) ∧
 ((((cellsXM (Prod.fst x_0)) ++ ((AV.int .i64 id_) :: ((AV.str dt_) :: []))) = (cellsXM (Prod.fst y_14))) ∧
 (((AV.ptr (1 : Nat) (11 : Nat) (0 : Nat)) = (AV.ptr (1 : Nat) (11 : Nat) (0 : Nat))) ∧
 (((AV.str rs_) = (AV.str (Prod.snd (Prod.snd y_14)))) ∧
 (((AV.int .i64 p) = (AV.int .i64 p)) ∧
 (((AV.int .i64 id_) = (AV.int .i64 (Prod.fst (Prod.snd y_14)))) ∧
 True)))))))))))))))))))))) := by kernel_rfl

noncomputable def goal_41b (hv : Nat → Option Pa) (hb : Nat → Option Bool) (p : Int) (s : List UInt8) (sq ti ss : Int) (n : Nat) (l : List UInt8) (sh : Bool) (c4 c5 : List AV) (Q : Out → List Blk → Gh → Prop) : Prop :=
  callx (env_41 hv hb p s) (wpx (env_41 hv hb p s) 1000) 41 [.ptr 1 11 0, .str s, .int .i64 p] (heapM sq ti ss (.sl 5 n 0 n 1) false l sh [⟨.exact, true, c4⟩, ⟨.grow, true, c5⟩]) {} Q
def vc_41b_1 (p : Int) (sq : Int) (ti : Int) (ss : Int) (n : Nat) (l : List UInt8) (sh : Bool) (c4 : List AV) (c5 : List AV) (Q : Out → List Blk → Gh → Prop) : Prop := (
(bif (p == (48862 : Int)) then (Q (Out.ret (AV.tup [])) ((Blk.mk BK.exact true zeroMedM) :: ((Blk.mk BK.exact false ((AV.bool false) :: ((AV.int .i64 (0 : Int)) :: ((AV.int .i64 sq) :: ((AV.int .i64 ti) :: ((AV.int .i64 ss) :: ((AV.sl (5 : Nat) n (0 : Nat) n (1 : Nat)) :: (AV.nils :: ((AV.int .i64 (0 : Int)) :: ((AV.str []) :: ((AV.str l) :: ((AV.bool true) :: [])))))))))))) :: ((Blk.mk BK.exact false ((AV.ptr (1 : Nat) (11 : Nat) (0 : Nat)) :: [])) :: ((Blk.mk BK.exact true ((AV.bool sh) :: [])) :: ((Blk.mk BK.exact true c4) :: ((Blk.mk BK.grow true c5) :: [])))))) (Gh.mk (0 : Nat) (0 : Nat) []))
else (bif (p == (4096 : Int)) then (Q (Out.ret (AV.tup [])) ((Blk.mk BK.exact true zeroMedM) :: ((Blk.mk BK.exact false ((AV.bool false) :: ((AV.int .i64 (0 : Int)) :: ((AV.int .i64 sq) :: ((AV.int .i64 ti) :: ((AV.int .i64 ss) :: ((AV.sl (5 : Nat) n (0 : Nat) n (1 : Nat)) :: (AV.nils :: ((AV.int .i64 (0 : Int)) :: ((AV.str []) :: ((AV.str l) :: ((AV.bool true) :: [])))))))))))) :: ((Blk.mk BK.exact false ((AV.ptr (1 : Nat) (11 : Nat) (0 : Nat)) :: [])) :: ((Blk.mk BK.exact true ((AV.bool sh) :: [])) :: ((Blk.mk BK.exact true c4) :: ((Blk.mk BK.grow true c5) :: [])))))) (Gh.mk (0 : Nat) (0 : Nat) []))
else (Q (Out.ret (AV.tup [])) ((Blk.mk BK.exact true zeroMedM) :: ((Blk.mk BK.exact false ((AV.bool false) :: ((AV.int .i64 (0 : Int)) :: ((AV.int .i64 sq) :: ((AV.int .i64 ti) :: ((AV.int .i64 ss) :: ((AV.sl (5 : Nat) n (0 : Nat) n (1 : Nat)) :: (AV.nils :: ((AV.int .i64 (0 : Int)) :: ((AV.str []) :: ((AV.str l) :: ((AV.bool true) :: [])))))))))))) :: ((Blk.mk BK.exact false ((AV.ptr (1 : Nat) (11 : Nat) (0 : Nat)) :: [])) :: ((Blk.mk BK.exact true ((AV.bool sh) :: [])) :: ((Blk.mk BK.exact true c4) :: ((Blk.mk BK.grow true c5) :: [])))))) (Gh.mk (0 : Nat) (0 : Nat) [])))))
def vc_41b_2 (p : Int) (sq : Int) (ti : Int) (ss : Int) (n : Nat) (l : List UInt8) (sh : Bool) (c4 : List AV) (c5 : List AV) (Q : Out → List Blk → Gh → Prop) : Prop := (
(∃ n_0 : Int, (((AV.int .i64 (0 : Int)) = (AV.int .i64 n_0)) ∧
 (bif (n_0 == (0 : Int)) then (Q (Out.ret (AV.tup [])) ((Blk.mk BK.exact true zeroMedM) :: ((Blk.mk BK.exact false ((AV.bool false) :: ((AV.int .i64 (0 : Int)) :: ((AV.int .i64 sq) :: ((AV.int .i64 ti) :: ((AV.int .i64 ss) :: ((AV.sl (5 : Nat) n (0 : Nat) n (1 : Nat)) :: (AV.nils :: ((AV.int .i64 (0 : Int)) :: ((AV.str []) :: ((AV.str l) :: ((AV.bool true) :: [])))))))))))) :: ((Blk.mk BK.exact false ((AV.ptr (1 : Nat) (11 : Nat) (0 : Nat)) :: [])) :: ((Blk.mk BK.exact true ((AV.bool sh) :: [])) :: ((Blk.mk BK.exact true c4) :: ((Blk.mk BK.grow true c5) :: [])))))) (Gh.mk (0 : Nat) (0 : Nat) []))
else (∃ ex_1 : (List Xt), ((Lf ((([] : (List AV)) = (cellsXM ex_1)) ∧
 (((0 : Nat) = (List.length ex_1)) ∧
 (((List.length ex_1) ≤ (1000000 : Nat)) ∧
 (dataM ex_1))))) ∧
 (bif (shortM ex_1) then (bif (p == (48862 : Int)) then (Q (Out.ret (AV.tup [])) ((Blk.mk BK.exact true zeroMedM) :: ((Blk.mk BK.exact false ((AV.bool false) :: ((AV.int .i64 (0 : Int)) :: ((AV.int .i64 sq) :: ((AV.int .i64 ti) :: ((AV.int .i64 ss) :: ((AV.sl (5 : Nat) n (0 : Nat) n (1 : Nat)) :: (AV.nils :: ((AV.int .i64 (0 : Int)) :: ((AV.str []) :: ((AV.str l) :: ((AV.bool false) :: [])))))))))))) :: ((Blk.mk BK.exact false ((AV.ptr (1 : Nat) (11 : Nat) (0 : Nat)) :: [])) :: ((Blk.mk BK.exact true ((AV.bool sh) :: [])) :: ((Blk.mk BK.exact true c4) :: ((Blk.mk BK.grow true c5) :: [])))))) (Gh.mk (0 : Nat) (0 : Nat) []))
else (Q (Out.ret (AV.tup [])) ((Blk.mk BK.exact true zeroMedM) :: ((Blk.mk BK.exact false ((AV.bool false) :: ((AV.int .i64 (0 : Int)) :: ((AV.int .i64 sq) :: ((AV.int .i64 ti) :: ((AV.int .i64 ss) :: ((AV.sl (5 : Nat) n (0 : Nat) n (1 : Nat)) :: (AV.nils :: ((AV.int .i64 (0 : Int)) :: ((AV.str []) :: ((AV.str l) :: ((AV.bool true) :: [])))))))))))) :: ((Blk.mk BK.exact false ((AV.ptr (1 : Nat) (11 : Nat) (0 : Nat)) :: [])) :: ((Blk.mk BK.exact true ((AV.bool sh) :: [])) :: ((Blk.mk BK.exact true c4) :: ((Blk.mk BK.grow true c5) :: [])))))) (Gh.mk (0 : Nat) (0 : Nat) [])))
else (bif (p == (48862 : Int)) then (Q (Out.ret (AV.tup [])) ((Blk.mk BK.exact true zeroMedM) :: ((Blk.mk BK.exact false ((AV.bool false) :: ((AV.int .i64 (0 : Int)) :: ((AV.int .i64 sq) :: ((AV.int .i64 ti) :: ((AV.int .i64 ss) :: ((AV.sl (5 : Nat) n (0 : Nat) n (1 : Nat)) :: (AV.nils :: ((AV.int .i64 (0 : Int)) :: ((AV.str []) :: ((AV.str l) :: ((AV.bool true) :: [])))))))))))) :: ((Blk.mk BK.exact false ((AV.ptr (1 : Nat) (11 : Nat) (0 : Nat)) :: [])) :: ((Blk.mk BK.exact true ((AV.bool sh) :: [])) :: ((Blk.mk BK.exact true c4) :: ((Blk.mk BK.grow true c5) :: [])))))) (Gh.mk (0 : Nat) (0 : Nat) []))
else (Q (Out.ret (AV.tup [])) ((Blk.mk BK.exact true zeroMedM) :: ((Blk.mk BK.exact false ((AV.bool false) :: ((AV.int .i64 (0 : Int)) :: ((AV.int .i64 sq) :: ((AV.int .i64 ti) :: ((AV.int .i64 ss) :: ((AV.sl (5 : Nat) n (0 : Nat) n (1 : Nat)) :: (AV.nils :: ((AV.int .i64 (0 : Int)) :: ((AV.str []) :: ((AV.str l) :: ((AV.bool false) :: [])))))))))))) :: ((Blk.mk BK.exact false ((AV.ptr (1 : Nat) (11 : Nat) (0 : Nat)) :: [])) :: ((Blk.mk BK.exact true ((AV.bool sh) :: [])) :: ((Blk.mk BK.exact true c4) :: ((Blk.mk BK.grow true c5) :: [])))))) (Gh.mk (0 : Nat) (0 : Nat) []))))))))))
def vc_41b_3 (p : Int) (sq : Int) (ti : Int) (ss : Int) (n : Nat) (l : List UInt8) (sh : Bool) (c4 : List AV) (c5 : List AV) (Q : Out → List Blk → Gh → Prop) : Prop := (
(bif (p == (48862 : Int)) then (vc_41b_2 p sq ti ss n l sh c4 c5 Q)
else (bif (p == (4096 : Int)) then (vc_41b_2 p sq ti ss n l sh c4 c5 Q)
else (Q (Out.ret (AV.tup [])) ((Blk.mk BK.exact true zeroMedM) :: ((Blk.mk BK.exact false ((AV.bool false) :: ((AV.int .i64 (0 : Int)) :: ((AV.int .i64 sq) :: ((AV.int .i64 ti) :: ((AV.int .i64 ss) :: ((AV.sl (5 : Nat) n (0 : Nat) n (1 : Nat)) :: (AV.nils :: ((AV.int .i64 (0 : Int)) :: ((AV.str []) :: ((AV.str l) :: ((AV.bool true) :: [])))))))))))) :: ((Blk.mk BK.exact false ((AV.ptr (1 : Nat) (11 : Nat) (0 : Nat)) :: [])) :: ((Blk.mk BK.exact true ((AV.bool sh) :: [])) :: ((Blk.mk BK.exact true c4) :: ((Blk.mk BK.grow true c5) :: [])))))) (Gh.mk (0 : Nat) (0 : Nat) [])))))
def vc_41b_4 (s : List UInt8) (sq : Int) (ti : Int) (ss : Int) (n : Nat) (l : List UInt8) (sh : Bool) (c4 : List AV) (c5 : List AV) : Prop := (
(∃ y_0 : Nat, ((Lf (y_0 = (0 : Nat))) ∧
 ((((List.length s) + (1 : Nat)) < ((List.length s) + (1 : Nat))) ∧
 ((((AV.bool false) :: ((AV.int .i64 (0 : Int)) :: ((AV.int .i64 (0 : Int)) :: ((AV.int .i64 (0 : Int)) :: ((AV.int .i64 (0 : Int)) :: (AV.nils :: (AV.nils :: ((AV.int .i64 (0 : Int)) :: ((AV.str []) :: []))))))))) = ((AV.bool false) :: ((AV.int .i64 (0 : Int)) :: ((AV.int .i64 (0 : Int)) :: ((AV.int .i64 (0 : Int)) :: ((AV.int .i64 (0 : Int)) :: (AV.nils :: (AV.nils :: ((AV.int .i64 (0 : Int)) :: ((AV.str []) :: [])))))))))) ∧
 ((((AV.bool false) :: ((AV.int .i64 (0 : Int)) :: ((AV.int .i64 sq) :: ((AV.int .i64 ti) :: ((AV.int .i64 ss) :: ((AV.sl (5 : Nat) n (0 : Nat) n (1 : Nat)) :: ((AV.sl (7 : Nat) (2 : Nat) (0 : Nat) (1 : Nat) (2 : Nat)) :: ((AV.int .i64 (0 : Int)) :: ((AV.str []) :: ((AV.str l) :: ((AV.bool false) :: []))))))))))) = ((AV.bool false) :: ((AV.int .i64 (0 : Int)) :: ((AV.int .i64 sq) :: ((AV.int .i64 ti) :: ((AV.int .i64 ss) :: ((AV.sl (5 : Nat) n (0 : Nat) n (1 : Nat)) :: (AV.nils :: ((AV.int .i64 (0 : Int)) :: ((AV.str []) :: ((AV.str l) :: ((AV.bool false) :: [])))))))))))) ∧
 ((((AV.ptr (1 : Nat) (11 : Nat) (0 : Nat)) :: []) = ((AV.ptr (1 : Nat) (11 : Nat) (0 : Nat)) :: [])) ∧
 ((((AV.bool sh) :: []) = ((AV.bool sh) :: [])) ∧
 ((c4 = c4) ∧
 ((c5 = c5) ∧
 False))))))))))
def qbM (Q : Out → List Blk → Gh → Prop) (sq ti ss : Int) (n : Nat) (l : List UInt8) (sh : Bool) (c4 c5 : List AV) (acc : List Xt) (bad : Bool) : Prop := (Q (Out.ret (AV.tup [])) ((Blk.mk BK.exact true zeroMedM) :: ((Blk.mk BK.exact false ((AV.bool false) :: ((AV.int .i64 (0 : Int)) :: ((AV.int .i64 sq) :: ((AV.int .i64 ti) :: ((AV.int .i64 ss) :: ((AV.sl (5 : Nat) n (0 : Nat) n (1 : Nat)) :: ((AV.sl (7 : Nat) ((2 : Nat) * (List.length acc)) (0 : Nat) (List.length acc) (2 : Nat)) :: ((AV.int .i64 (0 : Int)) :: ((AV.str []) :: ((AV.str l) :: ((AV.bool bad) :: [])))))))))))) :: ((Blk.mk BK.exact false ((AV.ptr (1 : Nat) (11 : Nat) (0 : Nat)) :: [])) :: ((Blk.mk BK.exact true ((AV.bool sh) :: [])) :: ((Blk.mk BK.exact true c4) :: ((Blk.mk BK.grow true c5) :: ((Blk.mk BK.exact true (cellsXM (List.take (1 : Nat) acc))) :: ((Blk.mk BK.grow true (cellsXM acc)) :: [])))))))) (Gh.mk (0 : Nat) (0 : Nat) []))
def hbM (sq ti ss : Int) (n : Nat) (l : List UInt8) (sh : Bool) (c4 c5 : List AV) (acc : List Xt) : List Blk := ((Blk.mk BK.exact true zeroMedM) :: ((Blk.mk BK.exact false ((AV.bool false) :: ((AV.int .i64 (0 : Int)) :: ((AV.int .i64 sq) :: ((AV.int .i64 ti) :: ((AV.int .i64 ss) :: ((AV.sl (5 : Nat) n (0 : Nat) n (1 : Nat)) :: ((AV.sl (7 : Nat) ((2 : Nat) * (List.length acc)) (0 : Nat) (List.length acc) (2 : Nat)) :: ((AV.int .i64 (0 : Int)) :: ((AV.str []) :: ((AV.str l) :: ((AV.bool false) :: [])))))))))))) :: ((Blk.mk BK.exact false ((AV.ptr (1 : Nat) (11 : Nat) (0 : Nat)) :: [])) :: ((Blk.mk BK.exact true ((AV.bool sh) :: [])) :: ((Blk.mk BK.exact true c4) :: ((Blk.mk BK.grow true c5) :: ((Blk.mk BK.exact true (cellsXM (List.take (1 : Nat) acc))) :: ((Blk.mk BK.grow true (cellsXM acc)) :: []))))))))
theorem vc_41b (p : Int) (s : List UInt8) (sq : Int) (ti : Int) (ss : Int) (n : Nat) (l : List UInt8) (sh : Bool) (c4 : List AV) (c5 : List AV) (Q : Out → List Blk → Gh → Prop) : goal_41b (lookV [(167948, .int .i64), (167951, .int .u8), (167952, .int .i64), (167966, .int .i64), (167971, .str), (167980, .int .i64), (167982, .int .i64), (167983, .int .i64), (167997, .int .i64), (167999, .int .i64), (168033, .int .i64), (168034, .str), (168044, .int .i64), (168045, .str), (167986, .int .i64), (167954, .int .u8), (167955, .int .i64), (168068, .int .i64), (168016, .int .i64)]) (lookB []) p s sq ti ss n l sh c4 c5 Q = (
(((∃ x_0 : Nat, ((Lf (x_0 = (0 : Nat))) ∧
 ((((AV.bool false) :: ((AV.int .i64 (0 : Int)) :: ((AV.int .i64 (0 : Int)) :: ((AV.int .i64 (0 : Int)) :: ((AV.int .i64 (0 : Int)) :: (AV.nils :: (AV.nils :: ((AV.int .i64 (0 : Int)) :: ((AV.str []) :: []))))))))) = ((AV.bool false) :: ((AV.int .i64 (0 : Int)) :: ((AV.int .i64 (0 : Int)) :: ((AV.int .i64 (0 : Int)) :: ((AV.int .i64 (0 : Int)) :: (AV.nils :: (AV.nils :: ((AV.int .i64 (0 : Int)) :: ((AV.str []) :: [])))))))))) ∧
 ((((AV.bool false) :: ((AV.int .i64 (0 : Int)) :: ((AV.int .i64 sq) :: ((AV.int .i64 ti) :: ((AV.int .i64 ss) :: ((AV.sl (5 : Nat) n (0 : Nat) n (1 : Nat)) :: (AV.nils :: ((AV.int .i64 (0 : Int)) :: ((AV.str []) :: ((AV.str l) :: ((AV.bool false) :: []))))))))))) = ((AV.bool false) :: ((AV.int .i64 (0 : Int)) :: ((AV.int .i64 sq) :: ((AV.int .i64 ti) :: ((AV.int .i64 ss) :: ((AV.sl (5 : Nat) n (0 : Nat) n (1 : Nat)) :: (AV.nils :: ((AV.int .i64 (0 : Int)) :: ((AV.str []) :: ((AV.str l) :: ((AV.bool false) :: [])))))))))))) ∧
 ((((AV.ptr (1 : Nat) (11 : Nat) (0 : Nat)) :: []) = ((AV.ptr (1 : Nat) (11 : Nat) (0 : Nat)) :: [])) ∧
 ((((AV.bool sh) :: []) = ((AV.bool sh) :: [])) ∧
 ((c4 = c4) ∧
 ((c5 = c5) ∧
 (((AV.ptr (1 : Nat) (11 : Nat) (0 : Nat)) = (AV.ptr (1 : Nat) (11 : Nat) (0 : Nat))) ∧
 (((AV.str s) = (AV.str s)) ∧
 (((AV.int .i64 p) = (AV.int .i64 p)) ∧
 (((AV.int .i64 (0 : Int)) = (AV.int .i64 (0 : Int))) ∧
 True)))))))))))) ∨
 (∃ x_0 : (Prod (List Xt) (Prod Int (List UInt8))), ((Lf ((goM p s (Prod.fst x_0) (Prod.fst (Prod.snd x_0)) (Prod.snd (Prod.snd x_0))) ∧
 (((1 : Nat) ≤ (List.length (Prod.fst x_0))) ∧
 ((List.length (Prod.fst x_0)) ≤ (16 : Nat))))) ∧
 ((((AV.bool false) :: ((AV.int .i64 (0 : Int)) :: ((AV.int .i64 (0 : Int)) :: ((AV.int .i64 (0 : Int)) :: ((AV.int .i64 (0 : Int)) :: (AV.nils :: (AV.nils :: ((AV.int .i64 (0 : Int)) :: ((AV.str []) :: []))))))))) = ((AV.bool false) :: ((AV.int .i64 (0 : Int)) :: ((AV.int .i64 (0 : Int)) :: ((AV.int .i64 (0 : Int)) :: ((AV.int .i64 (0 : Int)) :: (AV.nils :: (AV.nils :: ((AV.int .i64 (0 : Int)) :: ((AV.str []) :: [])))))))))) ∧
 ((((AV.bool false) :: ((AV.int .i64 (0 : Int)) :: ((AV.int .i64 sq) :: ((AV.int .i64 ti) :: ((AV.int .i64 ss) :: ((AV.sl (5 : Nat) n (0 : Nat) n (1 : Nat)) :: (AV.nils :: ((AV.int .i64 (0 : Int)) :: ((AV.str []) :: ((AV.str l) :: ((AV.bool false) :: []))))))))))) = ((AV.bool false) :: ((AV.int .i64 (0 : Int)) :: ((AV.int .i64 sq) :: ((AV.int .i64 ti) :: ((AV.int .i64 ss) :: ((AV.sl (5 : Nat) n (0 : Nat) n (1 : Nat)) :: ((AV.sl (7 : Nat) ((2 : Nat) * (List.length (Prod.fst x_0))) (0 : Nat) (List.length (Prod.fst x_0)) (2 : Nat)) :: ((AV.int .i64 (0 : Int)) :: ((AV.str []) :: ((AV.str l) :: ((AV.bool false) :: [])))))))))))) ∧
 ((((AV.ptr (1 : Nat) (11 : Nat) (0 : Nat)) :: []) = ((AV.ptr (1 : Nat) (11 : Nat) (0 : Nat)) :: [])) ∧
 ((((AV.bool sh) :: []) = ((AV.bool sh) :: [])) ∧
 ((c4 = c4) ∧
 ((c5 = c5) ∧
 False))))))))) ∧
 ((∀ x_0 : Nat, ((Lf (x_0 = (0 : Nat))) →
(roundD p s (0 : Int) (0 : Int) true true (vc_41b_1 p sq ti ss n l sh c4 c5 Q) (vc_41b_3 p sq ti ss n l sh c4 c5 Q) (fun (id_ : Int) (dt_ rs_ : List UInt8) => ((True ∧
 ((0 : Nat) = (0 : Nat))) ∧
 ((vc_41b_4 s sq ti ss n l sh c4 c5) ∨
 (∃ y_14 : (Prod (List Xt) (Prod Int (List UInt8))), ((Lf ((goM p s (Prod.fst y_14) (Prod.fst (Prod.snd y_14)) (Prod.snd (Prod.snd y_14))) ∧
 (((1 : Nat) ≤ (List.length (Prod.fst y_14))) ∧
 ((List.length (Prod.fst y_14)) ≤ (16 : Nat))))) ∧
 (((List.length (Prod.snd (Prod.snd y_14))) < ((List.length s) + (1 : Nat))) ∧
 ((((AV.bool false) :: ((AV.int .i64 (0 : Int)) :: ((AV.int .i64 (0 : Int)) :: ((AV.int .i64 (0 : Int)) :: ((AV.int .i64 (0 : Int)) :: (AV.nils :: (AV.nils :: ((AV.int .i64 (0 : Int)) :: ((AV.str []) :: []))))))))) = ((AV.bool false) :: ((AV.int .i64 (0 : Int)) :: ((AV.int .i64 (0 : Int)) :: ((AV.int .i64 (0 : Int)) :: ((AV.int .i64 (0 : Int)) :: (AV.nils :: (AV.nils :: ((AV.int .i64 (0 : Int)) :: ((AV.str []) :: [])))))))))) ∧
 ((((AV.bool false) :: ((AV.int .i64 (0 : Int)) :: ((AV.int .i64 sq) :: ((AV.int .i64 ti) :: ((AV.int .i64 ss) :: ((AV.sl (5 : Nat) n (0 : Nat) n (1 : Nat)) :: ((AV.sl (7 : Nat) (2 : Nat) (0 : Nat) (1 : Nat) (2 : Nat)) :: ((AV.int .i64 (0 : Int)) :: ((AV.str []) :: ((AV.str l) :: ((AV.bool false) :: []))))))))))) = ((AV.bool false) :: ((AV.int .i64 (0 : Int)) :: ((AV.int .i64 sq) :: ((AV.int .i64 ti) :: ((AV.int .i64 ss) :: ((AV.sl (5 : Nat) n (0 : Nat) n (1 : Nat)) :: ((AV.sl (7 : Nat) ((2 : Nat) * (List.length (Prod.fst y_14))) (0 : Nat) (List.length (Prod.fst y_14)) (2 : Nat)) :: ((AV.int .i64 (0 : Int)) :: ((AV.str []) :: ((AV.str l) :: ((AV.bool false) :: [])))))))))))) ∧
 ((((AV.ptr (1 : Nat) (11 : Nat) (0 : Nat)) :: []) = ((AV.ptr (1 : Nat) (11 : Nat) (0 : Nat)) :: [])) ∧
 ((((AV.bool sh) :: []) = ((AV.bool sh) :: [])) ∧
 ((c4 = c4) ∧
 ((c5 = c5) ∧
 ((((AV.int .i64 id_) :: ((AV.str dt_) :: [])) = (cellsXM (List.take (1 : Nat) (Prod.fst y_14)))) ∧
 ((((AV.int .i64 id_) :: ((AV.str dt_) :: [])) = (cellsXM (Prod.fst y_14))) ∧
 (((AV.ptr (1 : Nat) (11 : Nat) (0 : Nat)) = (AV.ptr (1 : Nat) (11 : Nat) (0 : Nat))) ∧
 (((AV.str rs_) = (AV.str (Prod.snd (Prod.snd y_14)))) ∧
 (((AV.int .i64 p) = (AV.int .i64 p)) ∧
 (((AV.int .i64 id_) = (AV.int .i64 (Prod.fst (Prod.snd y_14)))) ∧
 True))))))))))))))))))))) ∧
 (∀ x_0 : (Prod (List Xt) (Prod Int (List UInt8))), ((Lf ((goM p s (Prod.fst x_0) (Prod.fst (Prod.snd x_0)) (Prod.snd (Prod.snd x_0))) ∧
 (((1 : Nat) ≤ (List.length (Prod.fst x_0))) ∧
 ((List.length (Prod.fst x_0)) ≤ (16 : Nat))))) →
(roundD p (Prod.snd (Prod.snd x_0)) (Prod.fst (Prod.snd x_0)) (Nat.cast (List.length (Prod.fst x_0)) : Int) (Nat.beq (List.length (cellsXM (Prod.fst x_0))) ((2 : Nat) * (List.length (Prod.fst x_0)))) (((((Nat.beq (List.length (cellsXM (Prod.fst x_0))) ((2 : Nat) * (List.length (Prod.fst x_0)))) && true) && (Nat.beq ((0 : Nat) + ((List.length (Prod.fst x_0)) * (2 : Nat))) ((2 : Nat) * (List.length (Prod.fst x_0))))) && (Nat.ble ((List.length (Prod.fst x_0)) + (1 : Nat)) (1099511627776 : Nat))) && (Nat.ble (((List.length (Prod.fst x_0)) + (1 : Nat)) * (24 : Nat)) (1099511627776 : Nat))) (bif (p == (48862 : Int)) then (qbM Q sq ti ss n l sh c4 c5 (Prod.fst x_0) true)
else (bif (p == (4096 : Int)) then (qbM Q sq ti ss n l sh c4 c5 (Prod.fst x_0) true)
else (qbM Q sq ti ss n l sh c4 c5 (Prod.fst x_0) true))) (bif (p == (48862 : Int)) then (bif (Nat.beq (List.length (cellsXM (Prod.fst x_0))) ((2 : Nat) * (List.length (Prod.fst x_0)))) then (∃ n_6 : Int, (((AV.int .i64 (Nat.cast (List.length (Prod.fst x_0)) : Int)) = (AV.int .i64 n_6)) ∧
 (bif (n_6 == (0 : Int)) then (qbM Q sq ti ss n l sh c4 c5 (Prod.fst x_0) true)
else (bif (((Nat.beq (List.length (cellsXM (Prod.fst x_0))) ((2 : Nat) * (List.length (Prod.fst x_0)))) && (Nat.ble ((0 : Nat) + ((List.length (Prod.fst x_0)) * (2 : Nat))) ((2 : Nat) * (List.length (Prod.fst x_0))))) && true) then (∃ ex_7 : (List Xt), ((Lf (((List.map (fun x_8 : AV => (frzV (1 : Nat) (hbM sq ti ss n l sh c4 c5 (Prod.fst x_0)) (8 : Nat) x_8)) (List.take ((List.length (Prod.fst x_0)) * (2 : Nat)) (List.drop (0 : Nat) (cellsXM (Prod.fst x_0))))) = (cellsXM ex_7)) ∧
 (((List.length (Prod.fst x_0)) = (List.length ex_7)) ∧
 (((List.length ex_7) ≤ (1000000 : Nat)) ∧
 (dataM ex_7))))) ∧
 (bif (shortM ex_7) then (bif (p == (48862 : Int)) then (qbM Q sq ti ss n l sh c4 c5 (Prod.fst x_0) false)
else (qbM Q sq ti ss n l sh c4 c5 (Prod.fst x_0) true))
else (bif (p == (48862 : Int)) then (qbM Q sq ti ss n l sh c4 c5 (Prod.fst x_0) true)
else (qbM Q sq ti ss n l sh c4 c5 (Prod.fst x_0) false)))))
else False))))
else False)
else (bif (p == (4096 : Int)) then (bif (Nat.beq (List.length (cellsXM (Prod.fst x_0))) ((2 : Nat) * (List.length (Prod.fst x_0)))) then (∃ n_6 : Int, (((AV.int .i64 (Nat.cast (List.length (Prod.fst x_0)) : Int)) = (AV.int .i64 n_6)) ∧
 (bif (n_6 == (0 : Int)) then (qbM Q sq ti ss n l sh c4 c5 (Prod.fst x_0) true)
else (bif (((Nat.beq (List.length (cellsXM (Prod.fst x_0))) ((2 : Nat) * (List.length (Prod.fst x_0)))) && (Nat.ble ((0 : Nat) + ((List.length (Prod.fst x_0)) * (2 : Nat))) ((2 : Nat) * (List.length (Prod.fst x_0))))) && true) then (∃ ex_7 : (List Xt), ((Lf (((List.map (fun x_8 : AV => (frzV (1 : Nat) (hbM sq ti ss n l sh c4 c5 (Prod.fst x_0)) (8 : Nat) x_8)) (List.take ((List.length (Prod.fst x_0)) * (2 : Nat)) (List.drop (0 : Nat) (cellsXM (Prod.fst x_0))))) = (cellsXM ex_7)) ∧
 (((List.length (Prod.fst x_0)) = (List.length ex_7)) ∧
 (((List.length ex_7) ≤ (1000000 : Nat)) ∧
 (dataM ex_7))))) ∧
 (bif (shortM ex_7) then (bif (p == (48862 : Int)) then (qbM Q sq ti ss n l sh c4 c5 (Prod.fst x_0) false)
else (qbM Q sq ti ss n l sh c4 c5 (Prod.fst x_0) true))
else (bif (p == (48862 : Int)) then (qbM Q sq ti ss n l sh c4 c5 (Prod.fst x_0) true)
else (qbM Q sq ti ss n l sh c4 c5 (Prod.fst x_0) false)))))
else False))))
else False)
else (qbM Q sq ti ss n l sh c4 c5 (Prod.fst x_0) true))) (fun (id_ : Int) (dt_ rs_ : List UInt8) => ((True ∧
 ((0 : Nat) = (0 : Nat))) ∧
 ((∃ y_14 : Nat, ((Lf (y_14 = (0 : Nat))) ∧
 ((((List.length s) + (1 : Nat)) < (List.length (Prod.snd (Prod.snd x_0)))) ∧
 ((((AV.bool false) :: ((AV.int .i64 (0 : Int)) :: ((AV.int .i64 (0 : Int)) :: ((AV.int .i64 (0 : Int)) :: ((AV.int .i64 (0 : Int)) :: (AV.nils :: (AV.nils :: ((AV.int .i64 (0 : Int)) :: ((AV.str []) :: []))))))))) = ((AV.bool false) :: ((AV.int .i64 (0 : Int)) :: ((AV.int .i64 (0 : Int)) :: ((AV.int .i64 (0 : Int)) :: ((AV.int .i64 (0 : Int)) :: (AV.nils :: (AV.nils :: ((AV.int .i64 (0 : Int)) :: ((AV.str []) :: [])))))))))) ∧
 ((((AV.bool false) :: ((AV.int .i64 (0 : Int)) :: ((AV.int .i64 sq) :: ((AV.int .i64 ti) :: ((AV.int .i64 ss) :: ((AV.sl (5 : Nat) n (0 : Nat) n (1 : Nat)) :: ((AV.sl (7 : Nat) (((2 : Nat) * (List.length (Prod.fst x_0))) + (2 : Nat)) (0 : Nat) ((List.length (Prod.fst x_0)) + (1 : Nat)) (2 : Nat)) :: ((AV.int .i64 (0 : Int)) :: ((AV.str []) :: ((AV.str l) :: ((AV.bool false) :: []))))))))))) = ((AV.bool false) :: ((AV.int .i64 (0 : Int)) :: ((AV.int .i64 sq) :: ((AV.int .i64 ti) :: ((AV.int .i64 ss) :: ((AV.sl (5 : Nat) n (0 : Nat) n (1 : Nat)) :: (AV.nils :: ((AV.int .i64 (0 : Int)) :: ((AV.str []) :: ((AV.str l) :: ((AV.bool false) :: [])))))))))))) ∧
 ((((AV.ptr (1 : Nat) (11 : Nat) (0 : Nat)) :: []) = ((AV.ptr (1 : Nat) (11 : Nat) (0 : Nat)) :: [])) ∧
 ((((AV.bool sh) :: []) = ((AV.bool sh) :: [])) ∧
 ((c4 = c4) ∧
 ((c5 = c5) ∧
 False))))))))) ∨
 (∃ y_14 : (Prod (List Xt) (Prod Int (List UInt8))), ((Lf ((goM p s (Prod.fst y_14) (Prod.fst (Prod.snd y_14)) (Prod.snd (Prod.snd y_14))) ∧
 (((1 : Nat) ≤ (List.length (Prod.fst y_14))) ∧
 ((List.length (Prod.fst y_14)) ≤ (16 : Nat))))) ∧
 (((List.length (Prod.snd (Prod.snd y_14))) < (List.length (Prod.snd (Prod.snd x_0)))) ∧
 ((((AV.bool false) :: ((AV.int .i64 (0 : Int)) :: ((AV.int .i64 (0 : Int)) :: ((AV.int .i64 (0 : Int)) :: ((AV.int .i64 (0 : Int)) :: (AV.nils :: (AV.nils :: ((AV.int .i64 (0 : Int)) :: ((AV.str []) :: []))))))))) = ((AV.bool false) :: ((AV.int .i64 (0 : Int)) :: ((AV.int .i64 (0 : Int)) :: ((AV.int .i64 (0 : Int)) :: ((AV.int .i64 (0 : Int)) :: (AV.nils :: (AV.nils :: ((AV.int .i64 (0 : Int)) :: ((AV.str []) :: [])))))))))) ∧
 ((((AV.bool false) :: ((AV.int .i64 (0 : Int)) :: ((AV.int .i64 sq) :: ((AV.int .i64 ti) :: ((AV.int .i64 ss) :: ((AV.sl (5 : Nat) n (0 : Nat) n (1 : Nat)) :: ((AV.sl (7 : Nat) (((2 : Nat) * (List.length (Prod.fst x_0))) + (2 : Nat)) (0 : Nat) ((List.length (Prod.fst x_0)) + (1 : Nat)) (2 : Nat)) :: ((AV.int .i64 (0 : Int)) :: ((AV.str []) :: ((AV.str l) :: ((AV.bool false) :: []))))))))))) = ((AV.bool false) :: ((AV.int .i64 (0 : Int)) :: ((AV.int .i64 sq) :: ((AV.int .i64 ti) :: ((AV.int .i64 ss) :: ((AV.sl (5 : Nat) n (0 : Nat) n (1 : Nat)) :: ((AV.sl (7 : Nat) ((2 : Nat) * (List.length (Prod.fst y_14))) (0 : Nat) (List.length (Prod.fst y_14)) (2 : Nat)) :: ((AV.int .i64 (0 : Int)) :: ((AV.str []) :: ((AV.str l) :: ((AV.bool false) :: [])))))))))))) ∧
 ((((AV.ptr (1 : Nat) (11 : Nat) (0 : Nat)) :: []) = ((AV.ptr (1 : Nat) (11 : Nat) (0 : Nat)) :: [])) ∧
 ((((AV.bool sh) :: []) = ((AV.bool sh) :: [])) ∧
 ((c4 = c4) ∧
 ((c5 = c5) ∧
 (((cellsXM (List.take (1 : Nat) (Prod.fst x_0))) = (cellsXM (List.take (1 : Nat) (Prod.fst y_14)))) ∧
 ((((cellsXM (Prod.fst x_0)) ++ ((AV.int .i64 id_) :: ((AV.str dt_) :: []))) = (cellsXM (Prod.fst y_14))) ∧
 (((AV.ptr (1 : Nat) (11 : Nat) (0 : Nat)) = (AV.ptr (1 : Nat) (11 : Nat) (0 : Nat))) ∧
 (((AV.str rs_) = (AV.str (Prod.snd (Prod.snd y_14)))) ∧
 (((AV.int .i64 p) = (AV.int .i64 p)) ∧
 (((AV.int .i64 id_) = (AV.int .i64 (Prod.fst (Prod.snd y_14)))) ∧
 True)))))))))))))))))))))))) := by kernel_rfl

theorem extGo_nil (p : Int) (f : Nat) (last : Int) (n : Nat) : extGoM p f last n [] = ([], false) := by cases f <;> rfl
theorem fdiv16 (c : Nat) : Int.fdiv (c : Int) 16 = ((c / 16 : Nat) : Int) := by rw [Int.fdiv_eq_ediv_of_nonneg _ (by omega)]; omega
theorem round_ok {p : Int} {r : List UInt8} {last : Int} {n : Nat} {c1 c2 : Bool} {E1 E0 : Prop} {STEP : Int → List UInt8 → List UInt8 → Prop} (h1 : c1 = true) (h2 : c2 = true) (hr : r.length ≤ 1000000) {f : Nat} (hf : r.length ≤ f)
    (hE1 : extGoM p f last n r = ([], true) → E1) (hE0 : extGoM p f last n r = ([], false) → E0)
    (hS : n ≠ 16 → ∀ f' id dt rs, rs.length < r.length → rs.length ≤ f' → extGoM p f last n r = ((id, dt) :: (extGoM p f' id (n + 1) rs).1, (extGoM p f' id (n + 1) rs).2) → STEP id dt rs) : roundD p r last (n : Int) c1 c2 E1 E0 STEP := by
  unfold roundD
  cases r with
  | nil => exact ⟨_, rfl, splitD (fun h => absurd h (by simp)) (fun _ => hE0 (extGo_nil _ _ _ _))⟩
  | cons c t =>
    obtain ⟨f, rfl⟩ : ∃ g, f = g + 1 := ⟨f - 1, by simp at hf; omega⟩
    have hc := c.toNat_lt
    simp only [List.length_cons] at hr hf
    refine ⟨_, rfl, splitD (fun h => ?_) (fun h => absurd (by simp only [List.length_cons]; omega) h)⟩
    refine ckI (by simp) ⟨_, rfl, ?_⟩
    rw [List.getD_cons_zero]
    refine wrapI (by omega) (by omega) (splitE (fun z => ?_) (fun z => ?_))
    · have hz : extGoM p (f + 1) last n (c :: t) = ([], decide ((c :: t).length > 3) || !eqB (trimM (c :: t)) []) := by rw [extGoM, if_pos z]
      refine ⟨_, rfl, splitD (fun q => hE1 (by rw [hz, decide_eq_true (by omega)]; rfl)) (fun q => ckI (by simp; omega) ⟨_, rfl, splitNot (splitI (fun y => hE0 (by rw [hz, decide_eq_false (by omega), y]; rfl)) (fun y => hE1 (by rw [hz, y]; simp)))⟩)⟩
    · by_cases hp : p = 48862
      · subst hp
        have hG : extGoM 48862 (f + 1) last n (c :: t) = if ((c.toNat / 16 : Nat) : Int) ≤ last ∨ t.length < c.toNat % 16 + 1 ∨ ((c.toNat / 16 : Nat) : Int) > 14 ∨ n = 16 then ([], true) else ((((c.toNat / 16 : Nat) : Int), t.take (c.toNat % 16 + 1)) :: (extGoM 48862 f ((c.toNat / 16 : Nat) : Int) (n + 1) (t.drop (c.toNat % 16 + 1))).1, (extGoM 48862 f ((c.toNat / 16 : Nat) : Int) (n + 1) (t.drop (c.toNat % 16 + 1))).2) := by
          rw [extGoM, if_neg z, if_neg (by simp)]
          simp only [if_true, true_and]
        refine splitE (fun _ => ?_) (fun h => absurd rfl h)
        rw [fdiv16, show Int.toNat ((c.toNat : Int) % 18446744073709551616) = c.toNat by omega, and15 _ (by omega)]
        refine ⟨_, rfl, wrapI (by omega) (by omega) (wrapI (by omega) (by omega) (splitD (fun a => hE1 (by rw [hG, if_pos (.inl a)])) (fun a => ?_)))⟩
        refine wrapI (by omega) (by omega) ⟨_, rfl, splitD (fun b => hE1 (by simp only [List.length_cons] at b; rw [hG, if_pos (.inr (.inl (by omega)))])) (fun b => ?_)⟩
        simp only [List.length_cons] at b
        refine splitE (fun _ => ?_) (fun h => absurd rfl h)
        refine splitD (fun d => hE1 (by rw [hG, if_pos (.inr (.inr (.inl d)))])) (fun d => ckI h1 ⟨_, rfl, splitE (fun e => hE1 (by rw [hG, if_pos (.inr (.inr (.inr (by omega))))])) (fun e => ?_)⟩)
        have e1 : Int.toNat (1 + (((c.toNat % 16 : Nat) : Int) + 1)) = c.toNat % 16 + 1 + 1 := by omega
        refine wrapI (by omega) (by omega) (ckI (by simp; omega) ⟨t.take (c.toNat % 16 + 1), by rw [e1]; rfl, ckI h2 (wrapI (by omega) (by omega) (ckI (by simp; omega) ⟨t.drop (c.toNat % 16 + 1), by rw [e1, List.take_of_length_le (by simp)]; rfl, ?_⟩))⟩)
        exact hS (by omega) f _ _ _ (by simp; omega) (by rw [List.length_drop]; omega) (by rw [hG, if_neg (by omega)])
      · refine splitE (fun h => absurd h hp) (fun _ => ?_)
        refine ⟨_, rfl, splitD (fun a => hE1 ?_) (fun a => ?_)⟩
        · have : t = [] := List.length_eq_zero_iff.1 (by simp only [List.length_cons] at a; omega)
          rw [extGoM, if_neg z, if_pos ⟨hp, this⟩]
        obtain ⟨d, u, rfl⟩ : ∃ d u, t = d :: u := by
          cases t with
          | nil => simp at a
          | cons d u => exact ⟨d, u, rfl⟩
        simp only [List.length_cons] at hr hf
        have hd := d.toNat_lt
        have hG : extGoM p (f + 1) last n (c :: d :: u) = if (c.toNat : Int) ≤ last ∨ u.length < d.toNat ∨ n = 16 then ([], true) else (((c.toNat : Int), u.take d.toNat) :: (extGoM p f (c.toNat : Int) (n + 1) (u.drop d.toNat)).1, (extGoM p f (c.toNat : Int) (n + 1) (u.drop d.toNat)).2) := by
          rw [extGoM, if_neg z, if_neg (by simp)]
          simp only [hp, if_false, false_and, false_or, List.headD_cons, List.tail_cons]
        refine ckI (by simp) ⟨_, rfl, ?_⟩
        rw [List.getD_cons_succ, List.getD_cons_zero]
        refine wrapI (by omega) (by omega) (splitD (fun a => hE1 (by rw [hG, if_pos (.inl a)])) (fun a' => ?_))
        refine wrapI (by omega) (by omega) ⟨_, rfl, splitD (fun b => hE1 (by simp only [List.length_cons] at b; rw [hG, if_pos (.inr (.inl (by omega)))])) (fun b => ?_)⟩
        simp only [List.length_cons] at b
        refine splitE (fun h => absurd h hp) (fun _ => ?_)
        refine ckI h1 ⟨_, rfl, splitE (fun e => hE1 (by rw [hG, if_pos (.inr (.inr (by omega)))])) (fun e => ?_)⟩
        have e1 : Int.toNat (2 + (d.toNat : Int)) = d.toNat + 1 + 1 := by omega
        refine wrapI (by omega) (by omega) (ckI (by simp; omega) ⟨u.take d.toNat, by rw [e1]; rfl, ckI h2 (wrapI (by omega) (by omega) (ckI (by simp; omega) ⟨u.drop d.toNat, by rw [e1, List.take_of_length_le (by simp)]; rfl, ?_⟩))⟩)
        exact hS (by omega) f _ _ _ (by simp; omega) (by rw [List.length_drop]; omega) (by rw [hG, if_neg (by omega)])
theorem extGo_data (p : Int) : ∀ (f : Nat) (last : Int) (n : Nat) (s : List UInt8), ∀ x ∈ (extGoM p f last n s).1, x.2.length ≤ s.length
  | 0, _, _, _, x, hx => by simp [extGoM] at hx
  | f + 1, last, n, [], x, hx => by simp [extGoM] at hx
  | f + 1, last, n, c :: s, x, hx => by
    rw [extGoM] at hx
    split at hx
    · simp at hx
    split at hx
    · simp at hx
    dsimp only at hx
    have hr : (if p = 48862 then s else s.tail).length ≤ s.length := by split <;> simp
    generalize (if p = 48862 then ((c.toNat / 16 : Nat) : Int) else (c.toNat : Int)) = id at hx
    generalize (if p = 48862 then c.toNat % 16 + 1 else (s.headD 0).toNat) = k at hx
    generalize (if p = 48862 then s else s.tail) = r at hx hr
    split at hx
    · simp at hx
    rcases List.mem_cons.1 hx with rfl | hx
    · simp only [List.length_take, List.length_cons]
      omega
    · have := extGo_data p f _ _ _ x hx
      rw [List.length_drop] at this
      simp only [List.length_cons]
      omega
theorem go_start (p : Int) (s : List UInt8) : s.length ≤ s.length ∧ extGoM p s.length 0 0 s = ([] ++ (extGoM p s.length 0 ([] : List Xt).length s).1, (extGoM p s.length 0 ([] : List Xt).length s).2) := ⟨Nat.le_refl _, rfl⟩
theorem go_step {p : Int} {s : List UInt8} {acc : List Xt} {last : Int} {r : List UInt8} {f f' : Nat} {id : Int} {dt rs : List UInt8} (hg : extGoM p s.length 0 0 s = (acc ++ (extGoM p f last acc.length r).1, (extGoM p f last acc.length r).2)) (hr : r.length ≤ s.length) (h1 : rs.length < r.length) (h2 : rs.length ≤ f')
    (h3 : extGoM p f last acc.length r = ((id, dt) :: (extGoM p f' id (acc.length + 1) rs).1, (extGoM p f' id (acc.length + 1) rs).2)) : goM p s (acc ++ [(id, dt)]) id rs := by
  refine ⟨by omega, f', h2, ?_⟩
  rw [hg, h3]
  simp
theorem go_end {p : Int} {s : List UInt8} {acc : List Xt} {last : Int} {r : List UInt8} {f : Nat} {bad : Bool} (hg : extGoM p s.length 0 0 s = (acc ++ (extGoM p f last acc.length r).1, (extGoM p f last acc.length r).2)) (h : extGoM p f last acc.length r = ([], bad)) :
    extsM p s = (acc, bad || !(decide (p = 48862) || decide (p = 4096)) || acc.isEmpty || (shortM acc != decide (p = 48862))) := by
  rw [extsM, hg, h]
  simp
theorem all3 {p : Int} {A : Prop} (h : A) : bif p == 48862 then A else (bif p == 4096 then A else A) := splitE (fun _ => h) (fun _ => splitE (fun _ => h) (fun _ => h))
theorem exts_a (p : Int) (s : List UInt8) (hs : s.length ≤ 1000000) (sq ti ss : Int) (l : List UInt8) (sh : Bool) (Q : Out → List Blk → Gh → Prop)
    (hn : ∀ bad, extsM p s = ([], bad) → Q (.ret (.tup [])) [⟨.exact, true, zeroMedM⟩, ⟨.exact, true, [.bool false, .int .i64 0, .int .i64 sq, .int .i64 ti, .int .i64 ss, .nils, .nils, .int .i64 0, .str [], .str l, .bool bad]⟩, ⟨.exact, false, [.ptr 1 11 0]⟩, ⟨.exact, true, [.bool sh]⟩] {}) (hq : ∀ x ex bad, extsM p s = (x :: ex, bad) → Q (.ret (.tup [])) [⟨.exact, true, zeroMedM⟩, ⟨.exact, false, [.bool false, .int .i64 0, .int .i64 sq, .int .i64 ti, .int .i64 ss, .nils, .sl 5 (2 * (x :: ex).length) 0 (x :: ex).length 2, .int .i64 0, .str [], .str l, .bool bad]⟩, ⟨.exact, false, [.ptr 1 11 0]⟩, ⟨.exact, true, [.bool sh]⟩, ⟨.exact, true, cellsXM [x]⟩, ⟨.grow, true, cellsXM (x :: ex)⟩] {}) : ∃ hv hb, goal_41a hv hb p s sq ti ss l sh Q := by
  obtain ⟨hv, hb', e⟩ : ∃ hv hb, goal_41a hv hb p s sq ti ss l sh Q = _ := ⟨_, _, vc_41a p s sq ti ss l sh Q⟩
  refine ⟨hv, hb', e.mpr ?_⟩
  clear e
  refine ⟨.inl ⟨0, ⟨rfl⟩, rfl, rfl, rfl, rfl, rfl, rfl, rfl, rfl, trivial⟩, ?_, ?_⟩
  · rintro _ ⟨rfl⟩
    obtain ⟨g0, g1⟩ := go_start p s
    refine round_ok (n := 0) rfl rfl hs g0 (fun h => ?_) (fun h => ?_) (fun _ f' id dt rs a1 a2 a3 => ?_)
    · exact all3 (hn true (go_end (acc := []) g1 h))
    · have hQ := hn true (by rw [go_end (acc := []) g1 h]; simp)
      refine splitE (fun _ => ?_) (fun _ => splitE (fun _ => ?_) (fun _ => hQ))
      · exact ⟨_, rfl, splitE (fun _ => hQ) (fun h => absurd rfl h)⟩
      · exact ⟨_, rfl, splitE (fun _ => hQ) (fun h => absurd rfl h)⟩
    · exact ⟨⟨trivial, rfl⟩, .inr ⟨([(id, dt)], id, rs), ⟨go_step (acc := []) g1 g0 a1 a2 a3, by simp, by simp⟩, by dsimp only; omega, rfl, rfl, rfl, rfl, rfl, rfl, rfl, rfl, rfl, rfl, trivial⟩⟩
  · rintro ⟨acc, last, r⟩ ⟨⟨g0, f, g1, g2⟩, k1, k2⟩
    dsimp only at g0 g1 g2 k1 k2 ⊢
    obtain ⟨x, ex, rfl⟩ : ∃ x ex, acc = x :: ex := by
      cases acc with
      | nil => simp at k1
      | cons x ex => exact ⟨x, ex, rfl⟩
    have hdt : dataM (x :: ex) := fun y hy => by
      have := extGo_data p s.length 0 0 s y (by rw [g2]; exact List.mem_append_left _ hy)
      omega
    have hfz : ∀ (H : List Blk), List.map (fun y => frzV 1 H 8 y) (List.take ((x :: ex).length * 2) (List.drop 0 (cellsXM (x :: ex)))) = cellsXM (x :: ex) := fun H => by
      rw [List.drop_zero, List.take_of_length_le (by rw [cellsX_len]; omega)]
      exact map_plain 1 H 7 _ (plain_cX _)
    refine round_ok (n := (x :: ex).length) (by rw [cellsX_len]; simp) (by rw [cellsX_len]; simp at k2 ⊢; omega) (by omega) g1 (fun h => ?_) (fun h => ?_) (fun h16 f' id dt rs a1 a2 a3 => ?_)
    · exact all3 (hq x ex true (by rw [go_end g2 h]; simp))
    · have hE := go_end g2 h
      refine splitE (fun hp => ?_) (fun hp => splitE (fun hp' => ?_) (fun hp' => ?_))
      · subst hp
        refine ckI (by rw [cellsX_len]; simp) ⟨_, rfl, splitE (fun h => absurd h (by simp only [List.length_cons]; omega)) (fun _ => ckI (by rw [cellsX_len]; simp; omega) ⟨x :: ex, ⟨hfz _, rfl, by simp at k2 ⊢; omega, hdt⟩, splitI (fun q => ?_) (fun q => ?_)⟩)⟩
        · exact splitE (fun _ => hq x ex false (by rw [hE, q]; rfl)) (fun h => absurd rfl h)
        · exact splitE (fun _ => hq x ex true (by rw [hE, q]; rfl)) (fun h => absurd rfl h)
      · subst hp'
        refine ckI (by rw [cellsX_len]; simp) ⟨_, rfl, splitE (fun h => absurd h (by simp only [List.length_cons]; omega)) (fun _ => ckI (by rw [cellsX_len]; simp; omega) ⟨x :: ex, ⟨hfz _, rfl, by simp at k2 ⊢; omega, hdt⟩, splitI (fun q => ?_) (fun q => ?_)⟩)⟩
        · exact splitE (fun h => absurd h hp) (fun _ => hq x ex true (by rw [hE, q]; rfl))
        · exact splitE (fun h => absurd h hp) (fun _ => hq x ex false (by rw [hE, q]; rfl))
      · exact hq x ex true (by rw [hE, decide_eq_false hp, decide_eq_false hp']; simp)
    · exact ⟨⟨trivial, rfl⟩, .inr ⟨(x :: ex ++ [(id, dt)], id, rs), ⟨go_step g2 g0 a1 a2 a3, by simp, by simp at k2 h16 ⊢; omega⟩, by dsimp only; omega, rfl, by simp only [List.length_append, List.length_cons, List.length_nil]; rfl, rfl, rfl, rfl, by rw [cellsX_app]; rfl, rfl, rfl, rfl, rfl, trivial⟩⟩
theorem exts_b (p : Int) (s : List UInt8) (hs : s.length ≤ 1000000) (sq ti ss : Int) (n : Nat) (l : List UInt8) (sh : Bool) (c4 c5 : List AV) (Q : Out → List Blk → Gh → Prop)
    (hn : ∀ bad, extsM p s = ([], bad) → Q (.ret (.tup [])) [⟨.exact, true, zeroMedM⟩, ⟨.exact, false, [.bool false, .int .i64 0, .int .i64 sq, .int .i64 ti, .int .i64 ss, .sl 5 n 0 n 1, .nils, .int .i64 0, .str [], .str l, .bool bad]⟩, ⟨.exact, false, [.ptr 1 11 0]⟩, ⟨.exact, true, [.bool sh]⟩, ⟨.exact, true, c4⟩, ⟨.grow, true, c5⟩] {}) (hq : ∀ x ex bad, extsM p s = (x :: ex, bad) → Q (.ret (.tup [])) [⟨.exact, true, zeroMedM⟩, ⟨.exact, false, [.bool false, .int .i64 0, .int .i64 sq, .int .i64 ti, .int .i64 ss, .sl 5 n 0 n 1, .sl 7 (2 * (x :: ex).length) 0 (x :: ex).length 2, .int .i64 0, .str [], .str l, .bool bad]⟩, ⟨.exact, false, [.ptr 1 11 0]⟩, ⟨.exact, true, [.bool sh]⟩, ⟨.exact, true, c4⟩, ⟨.grow, true, c5⟩, ⟨.exact, true, cellsXM [x]⟩, ⟨.grow, true, cellsXM (x :: ex)⟩] {}) : ∃ hv hb, goal_41b hv hb p s sq ti ss n l sh c4 c5 Q := by
  obtain ⟨hv, hb', e⟩ : ∃ hv hb, goal_41b hv hb p s sq ti ss n l sh c4 c5 Q = _ := ⟨_, _, vc_41b p s sq ti ss n l sh c4 c5 Q⟩
  refine ⟨hv, hb', e.mpr ?_⟩
  clear e
  refine ⟨.inl ⟨0, ⟨rfl⟩, rfl, rfl, rfl, rfl, rfl, rfl, rfl, rfl, rfl, rfl, trivial⟩, ?_, ?_⟩
  · rintro _ ⟨rfl⟩
    obtain ⟨g0, g1⟩ := go_start p s
    refine round_ok (n := 0) rfl rfl hs g0 (fun h => ?_) (fun h => ?_) (fun _ f' id dt rs a1 a2 a3 => ?_)
    · exact all3 (hn true (go_end (acc := []) g1 h))
    · have hQ := hn true (by rw [go_end (acc := []) g1 h]; simp)
      refine splitE (fun _ => ?_) (fun _ => splitE (fun _ => ?_) (fun _ => hQ))
      · exact ⟨_, rfl, splitE (fun _ => hQ) (fun h => absurd rfl h)⟩
      · exact ⟨_, rfl, splitE (fun _ => hQ) (fun h => absurd rfl h)⟩
    · exact ⟨⟨trivial, rfl⟩, .inr ⟨([(id, dt)], id, rs), ⟨go_step (acc := []) g1 g0 a1 a2 a3, by simp, by simp⟩, by dsimp only; omega, rfl, rfl, rfl, rfl, rfl, rfl, rfl, rfl, rfl, rfl, rfl, rfl, trivial⟩⟩
  · rintro ⟨acc, last, r⟩ ⟨⟨g0, f, g1, g2⟩, k1, k2⟩
    dsimp only at g0 g1 g2 k1 k2 ⊢
    obtain ⟨x, ex, rfl⟩ : ∃ x ex, acc = x :: ex := by
      cases acc with
      | nil => simp at k1
      | cons x ex => exact ⟨x, ex, rfl⟩
    have hdt : dataM (x :: ex) := fun y hy => by
      have := extGo_data p s.length 0 0 s y (by rw [g2]; exact List.mem_append_left _ hy)
      omega
    have hfz : ∀ (H : List Blk), List.map (fun y => frzV 1 H 8 y) (List.take ((x :: ex).length * 2) (List.drop 0 (cellsXM (x :: ex)))) = cellsXM (x :: ex) := fun H => by
      rw [List.drop_zero, List.take_of_length_le (by rw [cellsX_len]; omega)]
      exact map_plain 1 H 7 _ (plain_cX _)
    refine round_ok (n := (x :: ex).length) (by rw [cellsX_len]; simp) (by rw [cellsX_len]; simp at k2 ⊢; omega) (by omega) g1 (fun h => ?_) (fun h => ?_) (fun h16 f' id dt rs a1 a2 a3 => ?_)
    · exact all3 (hq x ex true (by rw [go_end g2 h]; simp))
    · have hE := go_end g2 h
      refine splitE (fun hp => ?_) (fun hp => splitE (fun hp' => ?_) (fun hp' => ?_))
      · subst hp
        refine ckI (by rw [cellsX_len]; simp) ⟨_, rfl, splitE (fun h => absurd h (by simp only [List.length_cons]; omega)) (fun _ => ckI (by rw [cellsX_len]; simp; omega) ⟨x :: ex, ⟨hfz _, rfl, by simp at k2 ⊢; omega, hdt⟩, splitI (fun q => ?_) (fun q => ?_)⟩)⟩
        · exact splitE (fun _ => hq x ex false (by rw [hE, q]; rfl)) (fun h => absurd rfl h)
        · exact splitE (fun _ => hq x ex true (by rw [hE, q]; rfl)) (fun h => absurd rfl h)
      · subst hp'
        refine ckI (by rw [cellsX_len]; simp) ⟨_, rfl, splitE (fun h => absurd h (by simp only [List.length_cons]; omega)) (fun _ => ckI (by rw [cellsX_len]; simp; omega) ⟨x :: ex, ⟨hfz _, rfl, by simp at k2 ⊢; omega, hdt⟩, splitI (fun q => ?_) (fun q => ?_)⟩)⟩
        · exact splitE (fun h => absurd h hp) (fun _ => hq x ex true (by rw [hE, q]; rfl))
        · exact splitE (fun h => absurd h hp) (fun _ => hq x ex false (by rw [hE, q]; rfl))
      · exact hq x ex true (by rw [hE, decide_eq_false hp, decide_eq_false hp']; simp)
    · exact ⟨⟨trivial, rfl⟩, .inr ⟨(x :: ex ++ [(id, dt)], id, rs), ⟨go_step g2 g0 a1 a2 a3, by simp, by simp at k2 h16 ⊢; omega⟩, by dsimp only; omega, rfl, by simp only [List.length_append, List.length_cons, List.length_nil]; rfl, rfl, rfl, rfl, rfl, rfl, by rw [cellsX_app]; rfl, rfl, rfl, rfl, rfl, trivial⟩⟩
theorem smDC_ok : ∀ f g, smDC f = some g → ValidF Tryd.prog gl0 f g := lookS_ok _ (by
  simp only [List.mem_cons, List.not_mem_nil, or_false, forall_eq_or_imp, forall_eq]
  exact ⟨trimS_ok, valid_view short_ok gl0_noY [2] fun args H Q hc => by
    unfold cShort at hc
    split at hc
    · obtain ⟨xs, h, hq⟩ := hc
      exact ⟨xs, h, rfl, ⟨_, rfl, rfl⟩, hq⟩
    · exact hc.elim⟩)
theorem exts_ok : ValidF Tryd.prog gl0 41 cExts := by
  refine valid_id (enters_of (by kernel_rfl)) gl0_noY fun args H Q hc => ?_
  unfold cExts at hc
  split at hc
  · rename_i s p sq ti ss l sh
    cases hb : Nat.ble s.length 1000000
    · rw [hb] at hc; exact hc.elim
    · rw [hb] at hc
      rw [Nat.ble_eq] at hb
      obtain ⟨hv, hb', h⟩ := exts_a p s hb sq ti ss l sh (fun o H' _ => (heapM sq ti ss .nils true l sh []).map (·.k) = (H'.map (·.k)).take 4 ∧ (∀ b ∈ H', noYL b.cs = true ∧ b.k ≠ .ro) ∧ (∃ v, o = .ret v ∧ noY v = true) ∧ Q o H')
        (fun bad he => ⟨rfl, by simp [zeroMedM, noYL, noY], ⟨_, rfl, rfl⟩, (hc [] bad ⟨he⟩).1 ⟨rfl⟩⟩)
        (fun x ex bad he => ⟨rfl, by simp [zeroMedM, noYL, noY, (flatL_ok (flat_cX (x :: ex))).2, (flatL_ok (flat_cX [x])).2], ⟨_, rfl, rfl⟩, (hc (x :: ex) bad ⟨he⟩).2 x ⟨by simp⟩⟩)
      exact ⟨rfl, rfl, by simp [oldL, old, noYL, noY], _, 1000, ⟨mixed23, names23, tabA_ok, smDC_ok⟩, rfl, h⟩
  · rename_i s p sq ti ss n n1 l sh c4 c5
    cases hb : Nat.ble s.length 1000000
    · rw [hb] at hc; exact hc.elim
    · rw [hb] at hc
      rw [Nat.ble_eq] at hb
      simp only [cond_true] at hc
      cases hb2 : Nat.beq n n1 && flatLM c5
      · rw [hb2] at hc; exact hc.elim
      · rw [hb2] at hc
        simp only [Bool.and_eq_true, nbeq] at hb2
        obtain ⟨rfl, hb4⟩ := hb2
        obtain ⟨f1, f2⟩ := flatL_ok hb4
        obtain ⟨hv, hb', h⟩ := exts_b p s hb sq ti ss n l sh [.int .i64 c4] c5 (fun o H' _ => (heapM sq ti ss (.sl 5 n 0 n 1) false l sh [⟨.exact, true, [.int .i64 c4]⟩, ⟨.grow, true, c5⟩]).map (·.k) = (H'.map (·.k)).take 6 ∧ (∀ b ∈ H', noYL b.cs = true ∧ b.k ≠ .ro) ∧ (∃ v, o = .ret v ∧ noY v = true) ∧ Q o H')
          (fun bad he => ⟨rfl, by simp [zeroMedM, noYL, noY, f2], ⟨_, rfl, rfl⟩, (hc [] bad ⟨he⟩).1 ⟨rfl⟩⟩)
          (fun x ex bad he => ⟨rfl, by simp [zeroMedM, noYL, noY, f2, (flatL_ok (flat_cX (x :: ex))).2, (flatL_ok (flat_cX [x])).2], ⟨_, rfl, rfl⟩, (hc (x :: ex) bad ⟨he⟩).2 x ⟨by simp⟩⟩)
        exact ⟨rfl, rfl, by simp [oldL, old, noYL, noY, f1, f2, oldL_up 6 c5 f1], _, 1000, ⟨mixed23, names23, tabA_ok, smDC_ok⟩, rfl, h⟩
  · exact hc.elim
/-! ## Decode -/
theorem smDD_ok : ∀ f g, smDD f = some g → ValidF Tryd.prog gl0 f g := lookS_ok _ (by
  simp only [List.mem_cons, List.not_mem_nil, or_false, forall_eq_or_imp, forall_eq]
  exact ⟨take_ok, exts_ok, trimS_ok⟩)
def decK : AV → AV
  | .tup [a, e] => .tup [aggK a, e]
  | v => v
theorem wk_decK (v : AV) : wk v (decK v) := by
  unfold decK
  split
  · exact wk_tup (wkL_cons (wk_aggK _) (wkL_cons (wk_refl _) wkL_nil))
  · exact wk_refl _
def cDecode : Con
  | [.str s], H, K => bif Nat.ble s.length 9223372036854775807 then
      ∀ (mk : Bool) (ty sq ti ss : Int) (cs : List Int) (ex : List Xt) (p : Int) (y : List UInt8) (e : Int), Lf (decM s = (mk, ty, sq, ti, ss, cs, ex, p, y, e)) → K (.ret (.tup [.agg [.bool mk, .int .i64 ty, .int .i64 sq, .int .i64 ti, .int .i64 ss, .lst 0 (cellsI cs) cs.length 1, .lst 0 (cellsXM ex) ex.length 2, .int .i64 p, .str y], .int .i64 e])) H
      else False
  | _, _, _ => False
theorem decode_ok : ValidF Tryd.prog gl0 21 cDecode := by
  refine valid_frz (enters_of (by kernel_rfl)) gl0_noY 10 decK wk_decK fun args H Q hc => ?_
  unfold cDecode at hc
  split at hc
  · rename_i s
    cases hb : Nat.ble s.length 9223372036854775807
    · rw [hb] at hc; exact hc.elim
    · rw [hb] at hc
      rw [Nat.ble_eq] at hb
      obtain ⟨hv, hb', h⟩ := decode_run s hb (fun o H' _ => ∃ v, o = .ret v ∧ Q (.ret (decK (frzV 0 H' 10 v))) H) (fun mk ty sq ti ss a b cs ex p y e H' e1 e2 he => ⟨_, rfl, by
        have := hc mk ty sq ti ss cs ex p y e ⟨he⟩
        unfold okC at e1
        unfold okE at e2
        rw [← e1, ← e2] at this
        exact this⟩)
      exact ⟨rfl, rfl, _, 1000, ⟨mixed23, names23, tabA_ok, smDD_ok⟩, rfl, h⟩
  · exact hc.elim
end Go.Proofs.YtbchmkhliehbfaaDoor

/-
  Chapter 01 (OctetsDigits): Hex and Unhex of the program.
-/
import Derived.Test.YthaapjfnadfmgaaDoorD01A
set_option linter.unusedSimpArgs false
set_option linter.unusedVariables false
set_option linter.unusedSectionVars false
namespace Go.Proofs.YthaapjfnadfmgaaDoor
open Go.RowKit
set_option maxRecDepth 1000000

/-- a digit's octet, and an octet's digit -/
def digM (n : Nat) : UInt8 := if n < 10 then UInt8.ofNat (48 + n) else UInt8.ofNat (87 + n)
def valM (c : UInt8) : Int := if 48 ≤ c.toNat ∧ c.toNat ≤ 57 then ((c.toNat - 48 : Nat) : Int) else if 97 ≤ c.toNat ∧ c.toNat ≤ 102 then ((c.toNat - 87 : Nat) : Int) else -1
def hexM : List UInt8 → List UInt8
  | [] => []
  | c :: l => digM (c.toNat / 16) :: digM (c.toNat % 16) :: hexM l
def digitsM : List AV := [.int .u8 48, .int .u8 49, .int .u8 50, .int .u8 51, .int .u8 52, .int .u8 53, .int .u8 54, .int .u8 55, .int .u8 56, .int .u8 57, .int .u8 97, .int .u8 98, .int .u8 99, .int .u8 100, .int .u8 101, .int .u8 102]
def inv_5 (s : List UInt8) (t : S) : List (List LInv) := [[
  { α := Nat, pre := fun i => Lf (i = 0), st := fun i => ⟨mkT [(0, .str s), (3, t.tm.get 3), (4, .nils), (8, t.tm.get 8), (9, .int .i64 0)], t.hp⟩, mu := fun i => s.length + 1 },
  { α := Nat, pre := fun i => Lf (1 ≤ i ∧ i ≤ s.length), st := fun i => ⟨mkT [(0, .str s), (3, t.tm.get 3), (4, .sl 2 (2 * i) 0 (2 * i) 1), (8, t.tm.get 8), (9, .int .i64 (i : Nat))], t.hp ++ [⟨.exact, true, ofBytes (hexM (s.take 1))⟩, ⟨.grow, true, ofBytes (hexM (s.take i))⟩]⟩, mu := fun i => s.length - i }]]
noncomputable def env_5 (hv : Nat → Option Pa) (hb : Nat → Option Bool) (s : List UInt8) : Env := e01 sm0 (fun i => bif Nat.beq i 5000 then some (inv_5 s) else none) hv hb
noncomputable def goal_5 (hv : Nat → Option Pa) (hb : Nat → Option Bool) (s : List UInt8) (Q : Out → List Blk → Gh → Prop) : Prop :=
  callx (env_5 hv hb s) (wpx (env_5 hv hb s) 1000) 5 [.str s] [] {} Q
def vc_5_1 : Prop := (
((((AV.int .u8 (48 : Int)) :: ((AV.int .u8 (49 : Int)) :: ((AV.int .u8 (50 : Int)) :: ((AV.int .u8 (51 : Int)) :: ((AV.int .u8 (52 : Int)) :: ((AV.int .u8 (53 : Int)) :: ((AV.int .u8 (54 : Int)) :: ((AV.int .u8 (55 : Int)) :: ((AV.int .u8 (56 : Int)) :: ((AV.int .u8 (57 : Int)) :: ((AV.int .u8 (97 : Int)) :: ((AV.int .u8 (98 : Int)) :: ((AV.int .u8 (99 : Int)) :: ((AV.int .u8 (100 : Int)) :: ((AV.int .u8 (101 : Int)) :: ((AV.int .u8 (102 : Int)) :: [])))))))))))))))) = ((AV.int .u8 (48 : Int)) :: ((AV.int .u8 (49 : Int)) :: ((AV.int .u8 (50 : Int)) :: ((AV.int .u8 (51 : Int)) :: ((AV.int .u8 (52 : Int)) :: ((AV.int .u8 (53 : Int)) :: ((AV.int .u8 (54 : Int)) :: ((AV.int .u8 (55 : Int)) :: ((AV.int .u8 (56 : Int)) :: ((AV.int .u8 (57 : Int)) :: ((AV.int .u8 (97 : Int)) :: ((AV.int .u8 (98 : Int)) :: ((AV.int .u8 (99 : Int)) :: ((AV.int .u8 (100 : Int)) :: ((AV.int .u8 (101 : Int)) :: ((AV.int .u8 (102 : Int)) :: []))))))))))))))))) ∧
 False))
theorem vc_5 (s : List UInt8) (Q : Out → List Blk → Gh → Prop) : goal_5 (lookV [(20488, .int .i64), (20495, .int .u8), (20496, .int .u8), (20498, .int .u8), (20501, .int .u8), (20502, .int .u8), (20504, .int .u8), (20491, .int .i64), (20507, .int .i64), (20509, .str)]) (lookB []) s Q = (
(∃ n_0 : Int, (((AV.int .i64 (Nat.cast (List.length s) : Int)) = (AV.int .i64 n_0)) ∧
 (((∃ x_1 : Nat, ((Lf (x_1 = (0 : Nat))) ∧
 ((((AV.int .u8 (48 : Int)) :: ((AV.int .u8 (49 : Int)) :: ((AV.int .u8 (50 : Int)) :: ((AV.int .u8 (51 : Int)) :: ((AV.int .u8 (52 : Int)) :: ((AV.int .u8 (53 : Int)) :: ((AV.int .u8 (54 : Int)) :: ((AV.int .u8 (55 : Int)) :: ((AV.int .u8 (56 : Int)) :: ((AV.int .u8 (57 : Int)) :: ((AV.int .u8 (97 : Int)) :: ((AV.int .u8 (98 : Int)) :: ((AV.int .u8 (99 : Int)) :: ((AV.int .u8 (100 : Int)) :: ((AV.int .u8 (101 : Int)) :: ((AV.int .u8 (102 : Int)) :: [])))))))))))))))) = ((AV.int .u8 (48 : Int)) :: ((AV.int .u8 (49 : Int)) :: ((AV.int .u8 (50 : Int)) :: ((AV.int .u8 (51 : Int)) :: ((AV.int .u8 (52 : Int)) :: ((AV.int .u8 (53 : Int)) :: ((AV.int .u8 (54 : Int)) :: ((AV.int .u8 (55 : Int)) :: ((AV.int .u8 (56 : Int)) :: ((AV.int .u8 (57 : Int)) :: ((AV.int .u8 (97 : Int)) :: ((AV.int .u8 (98 : Int)) :: ((AV.int .u8 (99 : Int)) :: ((AV.int .u8 (100 : Int)) :: ((AV.int .u8 (101 : Int)) :: ((AV.int .u8 (102 : Int)) :: []))))))))))))))))) ∧
 (((AV.str s) = (AV.str s)) ∧
 (((AV.ptr (0 : Nat) (16 : Nat) (0 : Nat)) = (AV.ptr (0 : Nat) (16 : Nat) (0 : Nat))) ∧
 (((AV.int .i64 (0 : Int)) = (AV.int .i64 (0 : Int))) ∧
 ((AV.nils = AV.nils) ∧
 (((AV.int .i64 n_0) = (AV.int .i64 n_0)) ∧
 True)))))))) ∨
 (∃ x_1 : Nat, ((Lf (((1 : Nat) ≤ x_1) ∧
 (x_1 ≤ (List.length s)))) ∧
 vc_5_1))) ∧
 ((∀ x_1 : Nat, ((Lf (x_1 = (0 : Nat))) →
(bif (decide ((0 : Int) < n_0)) then (∃ n_2 : Int, (((AV.int .i64 (0 : Int)) = (AV.int .i64 n_2)) ∧
 (bif ((decide ((0 : Int) ≤ n_2)) && (Nat.blt (Int.toNat n_2) (List.length s))) then (∃ n_3 : Int, (((AV.int .u8 (Nat.cast (UInt8.toNat (List.getD s (Int.toNat n_2) (UInt8.ofNat (0 : Nat)))) : Int)) = (AV.int .u8 n_3)) ∧
 (∃ n_4 : Int, (((AV.int .u8 (Int.fdiv n_3 (16 : Int))) = (AV.int .u8 n_4)) ∧
 (bif (((decide ((0 : Int) ≤ n_4)) && (Nat.blt (Int.toNat n_4) (16 : Nat))) && true) then (bif (Nat.blt ((0 : Nat) + ((Int.toNat n_4) * (1 : Nat))) (16 : Nat)) then (∃ n_5 : Int, (((List.getD (List.take (1 : Nat) (List.drop ((0 : Nat) + ((Int.toNat n_4) * (1 : Nat))) ((AV.int .u8 (48 : Int)) :: ((AV.int .u8 (49 : Int)) :: ((AV.int .u8 (50 : Int)) :: ((AV.int .u8 (51 : Int)) :: ((AV.int .u8 (52 : Int)) :: ((AV.int .u8 (53 : Int)) :: ((AV.int .u8 (54 : Int)) :: ((AV.int .u8 (55 : Int)) :: ((AV.int .u8 (56 : Int)) :: ((AV.int .u8 (57 : Int)) :: ((AV.int .u8 (97 : Int)) :: ((AV.int .u8 (98 : Int)) :: ((AV.int .u8 (99 : Int)) :: ((AV.int .u8 (100 : Int)) :: ((AV.int .u8 (101 : Int)) :: ((AV.int .u8 (102 : Int)) :: [])))))))))))))))))) (0 : Nat) AV.undef) = (AV.int .u8 n_5)) ∧
 (bif ((decide ((0 : Int) ≤ n_2)) && (Nat.blt (Int.toNat n_2) (List.length s))) then (∃ n_6 : Int, (((AV.int .u8 (Nat.cast (UInt8.toNat (List.getD s (Int.toNat n_2) (UInt8.ofNat (0 : Nat)))) : Int)) = (AV.int .u8 n_6)) ∧
 (∃ n_7 : Int, (((AV.int .u8 (IntKind.wrap .u8 (Nat.cast ((Int.toNat (n_6 % (256 : Int))) &&& (15 : Nat)) : Int))) = (AV.int .u8 n_7)) ∧
 (bif (((decide ((0 : Int) ≤ n_7)) && (Nat.blt (Int.toNat n_7) (16 : Nat))) && true) then (bif (Nat.blt ((0 : Nat) + ((Int.toNat n_7) * (1 : Nat))) (16 : Nat)) then (∃ n_8 : Int, (((List.getD (List.take (1 : Nat) (List.drop ((0 : Nat) + ((Int.toNat n_7) * (1 : Nat))) ((AV.int .u8 (48 : Int)) :: ((AV.int .u8 (49 : Int)) :: ((AV.int .u8 (50 : Int)) :: ((AV.int .u8 (51 : Int)) :: ((AV.int .u8 (52 : Int)) :: ((AV.int .u8 (53 : Int)) :: ((AV.int .u8 (54 : Int)) :: ((AV.int .u8 (55 : Int)) :: ((AV.int .u8 (56 : Int)) :: ((AV.int .u8 (57 : Int)) :: ((AV.int .u8 (97 : Int)) :: ((AV.int .u8 (98 : Int)) :: ((AV.int .u8 (99 : Int)) :: ((AV.int .u8 (100 : Int)) :: ((AV.int .u8 (101 : Int)) :: ((AV.int .u8 (102 : Int)) :: [])))))))))))))))))) (0 : Nat) AV.undef) = (AV.int .u8 n_8)) ∧
 (∃ n_9 : Int, (((AV.int .i64 (1 : Int)) = (AV.int .i64 n_9)) ∧
 ((True ∧
 ((0 : Nat) = (0 : Nat))) ∧
 ((∃ y_10 : Nat, ((Lf (y_10 = (0 : Nat))) ∧
 ((((List.length s) + (1 : Nat)) < ((List.length s) + (1 : Nat))) ∧
 vc_5_1))) ∨
 (∃ y_10 : Nat, ((Lf (((1 : Nat) ≤ y_10) ∧
 (y_10 ≤ (List.length s)))) ∧
 ((((List.length s) - y_10) < ((List.length s) + (1 : Nat))) ∧
 ((((AV.int .u8 (48 : Int)) :: ((AV.int .u8 (49 : Int)) :: ((AV.int .u8 (50 : Int)) :: ((AV.int .u8 (51 : Int)) :: ((AV.int .u8 (52 : Int)) :: ((AV.int .u8 (53 : Int)) :: ((AV.int .u8 (54 : Int)) :: ((AV.int .u8 (55 : Int)) :: ((AV.int .u8 (56 : Int)) :: ((AV.int .u8 (57 : Int)) :: ((AV.int .u8 (97 : Int)) :: ((AV.int .u8 (98 : Int)) :: ((AV.int .u8 (99 : Int)) :: ((AV.int .u8 (100 : Int)) :: ((AV.int .u8 (101 : Int)) :: ((AV.int .u8 (102 : Int)) :: [])))))))))))))))) = ((AV.int .u8 (48 : Int)) :: ((AV.int .u8 (49 : Int)) :: ((AV.int .u8 (50 : Int)) :: ((AV.int .u8 (51 : Int)) :: ((AV.int .u8 (52 : Int)) :: ((AV.int .u8 (53 : Int)) :: ((AV.int .u8 (54 : Int)) :: ((AV.int .u8 (55 : Int)) :: ((AV.int .u8 (56 : Int)) :: ((AV.int .u8 (57 : Int)) :: ((AV.int .u8 (97 : Int)) :: ((AV.int .u8 (98 : Int)) :: ((AV.int .u8 (99 : Int)) :: ((AV.int .u8 (100 : Int)) :: ((AV.int .u8 (101 : Int)) :: ((AV.int .u8 (102 : Int)) :: []))))))))))))))))) ∧
 ((((AV.int .u8 n_5) :: ((AV.int .u8 n_8) :: [])) = (ofBytes (hexM (List.take (1 : Nat) s)))) ∧
 ((((AV.int .u8 n_5) :: ((AV.int .u8 n_8) :: [])) = (ofBytes (hexM (List.take y_10 s)))) ∧
 (((AV.str s) = (AV.str s)) ∧
 (((AV.ptr (0 : Nat) (16 : Nat) (0 : Nat)) = (AV.ptr (0 : Nat) (16 : Nat) (0 : Nat))) ∧
 (((AV.int .i64 n_9) = (AV.int .i64 (Nat.cast y_10 : Int))) ∧
 (((AV.sl (2 : Nat) (2 : Nat) (0 : Nat) (2 : Nat) (1 : Nat)) = (AV.sl (2 : Nat) ((2 : Nat) * y_10) (0 : Nat) ((2 : Nat) * y_10) (1 : Nat))) ∧
 (((AV.int .i64 n_0) = (AV.int .i64 n_0)) ∧
 True)))))))))))))))))
else False)
else False)))))
else False)))
else False)
else False)))))
else False)))
else (∃ s_2 : (List UInt8), (((AV.str []) = (AV.str s_2)) ∧
 (Q (Out.ret (AV.str s_2)) [] (Gh.mk (0 : Nat) (0 : Nat) []))))))) ∧
 (∀ x_1 : Nat, ((Lf (((1 : Nat) ≤ x_1) ∧
 (x_1 ≤ (List.length s)))) →
(bif (decide ((Nat.cast x_1 : Int) < n_0)) then (∃ n_2 : Int, (((AV.int .i64 (Nat.cast x_1 : Int)) = (AV.int .i64 n_2)) ∧
 (bif ((decide ((0 : Int) ≤ n_2)) && (Nat.blt (Int.toNat n_2) (List.length s))) then (∃ n_3 : Int, (((AV.int .u8 (Nat.cast (UInt8.toNat (List.getD s (Int.toNat n_2) (UInt8.ofNat (0 : Nat)))) : Int)) = (AV.int .u8 n_3)) ∧
 (∃ n_4 : Int, (((AV.int .u8 (Int.fdiv n_3 (16 : Int))) = (AV.int .u8 n_4)) ∧
 (bif (((decide ((0 : Int) ≤ n_4)) && (Nat.blt (Int.toNat n_4) (16 : Nat))) && true) then (bif (Nat.blt ((0 : Nat) + ((Int.toNat n_4) * (1 : Nat))) (16 : Nat)) then (∃ n_5 : Int, (((List.getD (List.take (1 : Nat) (List.drop ((0 : Nat) + ((Int.toNat n_4) * (1 : Nat))) ((AV.int .u8 (48 : Int)) :: ((AV.int .u8 (49 : Int)) :: ((AV.int .u8 (50 : Int)) :: ((AV.int .u8 (51 : Int)) :: ((AV.int .u8 (52 : Int)) :: ((AV.int .u8 (53 : Int)) :: ((AV.int .u8 (54 : Int)) :: ((AV.int .u8 (55 : Int)) :: ((AV.int .u8 (56 : Int)) :: ((AV.int .u8 (57 : Int)) :: ((AV.int .u8 (97 : Int)) :: ((AV.int .u8 (98 : Int)) :: ((AV.int .u8 (99 : Int)) :: ((AV.int .u8 (100 : Int)) :: ((AV.int .u8 (101 : Int)) :: ((AV.int .u8 (102 : Int)) :: [])))))))))))))))))) (0 : Nat) AV.undef) = (AV.int .u8 n_5)) ∧
 (bif ((decide ((0 : Int) ≤ n_2)) && (Nat.blt (Int.toNat n_2) (List.length s))) then (∃ n_6 : Int, (((AV.int .u8 (Nat.cast (UInt8.toNat (List.getD s (Int.toNat n_2) (UInt8.ofNat (0 : Nat)))) : Int)) = (AV.int .u8 n_6)) ∧
 (∃ n_7 : Int, (((AV.int .u8 (IntKind.wrap .u8 (Nat.cast ((Int.toNat (n_6 % (256 : Int))) &&& (15 : Nat)) : Int))) = (AV.int .u8 n_7)) ∧
 (bif (((decide ((0 : Int) ≤ n_7)) && (Nat.blt (Int.toNat n_7) (16 : Nat))) && true) then (bif (Nat.blt ((0 : Nat) + ((Int.toNat n_7) * (1 : Nat))) (16 : Nat)) then (∃ n_8 : Int, (((List.getD (List.take (1 : Nat) (List.drop ((0 : Nat) + ((Int.toNat n_7) * (1 : Nat))) ((AV.int .u8 (48 : Int)) :: ((AV.int .u8 (49 : Int)) :: ((AV.int .u8 (50 : Int)) :: ((AV.int .u8 (51 : Int)) :: ((AV.int .u8 (52 : Int)) :: ((AV.int .u8 (53 : Int)) :: ((AV.int .u8 (54 : Int)) :: ((AV.int .u8 (55 : Int)) :: ((AV.int .u8 (56 : Int)) :: ((AV.int .u8 (57 : Int)) :: ((AV.int .u8 (97 : Int)) :: ((AV.int .u8 (98 : Int)) :: ((AV.int .u8 (99 : Int)) :: ((AV.int .u8 (100 : Int)) :: ((AV.int .u8 (101 : Int)) :: ((AV.int .u8 (102 : Int)) :: [])))))))))))))))))) (0 : Nat) AV.undef) = (AV.int .u8 n_8)) ∧
 (bif (((((Nat.beq (List.length (ofBytes (hexM (List.take x_1 s)))) ((2 : Nat) * x_1)) && true) && (Nat.beq ((0 : Nat) + (((2 : Nat) * x_1) * (1 : Nat))) ((2 : Nat) * x_1))) && (Nat.ble (((2 : Nat) * x_1) + (2 : Nat)) (1099511627776 : Nat))) && (Nat.ble ((((2 : Nat) * x_1) + (2 : Nat)) * (1 : Nat)) (1099511627776 : Nat))) then (∃ n_9 : Int, (((AV.int .i64 (IntKind.wrap .i64 ((Nat.cast x_1 : Int) + (1 : Int)))) = (AV.int .i64 n_9)) ∧
 ((True ∧
 ((0 : Nat) = (0 : Nat))) ∧
 ((∃ y_10 : Nat, ((Lf (y_10 = (0 : Nat))) ∧
 ((((List.length s) + (1 : Nat)) < ((List.length s) - x_1)) ∧
 vc_5_1))) ∨
 (∃ y_10 : Nat, ((Lf (((1 : Nat) ≤ y_10) ∧
 (y_10 ≤ (List.length s)))) ∧
 ((((List.length s) - y_10) < ((List.length s) - x_1)) ∧
 ((((AV.int .u8 (48 : Int)) :: ((AV.int .u8 (49 : Int)) :: ((AV.int .u8 (50 : Int)) :: ((AV.int .u8 (51 : Int)) :: ((AV.int .u8 (52 : Int)) :: ((AV.int .u8 (53 : Int)) :: ((AV.int .u8 (54 : Int)) :: ((AV.int .u8 (55 : Int)) :: ((AV.int .u8 (56 : Int)) :: ((AV.int .u8 (57 : Int)) :: ((AV.int .u8 (97 : Int)) :: ((AV.int .u8 (98 : Int)) :: ((AV.int .u8 (99 : Int)) :: ((AV.int .u8 (100 : Int)) :: ((AV.int .u8 (101 : Int)) :: ((AV.int .u8 (102 : Int)) :: [])))))))))))))))) = ((AV.int .u8 (48 : Int)) :: ((AV.int .u8 (49 : Int)) :: ((AV.int .u8 (50 : Int)) :: ((AV.int .u8 (51 : Int)) :: ((AV.int .u8 (52 : Int)) :: ((AV.int .u8 (53 : Int)) :: ((AV.int .u8 (54 : Int)) :: ((AV.int .u8 (55 : Int)) :: ((AV.int .u8 (56 : Int)) :: ((AV.int .u8 (57 : Int)) :: ((AV.int .u8 (97 : Int)) :: ((AV.int .u8 (98 : Int)) :: ((AV.int .u8 (99 : Int)) :: ((AV.int .u8 (100 : Int)) :: ((AV.int .u8 (101 : Int)) :: ((AV.int .u8 (102 : Int)) :: []))))))))))))))))) ∧
 (((ofBytes (hexM (List.take (1 : Nat) s))) = (ofBytes (hexM (List.take (1 : Nat) s)))) ∧
 ((((ofBytes (hexM (List.take x_1 s))) ++ ((AV.int .u8 n_5) :: ((AV.int .u8 n_8) :: []))) = (ofBytes (hexM (List.take y_10 s)))) ∧
 (((AV.str s) = (AV.str s)) ∧
 (((AV.ptr (0 : Nat) (16 : Nat) (0 : Nat)) = (AV.ptr (0 : Nat) (16 : Nat) (0 : Nat))) ∧
 (((AV.int .i64 n_9) = (AV.int .i64 (Nat.cast y_10 : Int))) ∧
 (((AV.sl (2 : Nat) (((2 : Nat) * x_1) + (2 : Nat)) (0 : Nat) (((2 : Nat) * x_1) + (2 : Nat)) (1 : Nat)) = (AV.sl (2 : Nat) ((2 : Nat) * y_10) (0 : Nat) ((2 : Nat) * y_10) (1 : Nat))) ∧
 (((AV.int .i64 n_0) = (AV.int .i64 n_0)) ∧
 True)))))))))))))))
else False)))
else False)
else False)))))
else False)))
else False)
else False)))))
else False)))
else (bif ((((Nat.beq (List.length (ofBytes (hexM (List.take x_1 s)))) ((2 : Nat) * x_1)) && (Nat.ble ((0 : Nat) + ((2 : Nat) * x_1)) ((2 : Nat) * x_1))) && true) && (allU8 (List.take ((2 : Nat) * x_1) (List.drop (0 : Nat) (ofBytes (hexM (List.take x_1 s))))))) then (∃ s_2 : (List UInt8), (((AV.str (List.map toB (List.take ((2 : Nat) * x_1) (List.drop (0 : Nat) (ofBytes (hexM (List.take x_1 s))))))) = (AV.str s_2)) ∧
 (Q (Out.ret (AV.str s_2)) [] (Gh.mk (0 : Nat) (0 : Nat) []))))
else False))))))))) := by kernel_rfl

theorem ofB_len (l : List UInt8) : (ofBytes l).length = l.length := by simp [ofBytes]
theorem ofB_app (a b : List UInt8) : ofBytes a ++ ofBytes b = ofBytes (a ++ b) := by simp [ofBytes]
theorem toB_ofB (l : List UInt8) : (ofBytes l).map toB = l := by
  simp only [ofBytes, List.map_map]
  conv => rhs; rw [← List.map_id l]
  congr 1
  funext x
  simp [toB]

theorem allU8_ofB (l : List UInt8) : allU8 (ofBytes l) = true := by
  induction l with
  | nil => rfl
  | cons x l ih => simpa [ofBytes, allU8] using ih
theorem strE {X : List UInt8} {c : List AV} {n1 n2 : Nat} (hc : c = ofBytes X) (h1 : n1 = X.length) (h2 : n2 = X.length) {K : List UInt8 → Prop} (h : K X) : bif ((((Nat.beq c.length n1) && (Nat.ble (0 + n2) n1)) && true) && allU8 (List.take n2 (List.drop 0 c))) then (∃ s : List UInt8, AV.str (List.map toB (List.take n2 (List.drop 0 c))) = AV.str s ∧ K s) else False := by
  subst hc h1 h2
  have e : List.take X.length (List.drop 0 (ofBytes X)) = ofBytes X := by rw [List.drop_zero, List.take_of_length_le (by rw [ofB_len]; omega)]
  rw [e, allU8_ofB, toB_ofB, ofB_len]
  refine ckI ?_ ⟨_, rfl, h⟩
  simp

theorem and15 : ∀ m : Nat, m < 256 → m &&& 15 = m % 16 := by decide
theorem or16 (a b : Nat) (hb : b < 16) : a * 16 ||| b = a * 16 + b := by
  have := Nat.two_pow_add_eq_or_of_lt (i := 4) hb a
  rw [show (2 : Nat) ^ 4 = 16 from rfl, Nat.mul_comm 16 a] at this
  exact this.symm
theorem dig_nat : ∀ k : Nat, k < 16 → (digM k).toNat = if k < 10 then 48 + k else 87 + k := by decide
theorem get16 (k : Nat) (hk : k < 16) : digitsM.getD k AV.undef = AV.int .u8 ((digM k).toNat : Int) := by
  obtain rfl | rfl | rfl | rfl | rfl | rfl | rfl | rfl | rfl | rfl | rfl | rfl | rfl | rfl | rfl | rfl : k = 0 ∨ k = 1 ∨ k = 2 ∨ k = 3 ∨ k = 4 ∨ k = 5 ∨ k = 6 ∨ k = 7 ∨ k = 8 ∨ k = 9 ∨ k = 10 ∨ k = 11 ∨ k = 12 ∨ k = 13 ∨ k = 14 ∨ k = 15 := by omega
  all_goals rfl
theorem get16a {j k : Nat} (hk : k < 16) (hj : j = k) {K : Int → Prop} (h : K ((digM k).toNat : Int)) : ∃ n : Int, digitsM.getD j AV.undef = AV.int .u8 n ∧ K n := by
  subst hj
  exact ⟨_, get16 j hk, h⟩
theorem get16b {j k : Nat} (hk : k < 16) (hj : j = k) {K : Int → Prop} (h : K ((digM k).toNat : Int)) : ∃ n : Int, List.getD (List.take 1 (List.drop j digitsM)) 0 AV.undef = AV.int .u8 n ∧ K n := by
  subst hj
  refine ⟨_, ?_, h⟩
  rw [← get16 j hk]
  simp [List.getD, List.getElem?_take, List.getElem?_drop]
theorem hex_app (a b : List UInt8) : hexM (a ++ b) = hexM a ++ hexM b := by
  induction a with
  | nil => rfl
  | cons c a ih => simp [hexM, ih]
theorem hex_len : ∀ l : List UInt8, (hexM l).length = 2 * l.length
  | [] => rfl
  | c :: l => by simp [hexM, hex_len l]; omega
theorem take_snoc {s : List UInt8} {i : Nat} (h : i < s.length) : s.take (i + 1) = s.take i ++ [s.getD i (UInt8.ofNat 0)] := by
  rw [List.take_add_one, List.getElem?_eq_getElem h]
  simp [List.getD, h]
theorem hex_run (s : List UInt8) (hs : s.length ≤ 1000000) (Q : Out → List Blk → Gh → Prop) (hq : Q (.ret (.str (hexM s))) [] {}) : ∃ hv hb, goal_5 hv hb s Q := by
  obtain ⟨hv, hb', e⟩ : ∃ hv hb, goal_5 hv hb s Q = _ := ⟨_, _, vc_5 s Q⟩
  refine ⟨hv, hb', e.mpr ?_⟩
  clear e
  have hd : ∀ i : Nat, Int.fdiv (((s.getD i (UInt8.ofNat 0)).toNat : Nat) : Int) 16 = (((s.getD i (UInt8.ofNat 0)).toNat / 16 : Nat) : Int) := fun i => by
    rw [Int.fdiv_eq_ediv_of_nonneg _ (by omega)]; omega
  have hlt : ∀ i : Nat, (s.getD i (UInt8.ofNat 0)).toNat < 256 := fun i => (s.getD i (UInt8.ofNat 0)).toNat_lt
  have he : ∀ i : Nat, Int.toNat ((((s.getD i (UInt8.ofNat 0)).toNat : Nat) : Int) % 256) &&& 15 = (s.getD i (UInt8.ofNat 0)).toNat % 16 := fun i => by
    have := hlt i
    rw [show Int.toNat ((((s.getD i (UInt8.ofNat 0)).toNat : Nat) : Int) % 256) = (s.getD i (UInt8.ofNat 0)).toNat by omega, and15 _ (by omega)]
  have hH : ∀ i, i < s.length → hexM (s.take (i + 1)) = hexM (s.take i) ++ [digM ((s.getD i (UInt8.ofNat 0)).toNat / 16), digM ((s.getD i (UInt8.ofNat 0)).toNat % 16)] := fun i hi => by
    rw [take_snoc hi, hex_app]; rfl
  refine ⟨_, rfl, .inl ⟨0, ⟨rfl⟩, rfl, rfl, rfl, rfl, rfl, rfl, trivial⟩, ?_, ?_⟩
  · rintro _ ⟨rfl⟩
    refine splitD (fun h => ?_) (fun h => ?_)
    · have h0 : 0 < s.length := by omega
      have l0 := hlt 0
      have hd0 := hd 0
      have he0 := he 0
      have hH0 := hH 0 h0
      clear hd he hH hlt
      refine ⟨_, rfl, ckI (by simp; omega) ⟨_, rfl, ?_⟩⟩
      rw [show Int.toNat 0 = 0 from rfl]
      generalize (List.getD s 0 (UInt8.ofNat 0)).toNat = c at *
      rw [hd0]
      refine ⟨_, rfl, ckI (by simp; omega) (ckI (by simp; omega) (get16b (k := c / 16) (by omega) (by omega) (ckI (by simp; omega) ⟨_, rfl, ?_⟩)))⟩
      rw [he0]
      refine wrapU8 (by omega) (by omega) (ckI (by simp; omega) (ckI (by simp; omega) (get16b (k := c % 16) (by omega) (by omega) ⟨_, rfl, ⟨trivial, rfl⟩, .inr ⟨1, ⟨by omega, by omega⟩, by omega, rfl, ?_, ?_, rfl, rfl, rfl, rfl, rfl, trivial⟩⟩)))
      · rw [hH0]; rfl
      · rw [hH0]; rfl
    · have : s = [] := List.length_eq_zero_iff.1 (by omega)
      subst this
      exact ⟨[], rfl, hq⟩
  · rintro i ⟨h1, h2⟩
    have hl : (hexM (s.take i)).length = 2 * i := by rw [hex_len, List.length_take]; omega
    refine splitD (fun h => ?_) (fun h => ?_)
    · have h0 : i < s.length := by omega
      have l0 := hlt i
      have hd0 := hd i
      have he0 := he i
      have hH0 := hH i h0
      clear hd he hH hlt
      refine ⟨_, rfl, ckI (by simp; omega) ⟨_, rfl, ?_⟩⟩
      rw [Int.toNat_natCast]
      generalize (List.getD s i (UInt8.ofNat 0)).toNat = c at *
      rw [hd0]
      refine ⟨_, rfl, ckI (by simp; omega) (ckI (by simp; omega) (get16b (k := c / 16) (by omega) (by omega) (ckI (by simp; omega) ⟨_, rfl, ?_⟩)))⟩
      rw [he0]
      refine wrapU8 (by omega) (by omega) (ckI (by simp; omega) (ckI (by simp; omega) (get16b (k := c % 16) (by omega) (by omega) (ckI (by rw [ofB_len, hl]; simp; omega) (wrapI (by omega) (by omega) ⟨⟨trivial, rfl⟩, .inr ⟨i + 1, ⟨by omega, by omega⟩, by omega, rfl, rfl, ?_, rfl, rfl, rfl, rfl, rfl, trivial⟩⟩)))))
      rw [hH0, ← ofB_app]; rfl
    · have : s.take i = s := List.take_of_length_le (by omega)
      rw [this] at hl ⊢
      exact strE rfl hl.symm hl.symm hq

/-! ## Unhex -/
/-- what a text means: pairs of digits, and whether all are digits -/
def unhM : List UInt8 → List UInt8
  | a :: b :: l => UInt8.ofNat ((valM a).toNat * 16 + (valM b).toNat) :: unhM l
  | [a] => [UInt8.ofNat ((valM a).toNat * 16)]
  | [] => []
def allM (l : List UInt8) : Bool := l.all fun c => decide (0 ≤ valM c)
def fndM (c : UInt8) (j : Nat) : Int := if 0 ≤ valM c ∧ valM c < (j : Int) then valM c else -1
def inv_7a (s : List UInt8) (t : S) : List (List LInv) := [[
  { α := Nat, pre := fun i => Lf (i = 0), st := fun i => ⟨mkT [(0, .str s), (4, .nils), (5, .int .i64 0), (11, t.tm.get 11), (12, .int .i64 0)], t.hp⟩, mu := fun i => s.length + 1 },
  { α := Nat, pre := fun i => Lf (1 ≤ i ∧ i ≤ s.length ∧ allM (s.take i) = true), st := fun i => ⟨mkT [(0, .str s), (4, .sl 1 ((i + 1) / 2) 0 ((i + 1) / 2) 1), (5, .int .i64 0), (11, t.tm.get 11), (12, .int .i64 (i : Nat))], t.hp ++ [⟨.exact, true, ofBytes (unhM (s.take 1))⟩, ⟨.grow, true, ofBytes (unhM (s.take i))⟩]⟩, mu := fun i => s.length - i }]]
def inv_7b (s : List UInt8) (t : S) : List (List LInv) := match t.tm.get 6 with
  | .int _ i => [[{ α := Nat, pre := fun j => Lf (j ≤ 16), st := fun j => ⟨mkT [(0, .str s), (4, t.tm.get 4), (5, t.tm.get 5), (6, t.tm.get 6), (7, .int .i64 (fndM (s.getD i.toNat 0) j)), (11, t.tm.get 11), (12, t.tm.get 12), (15, t.tm.get 15), (16, .int .i64 (j : Nat))], t.hp⟩, mu := fun j => 16 - j }]]
  | _ => []
noncomputable def env_7 (hv : Nat → Option Pa) (hb : Nat → Option Bool) (s : List UInt8) : Env := e01 sm0 (fun i => bif Nat.beq i 7000 then some (inv_7a s) else bif Nat.beq i 7002 then some (inv_7b s) else none) hv hb
noncomputable def goal_7 (hv : Nat → Option Pa) (hb : Nat → Option Bool) (s : List UInt8) (Q : Out → List Blk → Gh → Prop) : Prop :=
  callx (env_7 hv hb s) (wpx (env_7 hv hb s) 1000) 7 [.str s] [] {} Q
theorem vc_7 (s : List UInt8) (Q : Out → List Blk → Gh → Prop) : goal_7 (lookV [(28683, .int .i64), (28690, .int .i64), (28691, .int .u8), (28695, .int .u8), (28698, .int .i64), (28709, .int .i64), (28716, .int .i64), (28717, .int .i64), (28718, .int .u8), (28726, .int .i64), (28727, .int .i64), (28686, .int .i64), (28713, .int .i64), (28721, .int .i64), (28701, .int .i64), (28703, .int .u8), (28704, .int .i64), (28705, .int .u8), (28706, .int .u8), (28731, .str)]) (lookB []) s Q = (
(∃ n_0 : Int, (((AV.int .i64 (Nat.cast (List.length s) : Int)) = (AV.int .i64 n_0)) ∧
 (((∃ x_1 : Nat, ((Lf (x_1 = (0 : Nat))) ∧
 (((AV.str s) = (AV.str s)) ∧
 (((AV.int .i64 n_0) = (AV.int .i64 n_0)) ∧
 (((AV.int .i64 (0 : Int)) = (AV.int .i64 (0 : Int))) ∧
 ((AV.nils = AV.nils) ∧
 (((AV.int .i64 (0 : Int)) = (AV.int .i64 (0 : Int))) ∧
 True))))))) ∨
 (∃ x_1 : Nat, ((Lf (((1 : Nat) ≤ x_1) ∧
 ((x_1 ≤ (List.length s)) ∧
 ((allM (List.take x_1 s)) = true)))) ∧
 False))) ∧
 ((∀ x_1 : Nat, ((Lf (x_1 = (0 : Nat))) →
(bif (decide ((0 : Int) < n_0)) then (∃ n_2 : Int, (((AV.int .i64 (0 : Int)) = (AV.int .i64 n_2)) ∧
 ((∃ x_3 : Nat, ((Lf (x_3 ≤ (16 : Nat))) ∧
 (((AV.str s) = (AV.str s)) ∧
 (((AV.int .i64 (- (1 : Int))) = (AV.int .i64 (fndM (List.getD s (Int.toNat n_2) (UInt8.ofNat (0 : Nat))) x_3))) ∧
 (((AV.agg ((AV.int .u8 (48 : Int)) :: ((AV.int .u8 (49 : Int)) :: ((AV.int .u8 (50 : Int)) :: ((AV.int .u8 (51 : Int)) :: ((AV.int .u8 (52 : Int)) :: ((AV.int .u8 (53 : Int)) :: ((AV.int .u8 (54 : Int)) :: ((AV.int .u8 (55 : Int)) :: ((AV.int .u8 (56 : Int)) :: ((AV.int .u8 (57 : Int)) :: ((AV.int .u8 (97 : Int)) :: ((AV.int .u8 (98 : Int)) :: ((AV.int .u8 (99 : Int)) :: ((AV.int .u8 (100 : Int)) :: ((AV.int .u8 (101 : Int)) :: ((AV.int .u8 (102 : Int)) :: []))))))))))))))))) = (AV.agg ((AV.int .u8 (48 : Int)) :: ((AV.int .u8 (49 : Int)) :: ((AV.int .u8 (50 : Int)) :: ((AV.int .u8 (51 : Int)) :: ((AV.int .u8 (52 : Int)) :: ((AV.int .u8 (53 : Int)) :: ((AV.int .u8 (54 : Int)) :: ((AV.int .u8 (55 : Int)) :: ((AV.int .u8 (56 : Int)) :: ((AV.int .u8 (57 : Int)) :: ((AV.int .u8 (97 : Int)) :: ((AV.int .u8 (98 : Int)) :: ((AV.int .u8 (99 : Int)) :: ((AV.int .u8 (100 : Int)) :: ((AV.int .u8 (101 : Int)) :: ((AV.int .u8 (102 : Int)) :: [])))))))))))))))))) ∧
 (((AV.int .i64 n_0) = (AV.int .i64 n_0)) ∧
 (((AV.int .i64 (0 : Int)) = (AV.int .i64 (0 : Int))) ∧
 ((AV.nils = AV.nils) ∧
 (((AV.int .i64 (0 : Int)) = (AV.int .i64 (Nat.cast x_3 : Int))) ∧
 (((AV.int .i64 (0 : Int)) = (AV.int .i64 (0 : Int))) ∧
 (((AV.int .i64 n_2) = (AV.int .i64 n_2)) ∧
 True))))))))))) ∧
 (∀ x_3 : Nat, ((Lf (x_3 ≤ (16 : Nat))) →
(bif (decide ((Nat.cast x_3 : Int) < (16 : Int))) then (∃ n_4 : Int, (((AV.int .i64 (Nat.cast x_3 : Int)) = (AV.int .i64 n_4)) ∧
 (bif ((Nat.blt (Int.toNat (Nat.cast x_3 : Int)) (16 : Nat)) && (Nat.blt ((Int.toNat (Nat.cast x_3 : Int)) * (1 : Nat)) (16 : Nat))) then (∃ n_5 : Int, (((List.getD ((AV.int .u8 (48 : Int)) :: ((AV.int .u8 (49 : Int)) :: ((AV.int .u8 (50 : Int)) :: ((AV.int .u8 (51 : Int)) :: ((AV.int .u8 (52 : Int)) :: ((AV.int .u8 (53 : Int)) :: ((AV.int .u8 (54 : Int)) :: ((AV.int .u8 (55 : Int)) :: ((AV.int .u8 (56 : Int)) :: ((AV.int .u8 (57 : Int)) :: ((AV.int .u8 (97 : Int)) :: ((AV.int .u8 (98 : Int)) :: ((AV.int .u8 (99 : Int)) :: ((AV.int .u8 (100 : Int)) :: ((AV.int .u8 (101 : Int)) :: ((AV.int .u8 (102 : Int)) :: [])))))))))))))))) ((Int.toNat (Nat.cast x_3 : Int)) * (1 : Nat)) AV.undef) = (AV.int .u8 n_5)) ∧
 (bif ((decide ((0 : Int) ≤ n_2)) && (Nat.blt (Int.toNat n_2) (List.length s))) then (∃ n_6 : Int, (((AV.int .u8 (Nat.cast (UInt8.toNat (List.getD s (Int.toNat n_2) (UInt8.ofNat (0 : Nat)))) : Int)) = (AV.int .u8 n_6)) ∧
 (bif (n_5 == n_6) then (∃ n_7 : Int, (((AV.int .i64 (IntKind.wrap .i64 ((Nat.cast x_3 : Int) + (1 : Int)))) = (AV.int .i64 n_7)) ∧
 ((True ∧
 ((0 : Nat) = (0 : Nat))) ∧
 (∃ y_8 : Nat, ((Lf (y_8 ≤ (16 : Nat))) ∧
 ((((16 : Nat) - y_8) < ((16 : Nat) - x_3)) ∧
 (((AV.str s) = (AV.str s)) ∧
 (((AV.int .i64 n_4) = (AV.int .i64 (fndM (List.getD s (Int.toNat n_2) (UInt8.ofNat (0 : Nat))) y_8))) ∧
 (((AV.agg ((AV.int .u8 (48 : Int)) :: ((AV.int .u8 (49 : Int)) :: ((AV.int .u8 (50 : Int)) :: ((AV.int .u8 (51 : Int)) :: ((AV.int .u8 (52 : Int)) :: ((AV.int .u8 (53 : Int)) :: ((AV.int .u8 (54 : Int)) :: ((AV.int .u8 (55 : Int)) :: ((AV.int .u8 (56 : Int)) :: ((AV.int .u8 (57 : Int)) :: ((AV.int .u8 (97 : Int)) :: ((AV.int .u8 (98 : Int)) :: ((AV.int .u8 (99 : Int)) :: ((AV.int .u8 (100 : Int)) :: ((AV.int .u8 (101 : Int)) :: ((AV.int .u8 (102 : Int)) :: []))))))))))))))))) = (AV.agg ((AV.int .u8 (48 : Int)) :: ((AV.int .u8 (49 : Int)) :: ((AV.int .u8 (50 : Int)) :: ((AV.int .u8 (51 : Int)) :: ((AV.int .u8 (52 : Int)) :: ((AV.int .u8 (53 : Int)) :: ((AV.int .u8 (54 : Int)) :: ((AV.int .u8 (55 : Int)) :: ((AV.int .u8 (56 : Int)) :: ((AV.int .u8 (57 : Int)) :: ((AV.int .u8 (97 : Int)) :: ((AV.int .u8 (98 : Int)) :: ((AV.int .u8 (99 : Int)) :: ((AV.int .u8 (100 : Int)) :: ((AV.int .u8 (101 : Int)) :: ((AV.int .u8 (102 : Int)) :: [])))))))))))))))))) ∧
 (((AV.int .i64 n_0) = (AV.int .i64 n_0)) ∧
 (((AV.int .i64 (0 : Int)) = (AV.int .i64 (0 : Int))) ∧
 ((AV.nils = AV.nils) ∧
 (((AV.int .i64 n_7) = (AV.int .i64 (Nat.cast y_8 : Int))) ∧
 (((AV.int .i64 (0 : Int)) = (AV.int .i64 (0 : Int))) ∧
 (((AV.int .i64 n_2) = (AV.int .i64 n_2)) ∧
 True)))))))))))))))
else (∃ n_7 : Int, (((AV.int .i64 (IntKind.wrap .i64 ((Nat.cast x_3 : Int) + (1 : Int)))) = (AV.int .i64 n_7)) ∧
 ((True ∧
 ((0 : Nat) = (0 : Nat))) ∧
 (∃ y_8 : Nat, ((Lf (y_8 ≤ (16 : Nat))) ∧
 ((((16 : Nat) - y_8) < ((16 : Nat) - x_3)) ∧
 (((AV.str s) = (AV.str s)) ∧
 (((AV.int .i64 (fndM (List.getD s (Int.toNat n_2) (UInt8.ofNat (0 : Nat))) x_3)) = (AV.int .i64 (fndM (List.getD s (Int.toNat n_2) (UInt8.ofNat (0 : Nat))) y_8))) ∧
 (((AV.agg ((AV.int .u8 (48 : Int)) :: ((AV.int .u8 (49 : Int)) :: ((AV.int .u8 (50 : Int)) :: ((AV.int .u8 (51 : Int)) :: ((AV.int .u8 (52 : Int)) :: ((AV.int .u8 (53 : Int)) :: ((AV.int .u8 (54 : Int)) :: ((AV.int .u8 (55 : Int)) :: ((AV.int .u8 (56 : Int)) :: ((AV.int .u8 (57 : Int)) :: ((AV.int .u8 (97 : Int)) :: ((AV.int .u8 (98 : Int)) :: ((AV.int .u8 (99 : Int)) :: ((AV.int .u8 (100 : Int)) :: ((AV.int .u8 (101 : Int)) :: ((AV.int .u8 (102 : Int)) :: []))))))))))))))))) = (AV.agg ((AV.int .u8 (48 : Int)) :: ((AV.int .u8 (49 : Int)) :: ((AV.int .u8 (50 : Int)) :: ((AV.int .u8 (51 : Int)) :: ((AV.int .u8 (52 : Int)) :: ((AV.int .u8 (53 : Int)) :: ((AV.int .u8 (54 : Int)) :: ((AV.int .u8 (55 : Int)) :: ((AV.int .u8 (56 : Int)) :: ((AV.int .u8 (57 : Int)) :: ((AV.int .u8 (97 : Int)) :: ((AV.int .u8 (98 : Int)) :: ((AV.int .u8 (99 : Int)) :: ((AV.int .u8 (100 : Int)) :: ((AV.int .u8 (101 : Int)) :: ((AV.int .u8 (102 : Int)) :: [])))))))))))))))))) ∧
 (((AV.int .i64 n_0) = (AV.int .i64 n_0)) ∧
 (((AV.int .i64 (0 : Int)) = (AV.int .i64 (0 : Int))) ∧
 ((AV.nils = AV.nils) ∧
 (((AV.int .i64 n_7) = (AV.int .i64 (Nat.cast y_8 : Int))) ∧
 (((AV.int .i64 (0 : Int)) = (AV.int .i64 (0 : Int))) ∧
 (((AV.int .i64 n_2) = (AV.int .i64 n_2)) ∧
 True))))))))))))))))))
else False)))
else False)))
else (∃ n_4 : Int, (((AV.int .i64 (fndM (List.getD s (Int.toNat n_2) (UInt8.ofNat (0 : Nat))) x_3)) = (AV.int .i64 n_4)) ∧
 (bif (decide (n_4 < (0 : Int))) then (Q (Out.ret (AV.tup ((AV.str []) :: ((AV.int .i64 (5 : Int)) :: [])))) [] (Gh.mk (0 : Nat) (0 : Nat) []))
else (∃ n_5 : Int, (((AV.int .i64 (Int.tmod n_2 (2 : Int))) = (AV.int .i64 n_5)) ∧
 (bif (n_5 == (0 : Int)) then (∃ n_6 : Int, (((AV.int .i64 (fndM (List.getD s (Int.toNat n_2) (UInt8.ofNat (0 : Nat))) x_3)) = (AV.int .i64 n_6)) ∧
 (∃ n_7 : Int, (((AV.int .i64 (IntKind.wrap .i64 (n_6 * (16 : Int)))) = (AV.int .i64 n_7)) ∧
 (∃ n_8 : Int, (((AV.int .u8 (IntKind.wrap .u8 n_7)) = (AV.int .u8 n_8)) ∧
 (∃ n_9 : Int, (((AV.int .i64 (1 : Int)) = (AV.int .i64 n_9)) ∧
 ((True ∧
 ((0 : Nat) = (0 : Nat))) ∧
 ((∃ y_10 : Nat, ((Lf (y_10 = (0 : Nat))) ∧
 ((((List.length s) + (1 : Nat)) < ((List.length s) + (1 : Nat))) ∧
 False))) ∨
 (∃ y_10 : Nat, ((Lf (((1 : Nat) ≤ y_10) ∧
 ((y_10 ≤ (List.length s)) ∧
 ((allM (List.take y_10 s)) = true)))) ∧
 ((((List.length s) - y_10) < ((List.length s) + (1 : Nat))) ∧
 ((((AV.int .u8 n_8) :: []) = (ofBytes (unhM (List.take (1 : Nat) s)))) ∧
 ((((AV.int .u8 n_8) :: []) = (ofBytes (unhM (List.take y_10 s)))) ∧
 (((AV.str s) = (AV.str s)) ∧
 (((AV.int .i64 n_0) = (AV.int .i64 n_0)) ∧
 (((AV.int .i64 (0 : Int)) = (AV.int .i64 (0 : Int))) ∧
 (((AV.sl (1 : Nat) (1 : Nat) (0 : Nat) (1 : Nat) (1 : Nat)) = (AV.sl (1 : Nat) ((y_10 + (1 : Nat)) / (2 : Nat)) (0 : Nat) ((y_10 + (1 : Nat)) / (2 : Nat)) (1 : Nat))) ∧
 (((AV.int .i64 n_9) = (AV.int .i64 (Nat.cast y_10 : Int))) ∧
 True))))))))))))))))))))
else (∃ n_6 : Int, (((AV.int .i64 (IntKind.wrap .i64 (Int.tdiv n_2 (2 : Int)))) = (AV.int .i64 n_6)) ∧
 False))))))))))))))
else (∃ n_2 : Int, (((AV.int .i64 (Nat.cast (List.length s) : Int)) = (AV.int .i64 n_2)) ∧
 (∃ n_3 : Int, (((AV.int .i64 (Int.tmod n_2 (2 : Int))) = (AV.int .i64 n_3)) ∧
 (bif (n_3 != (0 : Int)) then (Q (Out.ret (AV.tup ((AV.str []) :: ((AV.int .i64 (5 : Int)) :: [])))) [] (Gh.mk (0 : Nat) (0 : Nat) []))
else (∃ s_4 : (List UInt8), (((AV.str []) = (AV.str s_4)) ∧
 (Q (Out.ret (AV.tup ((AV.str s_4) :: ((AV.int .i64 (0 : Int)) :: [])))) [] (Gh.mk (0 : Nat) (0 : Nat) [])))))))))))) ∧
 (∀ x_1 : Nat, ((Lf (((1 : Nat) ≤ x_1) ∧
 ((x_1 ≤ (List.length s)) ∧
 ((allM (List.take x_1 s)) = true)))) →
(bif (decide ((Nat.cast x_1 : Int) < n_0)) then (∃ n_2 : Int, (((AV.int .i64 (Nat.cast x_1 : Int)) = (AV.int .i64 n_2)) ∧
 ((∃ x_3 : Nat, ((Lf (x_3 ≤ (16 : Nat))) ∧
 (((ofBytes (unhM (List.take (1 : Nat) s))) = (ofBytes (unhM (List.take (1 : Nat) s)))) ∧
 (((ofBytes (unhM (List.take x_1 s))) = (ofBytes (unhM (List.take x_1 s)))) ∧
 (((AV.str s) = (AV.str s)) ∧
 (((AV.int .i64 (- (1 : Int))) = (AV.int .i64 (fndM (List.getD s (Int.toNat n_2) (UInt8.ofNat (0 : Nat))) x_3))) ∧
 (((AV.agg ((AV.int .u8 (48 : Int)) :: ((AV.int .u8 (49 : Int)) :: ((AV.int .u8 (50 : Int)) :: ((AV.int .u8 (51 : Int)) :: ((AV.int .u8 (52 : Int)) :: ((AV.int .u8 (53 : Int)) :: ((AV.int .u8 (54 : Int)) :: ((AV.int .u8 (55 : Int)) :: ((AV.int .u8 (56 : Int)) :: ((AV.int .u8 (57 : Int)) :: ((AV.int .u8 (97 : Int)) :: ((AV.int .u8 (98 : Int)) :: ((AV.int .u8 (99 : Int)) :: ((AV.int .u8 (100 : Int)) :: ((AV.int .u8 (101 : Int)) :: ((AV.int .u8 (102 : Int)) :: []))))))))))))))))) = (AV.agg ((AV.int .u8 (48 : Int)) :: ((AV.int .u8 (49 : Int)) :: ((AV.int .u8 (50 : Int)) :: ((AV.int .u8 (51 : Int)) :: ((AV.int .u8 (52 : Int)) :: ((AV.int .u8 (53 : Int)) :: ((AV.int .u8 (54 : Int)) :: ((AV.int .u8 (55 : Int)) :: ((AV.int .u8 (56 : Int)) :: ((AV.int .u8 (57 : Int)) :: ((AV.int .u8 (97 : Int)) :: ((AV.int .u8 (98 : Int)) :: ((AV.int .u8 (99 : Int)) :: ((AV.int .u8 (100 : Int)) :: ((AV.int .u8 (101 : Int)) :: ((AV.int .u8 (102 : Int)) :: [])))))))))))))))))) ∧
 (((AV.int .i64 n_0) = (AV.int .i64 n_0)) ∧
 (((AV.int .i64 (0 : Int)) = (AV.int .i64 (0 : Int))) ∧
 (((AV.sl (1 : Nat) ((x_1 + (1 : Nat)) / (2 : Nat)) (0 : Nat) ((x_1 + (1 : Nat)) / (2 : Nat)) (1 : Nat)) = (AV.sl (1 : Nat) ((x_1 + (1 : Nat)) / (2 : Nat)) (0 : Nat) ((x_1 + (1 : Nat)) / (2 : Nat)) (1 : Nat))) ∧
 (((AV.int .i64 (0 : Int)) = (AV.int .i64 (Nat.cast x_3 : Int))) ∧
 (((AV.int .i64 (Nat.cast x_1 : Int)) = (AV.int .i64 (Nat.cast x_1 : Int))) ∧
 (((AV.int .i64 n_2) = (AV.int .i64 n_2)) ∧
 True))))))))))))) ∧
 (∀ x_3 : Nat, ((Lf (x_3 ≤ (16 : Nat))) →
(bif (decide ((Nat.cast x_3 : Int) < (16 : Int))) then (∃ n_4 : Int, (((AV.int .i64 (Nat.cast x_3 : Int)) = (AV.int .i64 n_4)) ∧
 (bif ((Nat.blt (Int.toNat (Nat.cast x_3 : Int)) (16 : Nat)) && (Nat.blt ((Int.toNat (Nat.cast x_3 : Int)) * (1 : Nat)) (16 : Nat))) then (∃ n_5 : Int, (((List.getD ((AV.int .u8 (48 : Int)) :: ((AV.int .u8 (49 : Int)) :: ((AV.int .u8 (50 : Int)) :: ((AV.int .u8 (51 : Int)) :: ((AV.int .u8 (52 : Int)) :: ((AV.int .u8 (53 : Int)) :: ((AV.int .u8 (54 : Int)) :: ((AV.int .u8 (55 : Int)) :: ((AV.int .u8 (56 : Int)) :: ((AV.int .u8 (57 : Int)) :: ((AV.int .u8 (97 : Int)) :: ((AV.int .u8 (98 : Int)) :: ((AV.int .u8 (99 : Int)) :: ((AV.int .u8 (100 : Int)) :: ((AV.int .u8 (101 : Int)) :: ((AV.int .u8 (102 : Int)) :: [])))))))))))))))) ((Int.toNat (Nat.cast x_3 : Int)) * (1 : Nat)) AV.undef) = (AV.int .u8 n_5)) ∧
 (bif ((decide ((0 : Int) ≤ n_2)) && (Nat.blt (Int.toNat n_2) (List.length s))) then (∃ n_6 : Int, (((AV.int .u8 (Nat.cast (UInt8.toNat (List.getD s (Int.toNat n_2) (UInt8.ofNat (0 : Nat)))) : Int)) = (AV.int .u8 n_6)) ∧
 (bif (n_5 == n_6) then (∃ n_7 : Int, (((AV.int .i64 (IntKind.wrap .i64 ((Nat.cast x_3 : Int) + (1 : Int)))) = (AV.int .i64 n_7)) ∧
 ((True ∧
 ((0 : Nat) = (0 : Nat))) ∧
 (∃ y_8 : Nat, ((Lf (y_8 ≤ (16 : Nat))) ∧
 ((((16 : Nat) - y_8) < ((16 : Nat) - x_3)) ∧
 (((ofBytes (unhM (List.take (1 : Nat) s))) = (ofBytes (unhM (List.take (1 : Nat) s)))) ∧
 (((ofBytes (unhM (List.take x_1 s))) = (ofBytes (unhM (List.take x_1 s)))) ∧
 (((AV.str s) = (AV.str s)) ∧
 (((AV.int .i64 n_4) = (AV.int .i64 (fndM (List.getD s (Int.toNat n_2) (UInt8.ofNat (0 : Nat))) y_8))) ∧
 (((AV.agg ((AV.int .u8 (48 : Int)) :: ((AV.int .u8 (49 : Int)) :: ((AV.int .u8 (50 : Int)) :: ((AV.int .u8 (51 : Int)) :: ((AV.int .u8 (52 : Int)) :: ((AV.int .u8 (53 : Int)) :: ((AV.int .u8 (54 : Int)) :: ((AV.int .u8 (55 : Int)) :: ((AV.int .u8 (56 : Int)) :: ((AV.int .u8 (57 : Int)) :: ((AV.int .u8 (97 : Int)) :: ((AV.int .u8 (98 : Int)) :: ((AV.int .u8 (99 : Int)) :: ((AV.int .u8 (100 : Int)) :: ((AV.int .u8 (101 : Int)) :: ((AV.int .u8 (102 : Int)) :: []))))))))))))))))) = (AV.agg ((AV.int .u8 (48 : Int)) :: ((AV.int .u8 (49 : Int)) :: ((AV.int .u8 (50 : Int)) :: ((AV.int .u8 (51 : Int)) :: ((AV.int .u8 (52 : Int)) :: ((AV.int .u8 (53 : Int)) :: ((AV.int .u8 (54 : Int)) :: ((AV.int .u8 (55 : Int)) :: ((AV.int .u8 (56 : Int)) :: ((AV.int .u8 (57 : Int)) :: ((AV.int .u8 (97 : Int)) :: ((AV.int .u8 (98 : Int)) :: ((AV.int .u8 (99 : Int)) :: ((AV.int .u8 (100 : Int)) :: ((AV.int .u8 (101 : Int)) :: ((AV.int .u8 (102 : Int)) :: [])))))))))))))))))) ∧
 (((AV.int .i64 n_0) = (AV.int .i64 n_0)) ∧
 (((AV.int .i64 (0 : Int)) = (AV.int .i64 (0 : Int))) ∧
 (((AV.sl (1 : Nat) ((x_1 + (1 : Nat)) / (2 : Nat)) (0 : Nat) ((x_1 + (1 : Nat)) / (2 : Nat)) (1 : Nat)) = (AV.sl (1 : Nat) ((x_1 + (1 : Nat)) / (2 : Nat)) (0 : Nat) ((x_1 + (1 : Nat)) / (2 : Nat)) (1 : Nat))) ∧
 (((AV.int .i64 n_7) = (AV.int .i64 (Nat.cast y_8 : Int))) ∧
 (((AV.int .i64 (Nat.cast x_1 : Int)) = (AV.int .i64 (Nat.cast x_1 : Int))) ∧
 (((AV.int .i64 n_2) = (AV.int .i64 n_2)) ∧
 True)))))))))))))))))
else (∃ n_7 : Int, (((AV.int .i64 (IntKind.wrap .i64 ((Nat.cast x_3 : Int) + (1 : Int)))) = (AV.int .i64 n_7)) ∧
 ((True ∧
 ((0 : Nat) = (0 : Nat))) ∧
 (∃ y_8 : Nat, ((Lf (y_8 ≤ (16 : Nat))) ∧
 ((((16 : Nat) - y_8) < ((16 : Nat) - x_3)) ∧
 (((ofBytes (unhM (List.take (1 : Nat) s))) = (ofBytes (unhM (List.take (1 : Nat) s)))) ∧
 (((ofBytes (unhM (List.take x_1 s))) = (ofBytes (unhM (List.take x_1 s)))) ∧
 (((AV.str s) = (AV.str s)) ∧
 (((AV.int .i64 (fndM (List.getD s (Int.toNat n_2) (UInt8.ofNat (0 : Nat))) x_3)) = (AV.int .i64 (fndM (List.getD s (Int.toNat n_2) (UInt8.ofNat (0 : Nat))) y_8))) ∧
 (((AV.agg ((AV.int .u8 (48 : Int)) :: ((AV.int .u8 (49 : Int)) :: ((AV.int .u8 (50 : Int)) :: ((AV.int .u8 (51 : Int)) :: ((AV.int .u8 (52 : Int)) :: ((AV.int .u8 (53 : Int)) :: ((AV.int .u8 (54 : Int)) :: ((AV.int .u8 (55 : Int)) :: ((AV.int .u8 (56 : Int)) :: ((AV.int .u8 (57 : Int)) :: ((AV.int .u8 (97 : Int)) :: ((AV.int .u8 (98 : Int)) :: ((AV.int .u8 (99 : Int)) :: ((AV.int .u8 (100 : Int)) :: ((AV.int .u8 (101 : Int)) :: ((AV.int .u8 (102 : Int)) :: []))))))))))))))))) = (AV.agg ((AV.int .u8 (48 : Int)) :: ((AV.int .u8 (49 : Int)) :: ((AV.int .u8 (50 : Int)) :: ((AV.int .u8 (51 : Int)) :: ((AV.int .u8 (52 : Int)) :: ((AV.int .u8 (53 : Int)) :: ((AV.int .u8 (54 : Int)) :: ((AV.int .u8 (55 : Int)) :: ((AV.int .u8 (56 : Int)) :: ((AV.int .u8 (57 : Int)) :: ((AV.int .u8 (97 : Int)) :: ((AV.int .u8 (98 : Int)) :: ((AV.int .u8 (99 : Int)) :: ((AV.int .u8 (100 : Int)) :: ((AV.int .u8 (101 : Int)) :: ((AV.int .u8 (102 : Int)) :: [])))))))))))))))))) ∧
 (((AV.int .i64 n_0) = (AV.int .i64 n_0)) ∧
 (((AV.int .i64 (0 : Int)) = (AV.int .i64 (0 : Int))) ∧
 (((AV.sl (1 : Nat) ((x_1 + (1 : Nat)) / (2 : Nat)) (0 : Nat) ((x_1 + (1 : Nat)) / (2 : Nat)) (1 : Nat)) = (AV.sl (1 : Nat) ((x_1 + (1 : Nat)) / (2 : Nat)) (0 : Nat) ((x_1 + (1 : Nat)) / (2 : Nat)) (1 : Nat))) ∧
 (((AV.int .i64 n_7) = (AV.int .i64 (Nat.cast y_8 : Int))) ∧
 (((AV.int .i64 (Nat.cast x_1 : Int)) = (AV.int .i64 (Nat.cast x_1 : Int))) ∧
 (((AV.int .i64 n_2) = (AV.int .i64 n_2)) ∧
 True))))))))))))))))))))
else False)))
else False)))
else (∃ n_4 : Int, (((AV.int .i64 (fndM (List.getD s (Int.toNat n_2) (UInt8.ofNat (0 : Nat))) x_3)) = (AV.int .i64 n_4)) ∧
 (bif (decide (n_4 < (0 : Int))) then (Q (Out.ret (AV.tup ((AV.str []) :: ((AV.int .i64 (5 : Int)) :: [])))) [] (Gh.mk (0 : Nat) (0 : Nat) []))
else (∃ n_5 : Int, (((AV.int .i64 (Int.tmod n_2 (2 : Int))) = (AV.int .i64 n_5)) ∧
 (bif (n_5 == (0 : Int)) then (∃ n_6 : Int, (((AV.int .i64 (fndM (List.getD s (Int.toNat n_2) (UInt8.ofNat (0 : Nat))) x_3)) = (AV.int .i64 n_6)) ∧
 (∃ n_7 : Int, (((AV.int .i64 (IntKind.wrap .i64 (n_6 * (16 : Int)))) = (AV.int .i64 n_7)) ∧
 (∃ n_8 : Int, (((AV.int .u8 (IntKind.wrap .u8 n_7)) = (AV.int .u8 n_8)) ∧
 (bif (((((Nat.beq (List.length (ofBytes (unhM (List.take x_1 s)))) ((x_1 + (1 : Nat)) / (2 : Nat))) && true) && (Nat.beq ((0 : Nat) + (((x_1 + (1 : Nat)) / (2 : Nat)) * (1 : Nat))) ((x_1 + (1 : Nat)) / (2 : Nat)))) && (Nat.ble (((x_1 + (1 : Nat)) / (2 : Nat)) + (1 : Nat)) (1099511627776 : Nat))) && (Nat.ble ((((x_1 + (1 : Nat)) / (2 : Nat)) + (1 : Nat)) * (1 : Nat)) (1099511627776 : Nat))) then (∃ n_9 : Int, (((AV.int .i64 (IntKind.wrap .i64 ((Nat.cast x_1 : Int) + (1 : Int)))) = (AV.int .i64 n_9)) ∧
 ((True ∧
 ((0 : Nat) = (0 : Nat))) ∧
 ((∃ y_10 : Nat, ((Lf (y_10 = (0 : Nat))) ∧
 ((((List.length s) + (1 : Nat)) < ((List.length s) - x_1)) ∧
 False))) ∨
 (∃ y_10 : Nat, ((Lf (((1 : Nat) ≤ y_10) ∧
 ((y_10 ≤ (List.length s)) ∧
 ((allM (List.take y_10 s)) = true)))) ∧
 ((((List.length s) - y_10) < ((List.length s) - x_1)) ∧
 (((ofBytes (unhM (List.take (1 : Nat) s))) = (ofBytes (unhM (List.take (1 : Nat) s)))) ∧
 ((((ofBytes (unhM (List.take x_1 s))) ++ ((AV.int .u8 n_8) :: [])) = (ofBytes (unhM (List.take y_10 s)))) ∧
 (((AV.str s) = (AV.str s)) ∧
 (((AV.int .i64 n_0) = (AV.int .i64 n_0)) ∧
 (((AV.int .i64 (0 : Int)) = (AV.int .i64 (0 : Int))) ∧
 (((AV.sl (1 : Nat) (((x_1 + (1 : Nat)) / (2 : Nat)) + (1 : Nat)) (0 : Nat) (((x_1 + (1 : Nat)) / (2 : Nat)) + (1 : Nat)) (1 : Nat)) = (AV.sl (1 : Nat) ((y_10 + (1 : Nat)) / (2 : Nat)) (0 : Nat) ((y_10 + (1 : Nat)) / (2 : Nat)) (1 : Nat))) ∧
 (((AV.int .i64 n_9) = (AV.int .i64 (Nat.cast y_10 : Int))) ∧
 True))))))))))))))
else False)))))))
else (∃ n_6 : Int, (((AV.int .i64 (IntKind.wrap .i64 (Int.tdiv n_2 (2 : Int)))) = (AV.int .i64 n_6)) ∧
 (bif ((((decide ((0 : Int) ≤ n_6)) && (Nat.blt (Int.toNat n_6) ((x_1 + (1 : Nat)) / (2 : Nat)))) && (Nat.beq (List.length (ofBytes (unhM (List.take x_1 s)))) ((x_1 + (1 : Nat)) / (2 : Nat)))) && true) then (bif ((Nat.beq (List.length (ofBytes (unhM (List.take x_1 s)))) ((x_1 + (1 : Nat)) / (2 : Nat))) && (Nat.blt ((0 : Nat) + ((Int.toNat n_6) * (1 : Nat))) ((x_1 + (1 : Nat)) / (2 : Nat)))) then (∃ n_7 : Int, (((List.getD (List.take (1 : Nat) (List.drop ((0 : Nat) + ((Int.toNat n_6) * (1 : Nat))) (ofBytes (unhM (List.take x_1 s))))) (0 : Nat) AV.undef) = (AV.int .u8 n_7)) ∧
 (∃ n_8 : Int, (((AV.int .i64 (fndM (List.getD s (Int.toNat n_2) (UInt8.ofNat (0 : Nat))) x_3)) = (AV.int .i64 n_8)) ∧
 (∃ n_9 : Int, (((AV.int .u8 (IntKind.wrap .u8 n_8)) = (AV.int .u8 n_9)) ∧
 (∃ n_10 : Int, (((AV.int .u8 (IntKind.wrap .u8 (Nat.cast ((Int.toNat (n_7 % (256 : Int))) ||| (Int.toNat (n_9 % (256 : Int)))) : Int))) = (AV.int .u8 n_10)) ∧
 (bif ((((decide ((0 : Int) ≤ n_6)) && (Nat.blt (Int.toNat n_6) ((x_1 + (1 : Nat)) / (2 : Nat)))) && (Nat.beq (List.length (ofBytes (unhM (List.take x_1 s)))) ((x_1 + (1 : Nat)) / (2 : Nat)))) && true) then (bif (((((Nat.beq (List.length (ofBytes (unhM (List.take x_1 s)))) ((x_1 + (1 : Nat)) / (2 : Nat))) && (Nat.ble (((0 : Nat) + ((Int.toNat n_6) * (1 : Nat))) + (1 : Nat)) ((x_1 + (1 : Nat)) / (2 : Nat)))) && true) && true) && true) then (∃ n_11 : Int, (((AV.int .i64 (IntKind.wrap .i64 ((Nat.cast x_1 : Int) + (1 : Int)))) = (AV.int .i64 n_11)) ∧
 ((True ∧
 ((0 : Nat) = (0 : Nat))) ∧
 ((∃ y_12 : Nat, ((Lf (y_12 = (0 : Nat))) ∧
 ((((List.length s) + (1 : Nat)) < ((List.length s) - x_1)) ∧
 False))) ∨
 (∃ y_12 : Nat, ((Lf (((1 : Nat) ≤ y_12) ∧
 ((y_12 ≤ (List.length s)) ∧
 ((allM (List.take y_12 s)) = true)))) ∧
 ((((List.length s) - y_12) < ((List.length s) - x_1)) ∧
 (((ofBytes (unhM (List.take (1 : Nat) s))) = (ofBytes (unhM (List.take (1 : Nat) s)))) ∧
 (((setRange (ofBytes (unhM (List.take x_1 s))) ((0 : Nat) + ((Int.toNat n_6) * (1 : Nat))) ((AV.int .u8 n_10) :: [])) = (ofBytes (unhM (List.take y_12 s)))) ∧
 (((AV.str s) = (AV.str s)) ∧
 (((AV.int .i64 n_0) = (AV.int .i64 n_0)) ∧
 (((AV.int .i64 (0 : Int)) = (AV.int .i64 (0 : Int))) ∧
 (((AV.sl (1 : Nat) ((x_1 + (1 : Nat)) / (2 : Nat)) (0 : Nat) ((x_1 + (1 : Nat)) / (2 : Nat)) (1 : Nat)) = (AV.sl (1 : Nat) ((y_12 + (1 : Nat)) / (2 : Nat)) (0 : Nat) ((y_12 + (1 : Nat)) / (2 : Nat)) (1 : Nat))) ∧
 (((AV.int .i64 n_11) = (AV.int .i64 (Nat.cast y_12 : Int))) ∧
 True))))))))))))))
else False)
else False)))))))))
else False)
else False)))))))))))))))
else (∃ n_2 : Int, (((AV.int .i64 (Nat.cast (List.length s) : Int)) = (AV.int .i64 n_2)) ∧
 (∃ n_3 : Int, (((AV.int .i64 (Int.tmod n_2 (2 : Int))) = (AV.int .i64 n_3)) ∧
 (bif (n_3 != (0 : Int)) then (Q (Out.ret (AV.tup ((AV.str []) :: ((AV.int .i64 (5 : Int)) :: [])))) [] (Gh.mk (0 : Nat) (0 : Nat) []))
else (bif ((((Nat.beq (List.length (ofBytes (unhM (List.take x_1 s)))) ((x_1 + (1 : Nat)) / (2 : Nat))) && (Nat.ble ((0 : Nat) + ((x_1 + (1 : Nat)) / (2 : Nat))) ((x_1 + (1 : Nat)) / (2 : Nat)))) && true) && (allU8 (List.take ((x_1 + (1 : Nat)) / (2 : Nat)) (List.drop (0 : Nat) (ofBytes (unhM (List.take x_1 s))))))) then (∃ s_4 : (List UInt8), (((AV.str (List.map toB (List.take ((x_1 + (1 : Nat)) / (2 : Nat)) (List.drop (0 : Nat) (ofBytes (unhM (List.take x_1 s))))))) = (AV.str s_4)) ∧
 (Q (Out.ret (AV.tup ((AV.str s_4) :: ((AV.int .i64 (0 : Int)) :: [])))) [] (Gh.mk (0 : Nat) (0 : Nat) []))))
else False)))))))))))))) := by kernel_rfl

theorem val_in (c : UInt8) : -1 ≤ valM c ∧ valM c ≤ 15 := by
  unfold valM
  split
  · omega
  · split <;> omega
theorem dig_val {c : UInt8} {j : Nat} (hj : j < 16) : (digM j).toNat = c.toNat ↔ valM c = (j : Int) := by
  rw [dig_nat j hj, valM]
  split <;> split <;> first | omega | (split <;> omega)
theorem fnd_zero (c : UInt8) : fndM c 0 = -1 := by
  unfold fndM
  split <;> omega
theorem fnd_yes {c : UInt8} {j : Nat} (hj : j < 16) (h : (digM j).toNat = c.toNat) : fndM c (j + 1) = (j : Int) := by
  rw [dig_val hj] at h
  rw [fndM, if_pos (by omega), h]
theorem fnd_no {c : UInt8} {j : Nat} (hj : j < 16) (h : ¬ (digM j).toNat = c.toNat) : fndM c (j + 1) = fndM c j := by
  rw [dig_val hj] at h
  unfold fndM
  by_cases h1 : 0 ≤ valM c ∧ valM c < (j : Int)
  · rw [if_pos h1, if_pos (by omega)]
  · rw [if_neg h1, if_neg (by omega)]
theorem fnd_all (c : UInt8) : fndM c 16 = valM c := by
  have := val_in c
  unfold fndM
  split <;> omega
theorem unh_app : ∀ (l : List UInt8), l.length % 2 = 0 → ∀ m, unhM (l ++ m) = unhM l ++ unhM m
  | [], _, m => rfl
  | [a], h, _ => by simp at h
  | a :: b :: l, h, m => by
    simp only [List.length_cons] at h
    rw [List.cons_append, List.cons_append, unhM, unhM, unh_app l (by omega) m, List.cons_append]
theorem unh_len : ∀ l : List UInt8, (unhM l).length = (l.length + 1) / 2
  | [] => rfl
  | [a] => by simp [unhM]
  | a :: b :: l => by
    simp only [unhM, List.length_cons, unh_len l]
    omega
theorem all_snoc {s : List UInt8} {i : Nat} (h : i < s.length) : allM (s.take (i + 1)) = (allM (s.take i) && decide (0 ≤ valM (s.getD i (UInt8.ofNat 0)))) := by
  rw [take_snoc h, allM, List.all_append]
  simp [allM]
theorem all_not {s : List UInt8} {i : Nat} (h : i < s.length) (hv : valM (s.getD i (UInt8.ofNat 0)) < 0) : allM s = false := by
  rw [allM, List.all_eq_false]
  refine ⟨s.getD i (UInt8.ofNat 0), ?_, by simpa using hv⟩
  simp [List.getD, h]
theorem ofN_nat {n : Nat} (h : n < 256) : ((UInt8.ofNat n).toNat : Int) = (n : Int) := by
  rw [UInt8.toNat_ofNat']
  omega
/-- what Unhex answers -/
def unhRM (s : List UInt8) : List UInt8 × Int := if allM s = true ∧ s.length % 2 = 0 then (unhM s, 0) else ([], 5)
theorem unhex_run (s : List UInt8) (hs : s.length ≤ 1000000) (Q : Out → List Blk → Gh → Prop) (hq : Q (.ret (.tup [.str (unhRM s).1, .int .i64 (unhRM s).2])) [] {}) : ∃ hv hb, goal_7 hv hb s Q := by
  obtain ⟨hv, hb', e⟩ : ∃ hv hb, goal_7 hv hb s Q = _ := ⟨_, _, vc_7 s Q⟩
  refine ⟨hv, hb', e.mpr ?_⟩
  clear e
  have h5 : ¬ (allM s = true ∧ s.length % 2 = 0) → Q (.ret (.tup [.str [], .int .i64 5])) [] {} := fun h => by
    rw [unhRM, if_neg h] at hq; exact hq
  have h0 : (allM s = true ∧ s.length % 2 = 0) → Q (.ret (.tup [.str (unhM s), .int .i64 0])) [] {} := fun h => by
    rw [unhRM, if_pos h] at hq; exact hq
  clear hq
  have hm : Int.tmod (s.length : Int) 2 = ((s.length % 2 : Nat) : Int) := rfl
  refine ⟨_, rfl, .inl ⟨0, ⟨rfl⟩, rfl, rfl, rfl, rfl, rfl, trivial⟩, ?_, ?_⟩
  · rintro _ ⟨rfl⟩
    refine splitD (fun h => ?_) (fun h => ?_)
    · have hlt : 0 < s.length := by omega
      have hall := all_snoc hlt
      have hnot := all_not hlt
      have hun : unhM (s.take 1) = [UInt8.ofNat ((valM (s.getD 0 (UInt8.ofNat 0))).toNat * 16)] := by rw [take_snoc hlt]; rfl
      refine ⟨_, rfl, ⟨0, ⟨by omega⟩, rfl, by rw [fnd_zero], rfl, rfl, rfl, rfl, rfl, rfl, rfl, trivial⟩, ?_⟩
      rw [show Int.toNat 0 = 0 from rfl]
      generalize List.getD s 0 (UInt8.ofNat 0) = c at *
      have hv := val_in c
      rintro j ⟨hj⟩
      refine splitD (fun hj' => ?_) (fun hj' => ?_)
      · refine ⟨_, rfl, ckI (by simp; omega) (get16a (k := j) (by omega) (by simp) (ckI (by simp; omega) ⟨_, rfl, splitE (fun he => ?_) (fun he => ?_)⟩))⟩
        · exact wrapI (by omega) (by omega) ⟨⟨trivial, rfl⟩, j + 1, ⟨by omega⟩, by omega, rfl, by rw [fnd_yes (by omega) (by omega)], rfl, rfl, rfl, rfl, rfl, rfl, rfl, trivial⟩
        · exact wrapI (by omega) (by omega) ⟨⟨trivial, rfl⟩, j + 1, ⟨by omega⟩, by omega, rfl, by rw [fnd_no (by omega) (by omega)], rfl, rfl, rfl, rfl, rfl, rfl, rfl, trivial⟩
      · obtain rfl : j = 16 := by omega
        rw [fnd_all]
        refine ⟨_, rfl, splitD (fun hn => h5 (by rw [hnot hn]; simp)) (fun hn => ⟨_, rfl, splitE (fun _ => ?_) (fun hx => absurd rfl hx)⟩)⟩
        refine ⟨_, rfl, wrapI (by omega) (by omega) (wrapU8 (by omega) (by omega) ⟨_, rfl, ⟨trivial, rfl⟩, .inr ⟨1, ⟨by omega, by omega, by rw [hall, decide_eq_true (by omega)]; rfl⟩, by omega, ?_, ?_, rfl, rfl, rfl, rfl, rfl, trivial⟩⟩)⟩
        all_goals
          rw [hun]
          simp only [ofBytes, List.map_cons, List.map_nil]
          rw [ofN_nat (by omega)]
          congr 2
          omega
    · have : s = [] := List.length_eq_zero_iff.1 (by omega)
      subst this
      exact ⟨_, rfl, _, rfl, splitNE (fun h => absurd rfl h) (fun _ => ⟨[], rfl, h0 ⟨rfl, rfl⟩⟩)⟩
  · rintro i ⟨h1, h2, h3⟩
    have hl : (unhM (s.take i)).length = (i + 1) / 2 := by rw [unh_len, List.length_take, Nat.min_eq_left h2]
    refine splitD (fun h => ?_) (fun h => ?_)
    · have hlt : i < s.length := by omega
      have hall := all_snoc hlt
      have hnot := all_not hlt
      have hsn := take_snoc hlt
      refine ⟨_, rfl, ⟨0, ⟨by omega⟩, rfl, rfl, rfl, by rw [fnd_zero], rfl, rfl, rfl, rfl, rfl, rfl, rfl, trivial⟩, ?_⟩
      rw [Int.toNat_natCast]
      generalize List.getD s i (UInt8.ofNat 0) = c at *
      have hv := val_in c
      have hi2 : Int.tmod (i : Int) 2 = ((i % 2 : Nat) : Int) := rfl
      have hid : Int.tdiv (i : Int) 2 = ((i / 2 : Nat) : Int) := rfl
      rintro j ⟨hj⟩
      refine splitD (fun hj' => ?_) (fun hj' => ?_)
      · refine ⟨_, rfl, ckI (by simp; omega) (get16a (k := j) (by omega) (by simp) (ckI (by simp; omega) ⟨_, rfl, splitE (fun he => ?_) (fun he => ?_)⟩))⟩
        · exact wrapI (by omega) (by omega) ⟨⟨trivial, rfl⟩, j + 1, ⟨by omega⟩, by omega, rfl, rfl, rfl, by rw [fnd_yes (by omega) (by omega)], rfl, rfl, rfl, rfl, rfl, rfl, rfl, trivial⟩
        · exact wrapI (by omega) (by omega) ⟨⟨trivial, rfl⟩, j + 1, ⟨by omega⟩, by omega, rfl, rfl, rfl, by rw [fnd_no (by omega) (by omega)], rfl, rfl, rfl, rfl, rfl, rfl, rfl, trivial⟩
      · obtain rfl : j = 16 := by omega
        rw [fnd_all]
        refine ⟨_, rfl, splitD (fun hn => h5 (by rw [hnot hn]; simp)) (fun hn => ⟨_, rfl, ?_⟩)⟩
        have hall' : allM (s.take (i + 1)) = true := by rw [hall, h3, decide_eq_true (by omega)]; rfl
        rw [hi2]
        refine splitE (fun he => ?_) (fun he => ?_)
        · have hun : unhM (s.take (i + 1)) = unhM (s.take i) ++ [UInt8.ofNat ((valM c).toNat * 16)] := by
            rw [hsn, unh_app _ (by rw [List.length_take]; omega)]; rfl
          refine ⟨_, rfl, wrapI (by omega) (by omega) (wrapU8 (by omega) (by omega) (ckI (by rw [ofB_len, hl]; simp; omega) (wrapI (by omega) (by omega) ⟨⟨trivial, rfl⟩, .inr ⟨i + 1, ⟨by omega, by omega, hall'⟩, by omega, rfl, ?_, rfl, rfl, rfl, by rw [show (i + 1 + 1) / 2 = (i + 1) / 2 + 1 by omega], rfl, trivial⟩⟩)))⟩
          rw [hun, ← ofB_app]
          congr 1
          simp only [ofBytes, List.map_cons, List.map_nil]
          rw [ofN_nat (by omega)]
          congr 2
          omega
        · obtain ⟨k, rfl⟩ : ∃ k, i = 2 * k + 1 := ⟨i / 2, by omega⟩
          have hlt' : 2 * k < s.length := by omega
          have hsn' := take_snoc hlt'
          have hall2 := all_snoc hlt'
          rw [hall2, Bool.and_eq_true, decide_eq_true_eq] at h3
          generalize List.getD s (2 * k) (UInt8.ofNat 0) = a at *
          have hva := val_in a
          have hl2 : (unhM (s.take (2 * k))).length = k := by rw [unh_len, List.length_take, Nat.min_eq_left (by omega)]; omega
          have hu1 : unhM (s.take (2 * k + 1)) = unhM (s.take (2 * k)) ++ [UInt8.ofNat ((valM a).toNat * 16)] := by
            rw [hsn', unh_app _ (by rw [List.length_take]; omega)]; rfl
          have hu2 : unhM (s.take (2 * k + 1 + 1)) = unhM (s.take (2 * k)) ++ [UInt8.ofNat ((valM a).toNat * 16 + (valM c).toNat)] := by
            rw [hsn, hsn', List.append_assoc, unh_app _ (by rw [List.length_take]; omega)]; rfl
          rw [hid, show (2 * k + 1) / 2 = k by omega] at *
          rw [show (2 * k + 1 + 1) / 2 = k + 1 by omega] at *
          rw [hu1]
          generalize unhM (s.take (2 * k)) = U at *
          have hUl : (ofBytes (U ++ [UInt8.ofNat ((valM a).toNat * 16)])).length = k + 1 := by rw [ofB_len]; simp [hl2]
          refine wrapI (by omega) (by omega) (ckI (by rw [hUl]; simp) (ckI (by rw [hUl]; simp) ⟨(((valM a).toNat * 16 : Nat) : Int), ?_, _, rfl, wrapU8 (by omega) (by omega) ?_⟩))
          · show List.getD (List.take 1 (List.drop (0 + Int.toNat ((k : Nat) : Int) * 1) (ofBytes (U ++ [UInt8.ofNat ((valM a).toNat * 16)])))) 0 AV.undef = AV.int .u8 (((valM a).toNat * 16 : Nat) : Int)
            rw [← ofB_app, Int.toNat_natCast, Nat.mul_one, Nat.zero_add, List.drop_left' (by rw [ofB_len]; exact hl2)]
            simp only [ofBytes, List.map_cons, List.map_nil, List.take_succ_cons, List.take_nil, List.getD_cons_zero]
            rw [ofN_nat (by omega)]
          · rw [show Int.toNat ((((valM a).toNat * 16 : Nat) : Int) % 256) = (valM a).toNat * 16 by omega, show Int.toNat (valM c % 256) = (valM c).toNat by omega, or16 _ _ (by omega)]
            refine wrapU8 (by omega) (by omega) (ckI (by rw [hUl]; simp) (ckI (by rw [hUl]; simp) (wrapI (by omega) (by omega) ⟨⟨trivial, rfl⟩, .inr ⟨2 * k + 1 + 1, ⟨by omega, by omega, hall'⟩, by omega, ?_, ?_, rfl, rfl, rfl, by rw [show (2 * k + 1 + 1 + 1) / 2 = k + 1 by omega], rfl, trivial⟩⟩)))
            · rfl
            · rw [hu2, setRange, ← ofB_app, Int.toNat_natCast, Nat.mul_one, Nat.zero_add, List.take_left' (by rw [ofB_len]; exact hl2), List.drop_eq_nil_of_le (by simp [ofBytes, hl2]), List.append_nil, ← ofB_app]
              congr 1
              simp only [ofBytes, List.map_cons, List.map_nil]
              rw [ofN_nat (by omega)]
    · have he : s.take i = s := List.take_of_length_le (by omega)
      rw [he] at hl h3 ⊢
      refine ⟨_, rfl, _, rfl, ?_⟩
      rw [hm]
      refine splitNE (fun h => h5 (by omega)) (fun h => strE rfl hl.symm hl.symm (h0 ⟨h3, by omega⟩))
end Go.Proofs.YthaapjfnadfmgaaDoor

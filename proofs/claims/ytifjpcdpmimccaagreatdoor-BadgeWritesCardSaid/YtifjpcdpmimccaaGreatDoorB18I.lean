/-
  Chapter 18: Trim of dots and dashes; letters.
-/
import Derived.Test.YtifjpcdpmimccaaGreatDoorB18E
set_option linter.unusedSimpArgs false
set_option linter.unusedVariables false
set_option linter.unusedSectionVars false
namespace Go.Proofs.YtifjpcdpmimccaaGreatDoor
open Go.RowKit
set_option maxRecDepth 1000000

def dotM (c : Nat) : Bool := Nat.beq c 46 || Nat.beq c 45
def setCM : List AV := (List.range 256).map fun i => AV.bool (dotM i)
noncomputable def goal_105 (hv : Nat → Option Pa) (hb : Nat → Option Bool) (Q : Out → List Blk → Gh → Prop) : Prop :=
  callx (e18 sm0 (fun _ => none) hv hb) (wpx (e18 sm0 (fun _ => none) hv hb) 1000) 105 [.str [46, 45]] [] {} Q
theorem vc_105 (Q : Out → List Blk → Gh → Prop) : goal_105 (lookV []) (lookB []) Q = (
(Q (Out.ret (AV.tup ((AV.agg ((AV.bool false) :: ((AV.bool false) :: ((AV.bool false) :: ((AV.bool false) :: ((AV.bool false) :: ((AV.bool false) :: ((AV.bool false) :: ((AV.bool false) :: ((AV.bool false) :: ((AV.bool false) :: ((AV.bool false) :: ((AV.bool false) :: ((AV.bool false) :: ((AV.bool false) :: ((AV.bool false) :: ((AV.bool false) :: ((AV.bool false) :: ((AV.bool false) :: ((AV.bool false) :: ((AV.bool false) :: ((AV.bool false) :: ((AV.bool false) :: ((AV.bool false) :: ((AV.bool false) :: ((AV.bool false) :: ((AV.bool false) :: ((AV.bool false) :: ((AV.bool false) :: ((AV.bool false) :: ((AV.bool false) :: ((AV.bool false) :: ((AV.bool false) :: ((AV.bool false) :: ((AV.bool false) :: ((AV.bool false) :: ((AV.bool false) :: ((AV.bool false) :: ((AV.bool false) :: ((AV.bool false) :: ((AV.bool false) :: ((AV.bool false) :: ((AV.bool false) :: ((AV.bool false) :: ((AV.bool false) :: ((AV.bool false) :: ((AV.bool true) :: ((AV.bool true) :: ((AV.bool false) :: ((AV.bool false) :: ((AV.bool false) :: ((AV.bool false) :: ((AV.bool false) :: ((AV.bool false) :: ((AV.bool false) :: ((AV.bool false) :: ((AV.bool false) :: ((AV.bool false) :: ((AV.bool false) :: ((AV.bool false) :: ((AV.bool false) :: ((AV.bool false) :: ((AV.bool false) :: ((AV.bool false) :: ((AV.bool false) :: ((AV.bool false) :: ((AV.bool false) :: ((AV.bool false) :: ((AV.bool false) :: ((AV.bool false) :: ((AV.bool false) :: ((AV.bool false) :: ((AV.bool false) :: ((AV.bool false) :: ((AV.bool false) :: ((AV.bool false) :: ((AV.bool false) :: ((AV.bool false) :: ((AV.bool false) :: ((AV.bool false) :: ((AV.bool false) :: ((AV.bool false) :: ((AV.bool false) :: ((AV.bool false) :: ((AV.bool false) :: ((AV.bool false) :: ((AV.bool false) :: ((AV.bool false) :: ((AV.bool false) :: ((AV.bool false) :: ((AV.bool false) :: ((AV.bool false) :: ((AV.bool false) :: ((AV.bool false) :: ((AV.bool false) :: ((AV.bool false) :: ((AV.bool false) :: ((AV.bool false) :: ((AV.bool false) :: ((AV.bool false) :: ((AV.bool false) :: ((AV.bool false) :: ((AV.bool false) :: ((AV.bool false) :: ((AV.bool false) :: ((AV.bool false) :: ((AV.bool false) :: ((AV.bool false) :: ((AV.bool false) :: ((AV.bool false) :: ((AV.bool false) :: ((AV.bool false) :: ((AV.bool false) :: ((AV.bool false) :: ((AV.bool false) :: ((AV.bool false) :: ((AV.bool false) :: ((AV.bool false) :: ((AV.bool false) :: ((AV.bool false) :: ((AV.bool false) :: ((AV.bool false) :: ((AV.bool false) :: ((AV.bool false) :: ((AV.bool false) :: ((AV.bool false) :: ((AV.bool false) :: ((AV.bool false) :: ((AV.bool false) :: ((AV.bool false) :: ((AV.bool false) :: ((AV.bool false) :: ((AV.bool false) :: ((AV.bool false) :: ((AV.bool false) :: ((AV.bool false) :: ((AV.bool false) :: ((AV.bool false) :: ((AV.bool false) :: ((AV.bool false) :: ((AV.bool false) :: ((AV.bool false) :: ((AV.bool false) :: ((AV.bool false) :: ((AV.bool false) :: ((AV.bool false) :: ((AV.bool false) :: ((AV.bool false) :: ((AV.bool false) :: ((AV.bool false) :: ((AV.bool false) :: ((AV.bool false) :: ((AV.bool false) :: ((AV.bool false) :: ((AV.bool false) :: ((AV.bool false) :: ((AV.bool false) :: ((AV.bool false) :: ((AV.bool false) :: ((AV.bool false) :: ((AV.bool false) :: ((AV.bool false) :: ((AV.bool false) :: ((AV.bool false) :: ((AV.bool false) :: ((AV.bool false) :: ((AV.bool false) :: ((AV.bool false) :: ((AV.bool false) :: ((AV.bool false) :: ((AV.bool false) :: ((AV.bool false) :: ((AV.bool false) :: ((AV.bool false) :: ((AV.bool false) :: ((AV.bool false) :: ((AV.bool false) :: ((AV.bool false) :: ((AV.bool false) :: ((AV.bool false) :: ((AV.bool false) :: ((AV.bool false) :: ((AV.bool false) :: ((AV.bool false) :: ((AV.bool false) :: ((AV.bool false) :: ((AV.bool false) :: ((AV.bool false) :: ((AV.bool false) :: ((AV.bool false) :: ((AV.bool false) :: ((AV.bool false) :: ((AV.bool false) :: ((AV.bool false) :: ((AV.bool false) :: ((AV.bool false) :: ((AV.bool false) :: ((AV.bool false) :: ((AV.bool false) :: ((AV.bool false) :: ((AV.bool false) :: ((AV.bool false) :: ((AV.bool false) :: ((AV.bool false) :: ((AV.bool false) :: ((AV.bool false) :: ((AV.bool false) :: ((AV.bool false) :: ((AV.bool false) :: ((AV.bool false) :: ((AV.bool false) :: ((AV.bool false) :: ((AV.bool false) :: ((AV.bool false) :: ((AV.bool false) :: ((AV.bool false) :: ((AV.bool false) :: ((AV.bool false) :: ((AV.bool false) :: ((AV.bool false) :: ((AV.bool false) :: ((AV.bool false) :: ((AV.bool false) :: ((AV.bool false) :: ((AV.bool false) :: ((AV.bool false) :: ((AV.bool false) :: ((AV.bool false) :: ((AV.bool false) :: ((AV.bool false) :: ((AV.bool false) :: ((AV.bool false) :: ((AV.bool false) :: ((AV.bool false) :: ((AV.bool false) :: ((AV.bool false) :: ((AV.bool false) :: ((AV.bool false) :: ((AV.bool false) :: ((AV.bool false) :: ((AV.bool false) :: ((AV.bool false) :: ((AV.bool false) :: ((AV.bool false) :: ((AV.bool false) :: ((AV.bool false) :: ((AV.bool false) :: ((AV.bool false) :: ((AV.bool false) :: ((AV.bool false) :: ((AV.bool false) :: ((AV.bool false) :: ((AV.bool false) :: ((AV.bool false) :: ((AV.bool false) :: ((AV.bool false) :: ((AV.bool false) :: []))))))))))))))))))))))))))))))))))))))))))))))))))))))))))))))))))))))))))))))))))))))))))))))))))))))))))))))))))))))))))))))))))))))))))))))))))))))))))))))))))))))))))))))))))))))))))))))))))))))))))))))))))))))))))))))))))))))))))))))))))))))))))))))))) :: ((AV.bool true) :: [])))) [] (Gh.mk (0 : Nat) (0 : Nat) []))) := by kernel_rfl

def cSet : Con
  | [.str [46, 45]], H, K => ∀ cs, Lf (cs = setCM) → K (.ret (.tup [.agg cs, .bool true])) H
  | _, _, _ => False
theorem aset_ok : ValidF Tryz.prog gl0 105 cSet := by
  refine valid_flat (enters_of (by kernel_rfl)) gl0_noY fun args H Q hc => ?_
  unfold cSet at hc
  split at hc
  · obtain ⟨hv, hb', e⟩ : ∃ hv hb, goal_105 hv hb (fun o H' _ => H' = [] ∧ (∃ v, o = .ret v ∧ old 0 v = true ∧ noY v = true) ∧ Q o H) = _ := ⟨_, _, vc_105 _⟩
    exact ⟨rfl, rfl, _, 1000, envFor18 sm0_ok _ hv hb', rfl, e.mpr ⟨rfl, ⟨_, rfl, by kernel_rfl, by kernel_rfl⟩, hc _ ⟨by kernel_rfl⟩⟩⟩
  · exact hc.elim
def zerB : List AV := List.replicate 256 (AV.bool false)
abbrev setZ (cs : List AV) : List AV := setRange zerB 0 cs
def smT : SM := lookS [(105, cSet)]
theorem smT_ok : ∀ f g, smT f = some g → ValidF Tryz.prog gl0 f g := lookS_ok _ (by simp only [List.mem_cons, List.not_mem_nil, or_false, forall_eq]; exact aset_ok)
def isDot (c : UInt8) : Bool := dotM c.toNat
def rightT (s : List UInt8) : List UInt8 := (s.reverse.dropWhile isDot).reverse
def inv_107 (s : List UInt8) (z : S) : List (List LInv) := [[{ α := List UInt8, pre := fun x => Lf (x.length ≤ s.length ∧ rightT x = rightT s), st := fun x => ⟨mkT [(0, .str x), (1, z.tm.get 1)], z.hp⟩, mu := fun x => x.length }]]
def inv_106 (z : S) : List (List LInv) := match z.tm.get 0 with
  | .str s => [[{ α := List UInt8, pre := fun x => Lf (x.length ≤ s.length ∧ x.dropWhile isDot = s.dropWhile isDot), st := fun x => ⟨mkT [(0, .str x), (1, z.tm.get 1)], z.hp⟩, mu := fun x => x.length }]]
  | _ => []
noncomputable def env_76 (hv : Nat → Option Pa) (hb : Nat → Option Bool) (s : List UInt8) : Env := e18 smT (fun i => bif Nat.beq i 107000 then some (inv_107 s) else bif Nat.beq i 106000 then some inv_106 else none) hv hb
noncomputable def goal_76 (hv : Nat → Option Pa) (hb : Nat → Option Bool) (s : List UInt8) (Q : Out → List Blk → Gh → Prop) : Prop :=
  callx (env_76 hv hb s) (wpx (env_76 hv hb s) 1000) 76 [.str s, .str [46, 45]] [] {} Q
theorem vc_76 (s : List UInt8) (Q : Out → List Blk → Gh → Prop) : goal_76 (lookV [(438278, .int .i64), (438283, .int .i64), (438284, .int .i64), (438285, .int .u8), (524297, .bool), (438290, .int .i64), (438291, .int .i64), (438292, .str), (434182, .int .i64), (434186, .int .u8), (434190, .str)]) (lookB [(528382, true), (1438272000, true), (442366, true), (1434176000, true), (438270, true)]) s Q = (
(bif (eqB s []) then (Q (Out.ret (AV.str s)) [] (Gh.mk (0 : Nat) (0 : Nat) []))
else (∀ cs_0 : (List AV), ((Lf (cs_0 = setCM)) →
(bif (((Nat.beq (List.length cs_0) (256 : Nat)) && (oneL cs_0)) && true) then ((∃ x_1 : (List UInt8), ((Lf (((List.length x_1) ≤ (List.length s)) ∧
 ((rightT x_1) = (rightT s)))) ∧
 (bif ((oldL (0 : Nat) cs_0) == (oldL (0 : Nat) cs_0)) then (((setZ cs_0) = (setZ cs_0)) ∧
 (((AV.str s) = (AV.str x_1)) ∧
 (((AV.ptr (0 : Nat) (256 : Nat) (0 : Nat)) = (AV.ptr (0 : Nat) (256 : Nat) (0 : Nat))) ∧
 True)))
else False))) ∧
 (∀ x_1 : (List UInt8), ((Lf (((List.length x_1) ≤ (List.length s)) ∧
 ((rightT x_1) = (rightT s)))) →
(∃ n_2 : Int, (((AV.int .i64 (Nat.cast (List.length x_1) : Int)) = (AV.int .i64 n_2)) ∧
 (bif (decide (n_2 > (0 : Int))) then (∃ n_3 : Int, (((AV.int .i64 (Nat.cast (List.length x_1) : Int)) = (AV.int .i64 n_3)) ∧
 (∃ n_4 : Int, (((AV.int .i64 (IntKind.wrap .i64 (n_3 - (1 : Int)))) = (AV.int .i64 n_4)) ∧
 (bif ((decide ((0 : Int) ≤ n_4)) && (Nat.blt (Int.toNat n_4) (List.length x_1))) then (∃ n_5 : Int, (((AV.int .u8 (Nat.cast (UInt8.toNat (List.getD x_1 (Int.toNat n_4) (UInt8.ofNat (0 : Nat)))) : Int)) = (AV.int .u8 n_5)) ∧
 (bif (Nat.beq (List.length (setZ cs_0)) (256 : Nat)) then (bif (((decide ((0 : Int) ≤ n_5)) && (Nat.blt (Int.toNat n_5) (256 : Nat))) && (Nat.beq (List.length (setZ cs_0)) (256 : Nat))) then (bif ((Nat.beq (List.length (setZ cs_0)) (256 : Nat)) && (Nat.blt ((0 : Nat) + ((Int.toNat n_5) * (1 : Nat))) (256 : Nat))) then (∃ b_6 : Bool, (((List.getD (List.take (1 : Nat) (List.drop ((0 : Nat) + ((Int.toNat n_5) * (1 : Nat))) (setZ cs_0))) (0 : Nat) AV.undef) = (AV.bool b_6)) ∧
 (bif b_6 then (((((oldL (0 : Nat) cs_0) || (oldL (1 : Nat) (setZ cs_0))) && true) = true) ∧
 (∃ n_7 : Int, (((AV.int .i64 (Nat.cast (List.length x_1) : Int)) = (AV.int .i64 n_7)) ∧
 (∃ n_8 : Int, (((AV.int .i64 (IntKind.wrap .i64 (n_7 - (1 : Int)))) = (AV.int .i64 n_8)) ∧
 (bif (((decide ((0 : Int) ≤ n_8)) && true) && (Nat.ble (Int.toNat n_8) (List.length x_1))) then (∃ s_9 : (List UInt8), (((AV.str (List.take ((Int.toNat n_8) - (0 : Nat)) (List.drop (0 : Nat) x_1))) = (AV.str s_9)) ∧
 (((((oldL (0 : Nat) cs_0) || (oldL (1 : Nat) (setZ cs_0))) && true) = true) ∧
 ((True ∧
 ((0 : Nat) = (0 : Nat))) ∧
 (∃ y_10 : (List UInt8), ((Lf (((List.length y_10) ≤ (List.length s)) ∧
 ((rightT y_10) = (rightT s)))) ∧
 (((List.length y_10) < (List.length x_1)) ∧
 (bif ((oldL (0 : Nat) cs_0) == (oldL (0 : Nat) cs_0)) then (((setZ cs_0) = (setZ cs_0)) ∧
 (((AV.str s_9) = (AV.str y_10)) ∧
 (((AV.ptr (0 : Nat) (256 : Nat) (0 : Nat)) = (AV.ptr (0 : Nat) (256 : Nat) (0 : Nat))) ∧
 True)))
else False))))))))
else False))))))
else (((((oldL (0 : Nat) cs_0) || (oldL (1 : Nat) (setZ cs_0))) && true) = true) ∧
 (((((oldL (0 : Nat) cs_0) || (oldL (1 : Nat) (setZ cs_0))) && true) = true) ∧
 ((∃ x_7 : (List UInt8), ((Lf (((List.length x_7) ≤ (List.length x_1)) ∧
 ((List.dropWhile isDot x_7) = (List.dropWhile isDot x_1)))) ∧
 (bif ((oldL (0 : Nat) cs_0) == (oldL (0 : Nat) cs_0)) then (((setZ cs_0) = (setZ cs_0)) ∧
 (((AV.str x_1) = (AV.str x_7)) ∧
 (((AV.ptr (0 : Nat) (256 : Nat) (0 : Nat)) = (AV.ptr (0 : Nat) (256 : Nat) (0 : Nat))) ∧
 True)))
else False))) ∧
 (∀ x_7 : (List UInt8), ((Lf (((List.length x_7) ≤ (List.length x_1)) ∧
 ((List.dropWhile isDot x_7) = (List.dropWhile isDot x_1)))) →
(∃ n_8 : Int, (((AV.int .i64 (Nat.cast (List.length x_7) : Int)) = (AV.int .i64 n_8)) ∧
 (bif (decide (n_8 > (0 : Int))) then (bif (Nat.blt (0 : Nat) (List.length x_7)) then (∃ n_9 : Int, (((AV.int .u8 (Nat.cast (UInt8.toNat (List.getD x_7 (0 : Nat) (UInt8.ofNat (0 : Nat)))) : Int)) = (AV.int .u8 n_9)) ∧
 (bif (Nat.beq (List.length (setZ cs_0)) (256 : Nat)) then (bif (((decide ((0 : Int) ≤ n_9)) && (Nat.blt (Int.toNat n_9) (256 : Nat))) && (Nat.beq (List.length (setZ cs_0)) (256 : Nat))) then (bif ((Nat.beq (List.length (setZ cs_0)) (256 : Nat)) && (Nat.blt ((0 : Nat) + ((Int.toNat n_9) * (1 : Nat))) (256 : Nat))) then (∃ b_10 : Bool, (((List.getD (List.take (1 : Nat) (List.drop ((0 : Nat) + ((Int.toNat n_9) * (1 : Nat))) (setZ cs_0))) (0 : Nat) AV.undef) = (AV.bool b_10)) ∧
 (bif b_10 then (((((oldL (0 : Nat) cs_0) || (oldL (1 : Nat) (setZ cs_0))) && true) = true) ∧
 (bif ((Nat.ble (1 : Nat) (List.length x_7)) && (Nat.ble (List.length x_7) (List.length x_7))) then (∃ s_11 : (List UInt8), (((AV.str (List.take ((List.length x_7) - (1 : Nat)) (List.drop (1 : Nat) x_7))) = (AV.str s_11)) ∧
 (((((oldL (0 : Nat) cs_0) || (oldL (1 : Nat) (setZ cs_0))) && true) = true) ∧
 ((True ∧
 ((0 : Nat) = (0 : Nat))) ∧
 (∃ y_12 : (List UInt8), ((Lf (((List.length y_12) ≤ (List.length x_1)) ∧
 ((List.dropWhile isDot y_12) = (List.dropWhile isDot x_1)))) ∧
 (((List.length y_12) < (List.length x_7)) ∧
 (bif ((oldL (0 : Nat) cs_0) == (oldL (0 : Nat) cs_0)) then (((setZ cs_0) = (setZ cs_0)) ∧
 (((AV.str s_11) = (AV.str y_12)) ∧
 (((AV.ptr (0 : Nat) (256 : Nat) (0 : Nat)) = (AV.ptr (0 : Nat) (256 : Nat) (0 : Nat))) ∧
 True)))
else False))))))))
else False))
else (((((oldL (0 : Nat) cs_0) || (oldL (1 : Nat) (setZ cs_0))) && true) = true) ∧
 (((((oldL (0 : Nat) cs_0) || (oldL (1 : Nat) (setZ cs_0))) && true) = true) ∧
 (Q (Out.ret (AV.str x_7)) [] (Gh.mk (0 : Nat) (0 : Nat) [])))))))
else False)
else False)
else False)))
else False)
else (((((oldL (0 : Nat) cs_0) || (oldL (1 : Nat) (setZ cs_0))) && true) = true) ∧
 (Q (Out.ret (AV.str x_7)) [] (Gh.mk (0 : Nat) (0 : Nat) []))))))))))))))
else False)
else False)
else False)))
else False)))))
else (((((oldL (0 : Nat) cs_0) || (oldL (1 : Nat) (setZ cs_0))) && true) = true) ∧
 ((∃ x_3 : (List UInt8), ((Lf (((List.length x_3) ≤ (List.length x_1)) ∧
 ((List.dropWhile isDot x_3) = (List.dropWhile isDot x_1)))) ∧
 (bif ((oldL (0 : Nat) cs_0) == (oldL (0 : Nat) cs_0)) then (((setZ cs_0) = (setZ cs_0)) ∧
 (((AV.str x_1) = (AV.str x_3)) ∧
 (((AV.ptr (0 : Nat) (256 : Nat) (0 : Nat)) = (AV.ptr (0 : Nat) (256 : Nat) (0 : Nat))) ∧
 True)))
else False))) ∧
 (∀ x_3 : (List UInt8), ((Lf (((List.length x_3) ≤ (List.length x_1)) ∧
 ((List.dropWhile isDot x_3) = (List.dropWhile isDot x_1)))) →
(∃ n_4 : Int, (((AV.int .i64 (Nat.cast (List.length x_3) : Int)) = (AV.int .i64 n_4)) ∧
 (bif (decide (n_4 > (0 : Int))) then (bif (Nat.blt (0 : Nat) (List.length x_3)) then (∃ n_5 : Int, (((AV.int .u8 (Nat.cast (UInt8.toNat (List.getD x_3 (0 : Nat) (UInt8.ofNat (0 : Nat)))) : Int)) = (AV.int .u8 n_5)) ∧
 (bif (Nat.beq (List.length (setZ cs_0)) (256 : Nat)) then (bif (((decide ((0 : Int) ≤ n_5)) && (Nat.blt (Int.toNat n_5) (256 : Nat))) && (Nat.beq (List.length (setZ cs_0)) (256 : Nat))) then (bif ((Nat.beq (List.length (setZ cs_0)) (256 : Nat)) && (Nat.blt ((0 : Nat) + ((Int.toNat n_5) * (1 : Nat))) (256 : Nat))) then (∃ b_6 : Bool, (((List.getD (List.take (1 : Nat) (List.drop ((0 : Nat) + ((Int.toNat n_5) * (1 : Nat))) (setZ cs_0))) (0 : Nat) AV.undef) = (AV.bool b_6)) ∧
 (bif b_6 then (((((oldL (0 : Nat) cs_0) || (oldL (1 : Nat) (setZ cs_0))) && true) = true) ∧
 (bif ((Nat.ble (1 : Nat) (List.length x_3)) && (Nat.ble (List.length x_3) (List.length x_3))) then (∃ s_7 : (List UInt8), (((AV.str (List.take ((List.length x_3) - (1 : Nat)) (List.drop (1 : Nat) x_3))) = (AV.str s_7)) ∧
 (((((oldL (0 : Nat) cs_0) || (oldL (1 : Nat) (setZ cs_0))) && true) = true) ∧
 ((True ∧
 ((0 : Nat) = (0 : Nat))) ∧
 (∃ y_8 : (List UInt8), ((Lf (((List.length y_8) ≤ (List.length x_1)) ∧
 ((List.dropWhile isDot y_8) = (List.dropWhile isDot x_1)))) ∧
 (((List.length y_8) < (List.length x_3)) ∧
 (bif ((oldL (0 : Nat) cs_0) == (oldL (0 : Nat) cs_0)) then (((setZ cs_0) = (setZ cs_0)) ∧
 (((AV.str s_7) = (AV.str y_8)) ∧
 (((AV.ptr (0 : Nat) (256 : Nat) (0 : Nat)) = (AV.ptr (0 : Nat) (256 : Nat) (0 : Nat))) ∧
 True)))
else False))))))))
else False))
else (((((oldL (0 : Nat) cs_0) || (oldL (1 : Nat) (setZ cs_0))) && true) = true) ∧
 (((((oldL (0 : Nat) cs_0) || (oldL (1 : Nat) (setZ cs_0))) && true) = true) ∧
 (Q (Out.ret (AV.str x_3)) [] (Gh.mk (0 : Nat) (0 : Nat) [])))))))
else False)
else False)
else False)))
else False)
else (((((oldL (0 : Nat) cs_0) || (oldL (1 : Nat) (setZ cs_0))) && true) = true) ∧
 (Q (Out.ret (AV.str x_3)) [] (Gh.mk (0 : Nat) (0 : Nat) []))))))))))))))))
else False))))) := by kernel_rfl

noncomputable def goal_78 (hv : Nat → Option Pa) (hb : Nat → Option Bool) (c : Int) (Q : Out → List Blk → Gh → Prop) : Prop :=
  callx (e18 sm0 (fun _ => none) hv hb) (wpx (e18 sm0 (fun _ => none) hv hb) 1000) 78 [.int .u8 c] [] {} Q
def vc_78_1 (c : Int) (Q : Out → List Blk → Gh → Prop) : Prop := (
(bif (decide (c ≥ (48 : Int))) then (bif (decide (c ≤ (57 : Int))) then (Q (Out.ret (AV.bool true)) [] (Gh.mk (0 : Nat) (0 : Nat) []))
else (bif (c == (46 : Int)) then (Q (Out.ret (AV.bool true)) [] (Gh.mk (0 : Nat) (0 : Nat) []))
else (bif (c == (45 : Int)) then (Q (Out.ret (AV.bool true)) [] (Gh.mk (0 : Nat) (0 : Nat) []))
else (Q (Out.ret (AV.bool false)) [] (Gh.mk (0 : Nat) (0 : Nat) [])))))
else (bif (c == (46 : Int)) then (Q (Out.ret (AV.bool true)) [] (Gh.mk (0 : Nat) (0 : Nat) []))
else (bif (c == (45 : Int)) then (Q (Out.ret (AV.bool true)) [] (Gh.mk (0 : Nat) (0 : Nat) []))
else (Q (Out.ret (AV.bool false)) [] (Gh.mk (0 : Nat) (0 : Nat) []))))))
def vc_78_2 (c : Int) (Q : Out → List Blk → Gh → Prop) : Prop := (
(bif (decide (c ≥ (65 : Int))) then (bif (decide (c ≤ (90 : Int))) then (Q (Out.ret (AV.bool true)) [] (Gh.mk (0 : Nat) (0 : Nat) []))
else (vc_78_1 c Q))
else (vc_78_1 c Q)))
theorem vc_78 (c : Int) (Q : Out → List Blk → Gh → Prop) : goal_78 (lookV []) (lookB []) c Q = (
(bif (decide (c ≥ (97 : Int))) then (bif (decide (c ≤ (122 : Int))) then (Q (Out.ret (AV.bool true)) [] (Gh.mk (0 : Nat) (0 : Nat) []))
else (vc_78_2 c Q))
else (vc_78_2 c Q))) := by kernel_rfl

end Go.Proofs.YtifjpcdpmimccaaGreatDoor

/-
  Chapter 4: contracts of tag; padded.
-/
import Derived.Test.YtiholnebhmjbjaaM17SJ
set_option linter.unusedSimpArgs false
set_option linter.unusedVariables false
namespace Go.Proofs.Ytiholnebhmjbjaa
open Go.RowKit
set_option maxRecDepth 1000000

def cTag : Con
  | [.str key, .str s], H, K => Lf (key.length = 32) ∧ ∀ t, Lf (t = tagM key s) → K (.ret (.str t)) H
  | _, _, _ => False
theorem tag_ok : ValidF Try.prog gl0 84 cTag := by
  refine valid_flat (enters_of (by kernel_rfl)) gl0_noY fun args H Q hc => ?_
  unfold cTag at hc
  split at hc
  · rename_i key s
    obtain ⟨⟨h1⟩, hq⟩ := hc
    obtain ⟨hv, hb', h⟩ := tag_run key s _ _ _ _ _ _ h1 rfl rfl (Q := fun o H' _ => H' = [] ∧ (∃ v, o = .ret v ∧ old 0 v = true ∧ noY v = true) ∧ Q o H) ⟨rfl, ⟨_, rfl, rfl, rfl⟩, hq _ ⟨rfl⟩⟩
    exact ⟨rfl, rfl, _, 1000, envFor04 smG_ok _ _ _, rfl, h⟩
  · exact hc.elim

def mskM : List Nat → Nat
  | [] => 0
  | k :: l => 2 ^ k + mskM l
def z8M (j : Nat) : List AV := List.replicate j (.int .u8 0)
def inv_65 (s : S) : List (List LInv) := match s.tm.get 3 with
  | .sl id tot _ len _ => (match s.hp[id]? with
    | some b => [[{ α := Nat, pre := fun j => Lf (j ≤ (16 - len % 16) % 16), st := fun j => ⟨T.put 12 (s.tm.keep (mskM [3, 6, 7, 8]) 1 0) 3 (.sl id (tot + j) 0 (len + j) 1), s.hp.set id ⟨.grow, b.lf, b.cs ++ z8M j⟩⟩, mu := fun j => 16 - j }]]
    | none => [])
  | _ => [[{ α := Nat, pre := fun _ => Lf True, st := fun _ => ⟨s.tm.keep (mskM [3, 6, 7, 8]) 1 0, s.hp⟩, mu := fun _ => 0 }]]
noncomputable def goal_65aa (hv : Nat → Option Pa) (hb : Nat → Option Bool) (t : Nat) (x y : UInt8) (a b : List UInt8) (Q : Out → List Blk → Gh → Prop) : Prop :=
  callx (e04 sm0 (fun i => bif Nat.beq i 85002 then some inv_65 else none) hv hb) (wpx (e04 sm0 (fun i => bif Nat.beq i 85002 then some inv_65 else none) hv hb) 1000) 85 [.lst t [.str (x :: a), .str (y :: b)] 2 1] [] {} Q
theorem vc_65aa (t : Nat) (x : UInt8) (y : UInt8) (a : List UInt8) (b : List UInt8) (Q : Out → List Blk → Gh → Prop) : goal_65aa (lookV [(348171, .str), (348176, .int .i64), (348177, .int .i64), (348184, .str)]) (lookB [(348174, false), (1348168192, true), (1348160000, false)]) t x y a b Q = (
(∃ s_0 : (List UInt8), (((AV.str (x :: a)) = (AV.str s_0)) ∧
 (bif (((oneL (ofBytes s_0)) && true) && (Nat.ble ((List.length s_0) * (1 : Nat)) (1099511627776 : Nat))) then (bif (Nat.blt (0 : Nat) (List.length s_0)) then (bif ((Nat.ble (List.length s_0) (1099511627776 : Nat)) && (Nat.ble ((List.length s_0) * (1 : Nat)) (1099511627776 : Nat))) then ((∃ x_1 : Nat, ((Lf (x_1 ≤ (((16 : Nat) - ((List.length s_0) % (16 : Nat))) % (16 : Nat)))) ∧
 (bif ((oldL (0 : Nat) (ofBytes s_0)) == (oldL (0 : Nat) (ofBytes s_0))) then (((ofBytes s_0) = ((ofBytes s_0) ++ (z8M x_1))) ∧
 (((AV.sl (0 : Nat) (List.length (ofBytes s_0)) (0 : Nat) (List.length s_0) (1 : Nat)) = (AV.sl (0 : Nat) ((List.length (ofBytes s_0)) + x_1) (0 : Nat) ((List.length s_0) + x_1) (1 : Nat))) ∧
 (((AV.int .i64 (2 : Int)) = (AV.int .i64 (2 : Int))) ∧
 (((AV.int .i64 (0 : Int)) = (AV.int .i64 (0 : Int))) ∧
 (((AV.lst t ((AV.str (x :: a)) :: ((AV.str (y :: b)) :: [])) (2 : Nat) (1 : Nat)) = (AV.lst t ((AV.str (x :: a)) :: ((AV.str (y :: b)) :: [])) (2 : Nat) (1 : Nat))) ∧
 True)))))
else False))) ∧
 (∀ x_1 : Nat, ((Lf (x_1 ≤ (((16 : Nat) - ((List.length s_0) % (16 : Nat))) % (16 : Nat)))) →
(bif (Nat.beq (List.length ((ofBytes s_0) ++ (z8M x_1))) ((List.length (ofBytes s_0)) + x_1)) then (∃ n_2 : Int, (((AV.int .i64 (Nat.cast ((List.length s_0) + x_1) : Int)) = (AV.int .i64 n_2)) ∧
 (∃ n_3 : Int, (((AV.int .i64 (Int.tmod n_2 (16 : Int))) = (AV.int .i64 n_3)) ∧
 (bif (n_3 != (0 : Int)) then (bif (((((Nat.beq (List.length ((ofBytes s_0) ++ (z8M x_1))) ((List.length (ofBytes s_0)) + x_1)) && true) && (Nat.beq ((0 : Nat) + (((List.length s_0) + x_1) * (1 : Nat))) ((List.length (ofBytes s_0)) + x_1))) && (Nat.ble (((List.length s_0) + x_1) + (1 : Nat)) (1099511627776 : Nat))) && (Nat.ble ((((List.length s_0) + x_1) + (1 : Nat)) * (1 : Nat)) (1099511627776 : Nat))) then ((((((oldL (0 : Nat) (ofBytes s_0)) && true) || (oldL (1 : Nat) (((ofBytes s_0) ++ (z8M x_1)) ++ ((AV.int .u8 (0 : Int)) :: [])))) && true) = true) ∧
 ((True ∧
 ((0 : Nat) = (0 : Nat))) ∧
 (∃ y_4 : Nat, ((Lf (y_4 ≤ (((16 : Nat) - ((List.length s_0) % (16 : Nat))) % (16 : Nat)))) ∧
 ((((16 : Nat) - y_4) < ((16 : Nat) - x_1)) ∧
 (bif (((oldL (0 : Nat) (ofBytes s_0)) && true) == (oldL (0 : Nat) (ofBytes s_0))) then (((((ofBytes s_0) ++ (z8M x_1)) ++ ((AV.int .u8 (0 : Int)) :: [])) = ((ofBytes s_0) ++ (z8M y_4))) ∧
 (((AV.sl (0 : Nat) (((List.length (ofBytes s_0)) + x_1) + (1 : Nat)) (0 : Nat) (((List.length s_0) + x_1) + (1 : Nat)) (1 : Nat)) = (AV.sl (0 : Nat) ((List.length (ofBytes s_0)) + y_4) (0 : Nat) ((List.length s_0) + y_4) (1 : Nat))) ∧
 (((AV.int .i64 (2 : Int)) = (AV.int .i64 (2 : Int))) ∧
 (((AV.int .i64 (0 : Int)) = (AV.int .i64 (0 : Int))) ∧
 (((AV.lst t ((AV.str (x :: a)) :: ((AV.str (y :: b)) :: [])) (2 : Nat) (1 : Nat)) = (AV.lst t ((AV.str (x :: a)) :: ((AV.str (y :: b)) :: [])) (2 : Nat) (1 : Nat))) ∧
 True)))))
else False))))))
else False)
else (∃ s_4 : (List UInt8), (((AV.str (y :: b)) = (AV.str s_4)) ∧
 (bif (((oneL (ofBytes s_4)) && true) && (Nat.ble ((List.length s_4) * (1 : Nat)) (1099511627776 : Nat))) then (bif (Nat.blt (0 : Nat) (List.length s_4)) then (bif (((((Nat.beq (List.length ((ofBytes s_0) ++ (z8M x_1))) ((List.length (ofBytes s_0)) + x_1)) && true) && (Nat.beq ((0 : Nat) + (((List.length s_0) + x_1) * (1 : Nat))) ((List.length (ofBytes s_0)) + x_1))) && (Nat.ble (((List.length s_0) + x_1) + (List.length s_4)) (1099511627776 : Nat))) && (Nat.ble ((((List.length s_0) + x_1) + (List.length s_4)) * (1 : Nat)) (1099511627776 : Nat))) then ((∃ x_5 : Nat, ((Lf (x_5 ≤ (((16 : Nat) - ((((List.length s_0) + x_1) + (List.length s_4)) % (16 : Nat))) % (16 : Nat)))) ∧
 (bif (((oldL (0 : Nat) (ofBytes s_0)) && (oldL (0 : Nat) (ofBytes s_4))) == ((oldL (0 : Nat) (ofBytes s_0)) && (oldL (0 : Nat) (ofBytes s_4)))) then (((((ofBytes s_0) ++ (z8M x_1)) ++ (ofBytes s_4)) = ((((ofBytes s_0) ++ (z8M x_1)) ++ (ofBytes s_4)) ++ (z8M x_5))) ∧
 (((AV.sl (0 : Nat) (((List.length (ofBytes s_0)) + x_1) + (List.length (ofBytes s_4))) (0 : Nat) (((List.length s_0) + x_1) + (List.length s_4)) (1 : Nat)) = (AV.sl (0 : Nat) ((((List.length (ofBytes s_0)) + x_1) + (List.length (ofBytes s_4))) + x_5) (0 : Nat) ((((List.length s_0) + x_1) + (List.length s_4)) + x_5) (1 : Nat))) ∧
 (((AV.int .i64 (2 : Int)) = (AV.int .i64 (2 : Int))) ∧
 (((AV.int .i64 (1 : Int)) = (AV.int .i64 (1 : Int))) ∧
 (((AV.lst t ((AV.str (x :: a)) :: ((AV.str (y :: b)) :: [])) (2 : Nat) (1 : Nat)) = (AV.lst t ((AV.str (x :: a)) :: ((AV.str (y :: b)) :: [])) (2 : Nat) (1 : Nat))) ∧
 True)))))
else False))) ∧
 (∀ x_5 : Nat, ((Lf (x_5 ≤ (((16 : Nat) - ((((List.length s_0) + x_1) + (List.length s_4)) % (16 : Nat))) % (16 : Nat)))) →
(bif (Nat.beq (List.length ((((ofBytes s_0) ++ (z8M x_1)) ++ (ofBytes s_4)) ++ (z8M x_5))) ((((List.length (ofBytes s_0)) + x_1) + (List.length (ofBytes s_4))) + x_5)) then (∃ n_6 : Int, (((AV.int .i64 (Nat.cast ((((List.length s_0) + x_1) + (List.length s_4)) + x_5) : Int)) = (AV.int .i64 n_6)) ∧
 (∃ n_7 : Int, (((AV.int .i64 (Int.tmod n_6 (16 : Int))) = (AV.int .i64 n_7)) ∧
 (bif (n_7 != (0 : Int)) then (bif (((((Nat.beq (List.length ((((ofBytes s_0) ++ (z8M x_1)) ++ (ofBytes s_4)) ++ (z8M x_5))) ((((List.length (ofBytes s_0)) + x_1) + (List.length (ofBytes s_4))) + x_5)) && true) && (Nat.beq ((0 : Nat) + (((((List.length s_0) + x_1) + (List.length s_4)) + x_5) * (1 : Nat))) ((((List.length (ofBytes s_0)) + x_1) + (List.length (ofBytes s_4))) + x_5))) && (Nat.ble (((((List.length s_0) + x_1) + (List.length s_4)) + x_5) + (1 : Nat)) (1099511627776 : Nat))) && (Nat.ble ((((((List.length s_0) + x_1) + (List.length s_4)) + x_5) + (1 : Nat)) * (1 : Nat)) (1099511627776 : Nat))) then (((((((oldL (0 : Nat) (ofBytes s_0)) && (oldL (0 : Nat) (ofBytes s_4))) && true) || (oldL (1 : Nat) (((((ofBytes s_0) ++ (z8M x_1)) ++ (ofBytes s_4)) ++ (z8M x_5)) ++ ((AV.int .u8 (0 : Int)) :: [])))) && true) = true) ∧
 ((True ∧
 ((0 : Nat) = (0 : Nat))) ∧
 (∃ y_8 : Nat, ((Lf (y_8 ≤ (((16 : Nat) - ((((List.length s_0) + x_1) + (List.length s_4)) % (16 : Nat))) % (16 : Nat)))) ∧
 ((((16 : Nat) - y_8) < ((16 : Nat) - x_5)) ∧
 (bif ((((oldL (0 : Nat) (ofBytes s_0)) && (oldL (0 : Nat) (ofBytes s_4))) && true) == ((oldL (0 : Nat) (ofBytes s_0)) && (oldL (0 : Nat) (ofBytes s_4)))) then (((((((ofBytes s_0) ++ (z8M x_1)) ++ (ofBytes s_4)) ++ (z8M x_5)) ++ ((AV.int .u8 (0 : Int)) :: [])) = ((((ofBytes s_0) ++ (z8M x_1)) ++ (ofBytes s_4)) ++ (z8M y_8))) ∧
 (((AV.sl (0 : Nat) (((((List.length (ofBytes s_0)) + x_1) + (List.length (ofBytes s_4))) + x_5) + (1 : Nat)) (0 : Nat) (((((List.length s_0) + x_1) + (List.length s_4)) + x_5) + (1 : Nat)) (1 : Nat)) = (AV.sl (0 : Nat) ((((List.length (ofBytes s_0)) + x_1) + (List.length (ofBytes s_4))) + y_8) (0 : Nat) ((((List.length s_0) + x_1) + (List.length s_4)) + y_8) (1 : Nat))) ∧
 (((AV.int .i64 (2 : Int)) = (AV.int .i64 (2 : Int))) ∧
 (((AV.int .i64 (1 : Int)) = (AV.int .i64 (1 : Int))) ∧
 (((AV.lst t ((AV.str (x :: a)) :: ((AV.str (y :: b)) :: [])) (2 : Nat) (1 : Nat)) = (AV.lst t ((AV.str (x :: a)) :: ((AV.str (y :: b)) :: [])) (2 : Nat) (1 : Nat))) ∧
 True)))))
else False))))))
else False)
else (bif ((((Nat.beq (List.length ((((ofBytes s_0) ++ (z8M x_1)) ++ (ofBytes s_4)) ++ (z8M x_5))) ((((List.length (ofBytes s_0)) + x_1) + (List.length (ofBytes s_4))) + x_5)) && (Nat.ble ((0 : Nat) + ((((List.length s_0) + x_1) + (List.length s_4)) + x_5)) ((((List.length (ofBytes s_0)) + x_1) + (List.length (ofBytes s_4))) + x_5))) && true) && (allU8 (List.take ((((List.length s_0) + x_1) + (List.length s_4)) + x_5) (List.drop (0 : Nat) ((((ofBytes s_0) ++ (z8M x_1)) ++ (ofBytes s_4)) ++ (z8M x_5)))))) then (∃ s_8 : (List UInt8), (((AV.str (List.map toB (List.take ((((List.length s_0) + x_1) + (List.length s_4)) + x_5) (List.drop (0 : Nat) ((((ofBytes s_0) ++ (z8M x_1)) ++ (ofBytes s_4)) ++ (z8M x_5)))))) = (AV.str s_8)) ∧
 (Q (Out.ret (AV.str s_8)) [] (Gh.mk (0 : Nat) (0 : Nat) []))))
else False))))))
else False))))
else False)
else False)
else False))))))))
else False))))
else False)
else False)
else False)))) := by kernel_rfl

noncomputable def goal_65na (hv : Nat → Option Pa) (hb : Nat → Option Bool) (t : Nat) (y : UInt8) (b : List UInt8) (Q : Out → List Blk → Gh → Prop) : Prop :=
  callx (e04 sm0 (fun i => bif Nat.beq i 85002 then some inv_65 else none) hv hb) (wpx (e04 sm0 (fun i => bif Nat.beq i 85002 then some inv_65 else none) hv hb) 1000) 85 [.lst t [.str [], .str (y :: b)] 2 1] [] {} Q
theorem vc_65na (t : Nat) (y : UInt8) (b : List UInt8) (Q : Out → List Blk → Gh → Prop) : goal_65na (lookV [(348176, .int .i64), (348177, .int .i64), (348184, .str)]) (lookB [(1348160000, false), (1348168192, true)]) t y b Q = (
((∃ x_0 : Nat, ((Lf True) ∧
 ((AV.nils = AV.nils) ∧
 (((AV.int .i64 (2 : Int)) = (AV.int .i64 (2 : Int))) ∧
 (((AV.int .i64 (0 : Int)) = (AV.int .i64 (0 : Int))) ∧
 (((AV.lst t ((AV.str []) :: ((AV.str (y :: b)) :: [])) (2 : Nat) (1 : Nat)) = (AV.lst t ((AV.str []) :: ((AV.str (y :: b)) :: [])) (2 : Nat) (1 : Nat))) ∧
 True)))))) ∧
 (Nat →
((Lf True) →
(∃ n_0 : Int, (((AV.int .i64 (0 : Int)) = (AV.int .i64 n_0)) ∧
 (∃ n_1 : Int, (((AV.int .i64 (Int.tmod n_0 (16 : Int))) = (AV.int .i64 n_1)) ∧
 (bif (n_1 != (0 : Int)) then ((false = true) ∧
 ((True ∧
 ((0 : Nat) = (0 : Nat))) ∧
 (∃ y_2 : Nat, ((Lf True) ∧
 (((0 : Nat) < (0 : Nat)) ∧
 (((AV.sl (1 : Nat) (1 : Nat) (0 : Nat) (1 : Nat) (1 : Nat)) = AV.nils) ∧
 (((AV.int .i64 (2 : Int)) = (AV.int .i64 (2 : Int))) ∧
 (((AV.int .i64 (0 : Int)) = (AV.int .i64 (0 : Int))) ∧
 (((AV.lst t ((AV.str []) :: ((AV.str (y :: b)) :: [])) (2 : Nat) (1 : Nat)) = (AV.lst t ((AV.str []) :: ((AV.str (y :: b)) :: [])) (2 : Nat) (1 : Nat))) ∧
 True)))))))))
else (bif (((oneL (ofBytes (y :: b))) && true) && (Nat.ble ((List.length (y :: b)) * (1 : Nat)) (1099511627776 : Nat))) then (bif ((Nat.ble (List.length (y :: b)) (1099511627776 : Nat)) && (Nat.ble ((List.length (y :: b)) * (1 : Nat)) (1099511627776 : Nat))) then ((∃ x_2 : Nat, ((Lf (x_2 ≤ (((16 : Nat) - ((List.length (y :: b)) % (16 : Nat))) % (16 : Nat)))) ∧
 (bif ((oldL (0 : Nat) (ofBytes (y :: b))) == (oldL (0 : Nat) (ofBytes (y :: b)))) then (((ofBytes (y :: b)) = ((ofBytes (y :: b)) ++ (z8M x_2))) ∧
 (((AV.sl (0 : Nat) (List.length (ofBytes (y :: b))) (0 : Nat) (List.length (y :: b)) (1 : Nat)) = (AV.sl (0 : Nat) ((List.length (ofBytes (y :: b))) + x_2) (0 : Nat) ((List.length (y :: b)) + x_2) (1 : Nat))) ∧
 (((AV.int .i64 (2 : Int)) = (AV.int .i64 (2 : Int))) ∧
 (((AV.int .i64 (1 : Int)) = (AV.int .i64 (1 : Int))) ∧
 (((AV.lst t ((AV.str []) :: ((AV.str (y :: b)) :: [])) (2 : Nat) (1 : Nat)) = (AV.lst t ((AV.str []) :: ((AV.str (y :: b)) :: [])) (2 : Nat) (1 : Nat))) ∧
 True)))))
else False))) ∧
 (∀ x_2 : Nat, ((Lf (x_2 ≤ (((16 : Nat) - ((List.length (y :: b)) % (16 : Nat))) % (16 : Nat)))) →
(bif (Nat.beq (List.length ((ofBytes (y :: b)) ++ (z8M x_2))) ((List.length (ofBytes (y :: b))) + x_2)) then (∃ n_3 : Int, (((AV.int .i64 (Nat.cast ((List.length (y :: b)) + x_2) : Int)) = (AV.int .i64 n_3)) ∧
 (∃ n_4 : Int, (((AV.int .i64 (Int.tmod n_3 (16 : Int))) = (AV.int .i64 n_4)) ∧
 (bif (n_4 != (0 : Int)) then (bif (((((Nat.beq (List.length ((ofBytes (y :: b)) ++ (z8M x_2))) ((List.length (ofBytes (y :: b))) + x_2)) && true) && (Nat.beq ((0 : Nat) + (((List.length (y :: b)) + x_2) * (1 : Nat))) ((List.length (ofBytes (y :: b))) + x_2))) && (Nat.ble (((List.length (y :: b)) + x_2) + (1 : Nat)) (1099511627776 : Nat))) && (Nat.ble ((((List.length (y :: b)) + x_2) + (1 : Nat)) * (1 : Nat)) (1099511627776 : Nat))) then ((((((oldL (0 : Nat) (ofBytes (y :: b))) && true) || (oldL (1 : Nat) (((ofBytes (y :: b)) ++ (z8M x_2)) ++ ((AV.int .u8 (0 : Int)) :: [])))) && true) = true) ∧
 ((True ∧
 ((0 : Nat) = (0 : Nat))) ∧
 (∃ y_5 : Nat, ((Lf (y_5 ≤ (((16 : Nat) - ((List.length (y :: b)) % (16 : Nat))) % (16 : Nat)))) ∧
 ((((16 : Nat) - y_5) < ((16 : Nat) - x_2)) ∧
 (bif (((oldL (0 : Nat) (ofBytes (y :: b))) && true) == (oldL (0 : Nat) (ofBytes (y :: b)))) then (((((ofBytes (y :: b)) ++ (z8M x_2)) ++ ((AV.int .u8 (0 : Int)) :: [])) = ((ofBytes (y :: b)) ++ (z8M y_5))) ∧
 (((AV.sl (0 : Nat) (((List.length (ofBytes (y :: b))) + x_2) + (1 : Nat)) (0 : Nat) (((List.length (y :: b)) + x_2) + (1 : Nat)) (1 : Nat)) = (AV.sl (0 : Nat) ((List.length (ofBytes (y :: b))) + y_5) (0 : Nat) ((List.length (y :: b)) + y_5) (1 : Nat))) ∧
 (((AV.int .i64 (2 : Int)) = (AV.int .i64 (2 : Int))) ∧
 (((AV.int .i64 (1 : Int)) = (AV.int .i64 (1 : Int))) ∧
 (((AV.lst t ((AV.str []) :: ((AV.str (y :: b)) :: [])) (2 : Nat) (1 : Nat)) = (AV.lst t ((AV.str []) :: ((AV.str (y :: b)) :: [])) (2 : Nat) (1 : Nat))) ∧
 True)))))
else False))))))
else False)
else (bif ((((Nat.beq (List.length ((ofBytes (y :: b)) ++ (z8M x_2))) ((List.length (ofBytes (y :: b))) + x_2)) && (Nat.ble ((0 : Nat) + ((List.length (y :: b)) + x_2)) ((List.length (ofBytes (y :: b))) + x_2))) && true) && (allU8 (List.take ((List.length (y :: b)) + x_2) (List.drop (0 : Nat) ((ofBytes (y :: b)) ++ (z8M x_2)))))) then (∃ s_5 : (List UInt8), (((AV.str (List.map toB (List.take ((List.length (y :: b)) + x_2) (List.drop (0 : Nat) ((ofBytes (y :: b)) ++ (z8M x_2)))))) = (AV.str s_5)) ∧
 (Q (Out.ret (AV.str s_5)) [] (Gh.mk (0 : Nat) (0 : Nat) []))))
else False))))))
else False))))
else False)
else False)))))))))) := by kernel_rfl

noncomputable def goal_65an (hv : Nat → Option Pa) (hb : Nat → Option Bool) (t : Nat) (x : UInt8) (a : List UInt8) (Q : Out → List Blk → Gh → Prop) : Prop :=
  callx (e04 sm0 (fun i => bif Nat.beq i 85002 then some inv_65 else none) hv hb) (wpx (e04 sm0 (fun i => bif Nat.beq i 85002 then some inv_65 else none) hv hb) 1000) 85 [.lst t [.str (x :: a), .str []] 2 1] [] {} Q
theorem vc_65an (t : Nat) (x : UInt8) (a : List UInt8) (Q : Out → List Blk → Gh → Prop) : goal_65an (lookV [(348176, .int .i64), (348177, .int .i64), (348184, .str)]) (lookB [(1348168192, true), (1348160000, false)]) t x a Q = (
(bif (((oneL (ofBytes (x :: a))) && true) && (Nat.ble ((List.length (x :: a)) * (1 : Nat)) (1099511627776 : Nat))) then (bif ((Nat.ble (List.length (x :: a)) (1099511627776 : Nat)) && (Nat.ble ((List.length (x :: a)) * (1 : Nat)) (1099511627776 : Nat))) then ((∃ x_0 : Nat, ((Lf (x_0 ≤ (((16 : Nat) - ((List.length (x :: a)) % (16 : Nat))) % (16 : Nat)))) ∧
 (bif ((oldL (0 : Nat) (ofBytes (x :: a))) == (oldL (0 : Nat) (ofBytes (x :: a)))) then (((ofBytes (x :: a)) = ((ofBytes (x :: a)) ++ (z8M x_0))) ∧
 (((AV.sl (0 : Nat) (List.length (ofBytes (x :: a))) (0 : Nat) (List.length (x :: a)) (1 : Nat)) = (AV.sl (0 : Nat) ((List.length (ofBytes (x :: a))) + x_0) (0 : Nat) ((List.length (x :: a)) + x_0) (1 : Nat))) ∧
 (((AV.int .i64 (2 : Int)) = (AV.int .i64 (2 : Int))) ∧
 (((AV.int .i64 (0 : Int)) = (AV.int .i64 (0 : Int))) ∧
 (((AV.lst t ((AV.str (x :: a)) :: ((AV.str []) :: [])) (2 : Nat) (1 : Nat)) = (AV.lst t ((AV.str (x :: a)) :: ((AV.str []) :: [])) (2 : Nat) (1 : Nat))) ∧
 True)))))
else False))) ∧
 (∀ x_0 : Nat, ((Lf (x_0 ≤ (((16 : Nat) - ((List.length (x :: a)) % (16 : Nat))) % (16 : Nat)))) →
(bif (Nat.beq (List.length ((ofBytes (x :: a)) ++ (z8M x_0))) ((List.length (ofBytes (x :: a))) + x_0)) then (∃ n_1 : Int, (((AV.int .i64 (Nat.cast ((List.length (x :: a)) + x_0) : Int)) = (AV.int .i64 n_1)) ∧
 (∃ n_2 : Int, (((AV.int .i64 (Int.tmod n_1 (16 : Int))) = (AV.int .i64 n_2)) ∧
 (bif (n_2 != (0 : Int)) then (bif (((((Nat.beq (List.length ((ofBytes (x :: a)) ++ (z8M x_0))) ((List.length (ofBytes (x :: a))) + x_0)) && true) && (Nat.beq ((0 : Nat) + (((List.length (x :: a)) + x_0) * (1 : Nat))) ((List.length (ofBytes (x :: a))) + x_0))) && (Nat.ble (((List.length (x :: a)) + x_0) + (1 : Nat)) (1099511627776 : Nat))) && (Nat.ble ((((List.length (x :: a)) + x_0) + (1 : Nat)) * (1 : Nat)) (1099511627776 : Nat))) then ((((((oldL (0 : Nat) (ofBytes (x :: a))) && true) || (oldL (1 : Nat) (((ofBytes (x :: a)) ++ (z8M x_0)) ++ ((AV.int .u8 (0 : Int)) :: [])))) && true) = true) ∧
 ((True ∧
 ((0 : Nat) = (0 : Nat))) ∧
 (∃ y_3 : Nat, ((Lf (y_3 ≤ (((16 : Nat) - ((List.length (x :: a)) % (16 : Nat))) % (16 : Nat)))) ∧
 ((((16 : Nat) - y_3) < ((16 : Nat) - x_0)) ∧
 (bif (((oldL (0 : Nat) (ofBytes (x :: a))) && true) == (oldL (0 : Nat) (ofBytes (x :: a)))) then (((((ofBytes (x :: a)) ++ (z8M x_0)) ++ ((AV.int .u8 (0 : Int)) :: [])) = ((ofBytes (x :: a)) ++ (z8M y_3))) ∧
 (((AV.sl (0 : Nat) (((List.length (ofBytes (x :: a))) + x_0) + (1 : Nat)) (0 : Nat) (((List.length (x :: a)) + x_0) + (1 : Nat)) (1 : Nat)) = (AV.sl (0 : Nat) ((List.length (ofBytes (x :: a))) + y_3) (0 : Nat) ((List.length (x :: a)) + y_3) (1 : Nat))) ∧
 (((AV.int .i64 (2 : Int)) = (AV.int .i64 (2 : Int))) ∧
 (((AV.int .i64 (0 : Int)) = (AV.int .i64 (0 : Int))) ∧
 (((AV.lst t ((AV.str (x :: a)) :: ((AV.str []) :: [])) (2 : Nat) (1 : Nat)) = (AV.lst t ((AV.str (x :: a)) :: ((AV.str []) :: [])) (2 : Nat) (1 : Nat))) ∧
 True)))))
else False))))))
else False)
else (bif ((Nat.beq (List.length ((ofBytes (x :: a)) ++ (z8M x_0))) ((List.length (ofBytes (x :: a))) + x_0)) && true) then ((∃ x_3 : Nat, ((Lf (x_3 ≤ (((16 : Nat) - (((List.length (x :: a)) + x_0) % (16 : Nat))) % (16 : Nat)))) ∧
 (bif ((oldL (0 : Nat) (ofBytes (x :: a))) == (oldL (0 : Nat) (ofBytes (x :: a)))) then ((((ofBytes (x :: a)) ++ (z8M x_0)) = (((ofBytes (x :: a)) ++ (z8M x_0)) ++ (z8M x_3))) ∧
 (((AV.sl (0 : Nat) ((List.length (ofBytes (x :: a))) + x_0) (0 : Nat) ((List.length (x :: a)) + x_0) (1 : Nat)) = (AV.sl (0 : Nat) (((List.length (ofBytes (x :: a))) + x_0) + x_3) (0 : Nat) (((List.length (x :: a)) + x_0) + x_3) (1 : Nat))) ∧
 (((AV.int .i64 (2 : Int)) = (AV.int .i64 (2 : Int))) ∧
 (((AV.int .i64 (1 : Int)) = (AV.int .i64 (1 : Int))) ∧
 (((AV.lst t ((AV.str (x :: a)) :: ((AV.str []) :: [])) (2 : Nat) (1 : Nat)) = (AV.lst t ((AV.str (x :: a)) :: ((AV.str []) :: [])) (2 : Nat) (1 : Nat))) ∧
 True)))))
else False))) ∧
 (∀ x_3 : Nat, ((Lf (x_3 ≤ (((16 : Nat) - (((List.length (x :: a)) + x_0) % (16 : Nat))) % (16 : Nat)))) →
(bif (Nat.beq (List.length (((ofBytes (x :: a)) ++ (z8M x_0)) ++ (z8M x_3))) (((List.length (ofBytes (x :: a))) + x_0) + x_3)) then (∃ n_4 : Int, (((AV.int .i64 (Nat.cast (((List.length (x :: a)) + x_0) + x_3) : Int)) = (AV.int .i64 n_4)) ∧
 (∃ n_5 : Int, (((AV.int .i64 (Int.tmod n_4 (16 : Int))) = (AV.int .i64 n_5)) ∧
 (bif (n_5 != (0 : Int)) then (bif (((((Nat.beq (List.length (((ofBytes (x :: a)) ++ (z8M x_0)) ++ (z8M x_3))) (((List.length (ofBytes (x :: a))) + x_0) + x_3)) && true) && (Nat.beq ((0 : Nat) + ((((List.length (x :: a)) + x_0) + x_3) * (1 : Nat))) (((List.length (ofBytes (x :: a))) + x_0) + x_3))) && (Nat.ble ((((List.length (x :: a)) + x_0) + x_3) + (1 : Nat)) (1099511627776 : Nat))) && (Nat.ble (((((List.length (x :: a)) + x_0) + x_3) + (1 : Nat)) * (1 : Nat)) (1099511627776 : Nat))) then ((((((oldL (0 : Nat) (ofBytes (x :: a))) && true) || (oldL (1 : Nat) ((((ofBytes (x :: a)) ++ (z8M x_0)) ++ (z8M x_3)) ++ ((AV.int .u8 (0 : Int)) :: [])))) && true) = true) ∧
 ((True ∧
 ((0 : Nat) = (0 : Nat))) ∧
 (∃ y_6 : Nat, ((Lf (y_6 ≤ (((16 : Nat) - (((List.length (x :: a)) + x_0) % (16 : Nat))) % (16 : Nat)))) ∧
 ((((16 : Nat) - y_6) < ((16 : Nat) - x_3)) ∧
 (bif (((oldL (0 : Nat) (ofBytes (x :: a))) && true) == (oldL (0 : Nat) (ofBytes (x :: a)))) then ((((((ofBytes (x :: a)) ++ (z8M x_0)) ++ (z8M x_3)) ++ ((AV.int .u8 (0 : Int)) :: [])) = (((ofBytes (x :: a)) ++ (z8M x_0)) ++ (z8M y_6))) ∧
 (((AV.sl (0 : Nat) ((((List.length (ofBytes (x :: a))) + x_0) + x_3) + (1 : Nat)) (0 : Nat) ((((List.length (x :: a)) + x_0) + x_3) + (1 : Nat)) (1 : Nat)) = (AV.sl (0 : Nat) (((List.length (ofBytes (x :: a))) + x_0) + y_6) (0 : Nat) (((List.length (x :: a)) + x_0) + y_6) (1 : Nat))) ∧
 (((AV.int .i64 (2 : Int)) = (AV.int .i64 (2 : Int))) ∧
 (((AV.int .i64 (1 : Int)) = (AV.int .i64 (1 : Int))) ∧
 (((AV.lst t ((AV.str (x :: a)) :: ((AV.str []) :: [])) (2 : Nat) (1 : Nat)) = (AV.lst t ((AV.str (x :: a)) :: ((AV.str []) :: [])) (2 : Nat) (1 : Nat))) ∧
 True)))))
else False))))))
else False)
else (bif ((((Nat.beq (List.length (((ofBytes (x :: a)) ++ (z8M x_0)) ++ (z8M x_3))) (((List.length (ofBytes (x :: a))) + x_0) + x_3)) && (Nat.ble ((0 : Nat) + (((List.length (x :: a)) + x_0) + x_3)) (((List.length (ofBytes (x :: a))) + x_0) + x_3))) && true) && (allU8 (List.take (((List.length (x :: a)) + x_0) + x_3) (List.drop (0 : Nat) (((ofBytes (x :: a)) ++ (z8M x_0)) ++ (z8M x_3)))))) then (∃ s_6 : (List UInt8), (((AV.str (List.map toB (List.take (((List.length (x :: a)) + x_0) + x_3) (List.drop (0 : Nat) (((ofBytes (x :: a)) ++ (z8M x_0)) ++ (z8M x_3)))))) = (AV.str s_6)) ∧
 (Q (Out.ret (AV.str s_6)) [] (Gh.mk (0 : Nat) (0 : Nat) []))))
else False))))))
else False))))
else False))))))
else False))))
else False)
else False)) := by kernel_rfl

noncomputable def goal_65nn (hv : Nat → Option Pa) (hb : Nat → Option Bool) (t : Nat)  (Q : Out → List Blk → Gh → Prop) : Prop :=
  callx (e04 sm0 (fun i => bif Nat.beq i 85002 then some inv_65 else none) hv hb) (wpx (e04 sm0 (fun i => bif Nat.beq i 85002 then some inv_65 else none) hv hb) 1000) 85 [.lst t [.str [], .str []] 2 1] [] {} Q
theorem vc_65nn (t : Nat) (Q : Out → List Blk → Gh → Prop) : goal_65nn (lookV []) (lookB [(1348160000, false)]) t Q = (
((∃ x_0 : Nat, ((Lf True) ∧
 ((AV.nils = AV.nils) ∧
 (((AV.int .i64 (2 : Int)) = (AV.int .i64 (2 : Int))) ∧
 (((AV.int .i64 (0 : Int)) = (AV.int .i64 (0 : Int))) ∧
 (((AV.lst t ((AV.str []) :: ((AV.str []) :: [])) (2 : Nat) (1 : Nat)) = (AV.lst t ((AV.str []) :: ((AV.str []) :: [])) (2 : Nat) (1 : Nat))) ∧
 True)))))) ∧
 (Nat →
((Lf True) →
((∃ x_0 : Nat, ((Lf True) ∧
 ((AV.nils = AV.nils) ∧
 (((AV.int .i64 (2 : Int)) = (AV.int .i64 (2 : Int))) ∧
 (((AV.int .i64 (1 : Int)) = (AV.int .i64 (1 : Int))) ∧
 (((AV.lst t ((AV.str []) :: ((AV.str []) :: [])) (2 : Nat) (1 : Nat)) = (AV.lst t ((AV.str []) :: ((AV.str []) :: [])) (2 : Nat) (1 : Nat))) ∧
 True)))))) ∧
 (Nat →
((Lf True) →
(Q (Out.ret (AV.str [])) [] (Gh.mk (0 : Nat) (0 : Nat) []))))))))) := by kernel_rfl

end Go.Proofs.Ytiholnebhmjbjaa

/-
  Chapter 18: Match's residual.
-/
import Derived.Test.YtifjpcdpmimccaaGreatDoorB18ZB
set_option linter.unusedSimpArgs false
set_option linter.unusedVariables false
set_option linter.unusedSectionVars false
namespace Go.Proofs.YtifjpcdpmimccaaGreatDoor
open Go.RowKit
set_option maxRecDepth 1000000

def inv_89 (l : List (List UInt8)) (s : S) : List (List LInv) := [[{ α := Nat, pre := fun i => Lf (i ≤ l.length ∧ ∀ j, j < i → fingM (l.getD j []) = true), st := fun i => ⟨mkT [(0, s.tm.get 0), (1, s.tm.get 1), (7, s.tm.get 7), (8, .int .i64 (i : Nat))], s.hp⟩, mu := fun i => l.length - i }]]
def inv_36 (l : List (List UInt8)) (s : S) : List (List LInv) := match s.tm.get 1 with
  | .str x => [[{ α := Nat, pre := fun i => Lf (i ≤ l.length ∧ ∀ j, j < i → eqB x (l.getD j []) = false), st := fun i => ⟨mkT [(0, s.tm.get 0), (1, s.tm.get 1), (7, s.tm.get 7), (8, .int .i64 (i : Nat))], s.hp⟩, mu := fun i => l.length - i }]]
  | _ => []
noncomputable def env_28 (hv : Nat → Option Pa) (hb : Nat → Option Bool) (l : List (List UInt8)) : Env := e18 smCk (fun i => bif Nat.beq i 89000 then some (inv_89 l) else bif Nat.beq i 36000 then some (inv_36 l) else none) hv hb
noncomputable def goal_28 (hv : Nat → Option Pa) (hb : Nat → Option Bool) (tg : Nat) (l : List (List UInt8)) (n k : List UInt8) (f u m : Int) (Q : Out → List Blk → Gh → Prop) : Prop :=
  callx (env_28 hv hb l) (wpx (env_28 hv hb l) 1000) 28 [.agg (bdg n k f u m), .lst tg (cellsSM l) l.length 1] [] {} Q
def vc_28_1 (tg : Nat) (l : List (List UInt8)) (n : List UInt8) (k : List UInt8) (f : Int) (u : Int) (m : Int) (Q : Out → List Blk → Gh → Prop) : Prop :=
Lf (n.length ≤ 9223372036854775807) ∧ ∀ s_0 : List UInt8, Lf (s_0 = shownM (sumSM (encBM n k f u m).1)) → exI .i64 (l.length : Int) fun n_1 => (∃ x_2 : Nat, Lf (x_2 ≤ l.length ∧ ∀ j_3 : Nat, j_3 < x_2 → eqB s_0 (l.getD j_3 []) = false) ∧
 eqqQ [AV.str n, .str k, .int .i64 f, .int .i64 u, .int .i64 m] ∧ eqqQ (AV.lst tg (cellsSM l) l.length 1) ∧ eqqQ (AV.str s_0) ∧ eqqQ (AV.int .i64 n_1) ∧ AV.int .i64 0 = AV.int .i64 (x_2 : Int) ∧ True) ∧ ∀ x_2 : Nat, Lf (x_2 ≤ l.length ∧ ∀
 j_3 : Nat, j_3 < x_2 → eqB s_0 (l.getD j_3 []) = false) → bif decide ((x_2 : Int) < n_1) then exI .i64 (x_2 : Int) fun n_3 => ckQ (decide (0 ≤ n_3) && Nat.blt n_3.toNat l.length && true) (ckQ (Nat.blt (n_3.toNat * 1) (cellsSM l).length)
 (exS ((cellsSM l).getD (n_3.toNat * 1) AV.undef) fun s_4 => bif eqB s_0 s_4 then bif decide (n_3 < 0) then Q (.ret (.tup [.int .i64 0, .int .i64 4])) [] {} else Q (.ret (.tup [.int .i64 n_3, .int .i64 0])) [] {} else exW .i64 ((x_2 : Int)
 + 1) fun n_5 => (True ∧ (0 : Nat) = (0 : Nat)) ∧ ∃ y_6 : Nat, Lf (y_6 ≤ l.length ∧ ∀ j_7 : Nat, j_7 < y_6 → eqB s_0 (l.getD j_7 []) = false) ∧ l.length - y_6 < l.length - x_2 ∧ eqqQ [AV.str n, .str k, .int .i64 f, .int .i64 u, .int .i64 m]
 ∧ eqqQ (AV.lst tg (cellsSM l) l.length 1) ∧ eqqQ (AV.str s_0) ∧ eqqQ (AV.int .i64 n_1) ∧ AV.int .i64 n_5 = AV.int .i64 (y_6 : Int) ∧ True)) else Q (.ret (.tup [.int .i64 0, .int .i64 4])) [] {}
theorem vc_28 (tg : Nat) (l : List (List UInt8)) (n : List UInt8) (k : List UInt8) (f : Int) (u : Int) (m : Int) (Q : Out → List Blk → Gh → Prop) : goal_28 (lookV [(114699, .int .i64), (364551, .int .i64), (364554, .int .i64), (364559,
 .str), (364562, .int .i64), (147463, .int .i64), (147466, .int .i64), (147471, .str), (147474, .int .i64)]) (lookB []) tg l n k f u m Q = (Lf (n.length ≤ 9223372036854775807) ∧ ∀ b_0 : Bool, Lf (b_0 = rightBM n k f u m) → bif b_0 then exI
 .i64 (l.length : Int) fun n_1 => bif decide (n_1 > 8) then Q (.ret (.tup [.int .i64 0, .int .i64 3])) [] {} else exI .i64 (l.length : Int) fun n_2 => (∃ x_3 : Nat, Lf (x_3 ≤ l.length ∧ ∀ j_4 : Nat, j_4 < x_3 → fingM (l.getD j_4 []) = true)
 ∧ eqqQ [AV.str n, .str k, .int .i64 f, .int .i64 u, .int .i64 m] ∧ eqqQ (AV.lst tg (cellsSM l) l.length 1) ∧ eqqQ (AV.fn (Fn.func 61) [] []) ∧ eqqQ (AV.int .i64 n_2) ∧ AV.int .i64 0 = AV.int .i64 (x_3 : Int) ∧ True) ∧ ∀ x_3 : Nat, Lf (x_3
 ≤ l.length ∧ ∀ j_4 : Nat, j_4 < x_3 → fingM (l.getD j_4 []) = true) → bif decide ((x_3 : Int) < n_2) then exI .i64 (x_3 : Int) fun n_4 => ckQ (decide (0 ≤ n_4) && Nat.blt n_4.toNat l.length && true) (ckQ (Nat.blt (n_4.toNat * 1) (cellsSM
 l).length) (exS ((cellsSM l).getD (n_4.toNat * 1) AV.undef) fun s_5 => Lf (s_5.length ≤ 9223372036854775807) ∧ ∀ b_6 : Bool, Lf (b_6 = fingM s_5) → bif b_6 then exW .i64 ((x_3 : Int) + 1) fun n_7 => (True ∧ (0 : Nat) = (0 : Nat)) ∧ ∃ y_8 :
 Nat, Lf (y_8 ≤ l.length ∧ ∀ j_9 : Nat, j_9 < y_8 → fingM (l.getD j_9 []) = true) ∧ l.length - y_8 < l.length - x_3 ∧ eqqQ [AV.str n, .str k, .int .i64 f, .int .i64 u, .int .i64 m] ∧ eqqQ (AV.lst tg (cellsSM l) l.length 1) ∧ eqqQ (AV.fn
 (Fn.func 61) [] []) ∧ eqqQ (AV.int .i64 n_2) ∧ AV.int .i64 n_7 = AV.int .i64 (y_8 : Int) ∧ True else bif decide (n_4 ≥ 0) then Q (.ret (.tup [.int .i64 0, .int .i64 5])) [] {} else vc_28_1 tg l n k f u m Q)) else vc_28_1 tg l n k f u m Q
 else Q (.ret (.tup [.int .i64 0, .int .i64 180])) [] {}) := by kernel_rfl

end Go.Proofs.YtifjpcdpmimccaaGreatDoor

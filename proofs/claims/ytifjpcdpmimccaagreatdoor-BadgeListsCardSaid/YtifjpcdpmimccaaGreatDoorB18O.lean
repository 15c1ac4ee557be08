/-
  Chapter 18: valid badges; their octets.
-/
import Derived.Test.YtifjpcdpmimccaaGreatDoorB18RG
set_option linter.unusedSimpArgs false
set_option linter.unusedVariables false
set_option linter.unusedSectionVars false
namespace Go.Proofs.YtifjpcdpmimccaaGreatDoor
open Go.RowKit
set_option maxRecDepth 1000000

def nameM (n : List UInt8) : Bool := Nat.ble 1 n.length && (Nat.ble n.length 32 && (!isDot (n.getD 0 0) && (!isDot (n.getD (n.length - 1) 0) && n.all fun c => letterM (c.toNat : Int))))
def rightBM (n k : List UInt8) (f u m : Int) : Bool := nameM n && (Nat.beq k.length 32 && (decide (0 ≤ f) && (decide (f ≤ u) && (decide (u ≤ 1099511627776) && (decide (0 ≤ m) && decide (m ≤ 281474976710655))))))
abbrev bdg (n k : List UInt8) (f u m : Int) : List AV := [.str n, .str k, .int .i64 f, .int .i64 u, .int .i64 m]
def inv_50 (n : List UInt8) (s : S) : List (List LInv) := [[{ α := Nat, pre := fun i => Lf (i ≤ n.length ∧ (n.take i).all (fun c => letterM (c.toNat : Int)) = true), st := fun i => ⟨mkT [(0, s.tm.get 0), (1, s.tm.get 1), (3, .int .i64 (i : Nat))], s.hp⟩, mu := fun i => n.length - i }]]
def smV : SM := lookS [(76, cTrim), (78, cLetter)]
theorem smV_ok : ∀ f g, smV f = some g → ValidF Tryz.prog gl0 f g := lookS_ok _ (by simp only [List.mem_cons, List.not_mem_nil, or_false, forall_eq_or_imp, forall_eq]; exact ⟨trim18_ok, letter_ok⟩)
noncomputable def env_50 (hv : Nat → Option Pa) (hb : Nat → Option Bool) (n : List UInt8) : Env := e18 smV (fun i => bif Nat.beq i 110000 then some (inv_50 n) else none) hv hb
noncomputable def goal_50 (hv : Nat → Option Pa) (hb : Nat → Option Bool) (n k : List UInt8) (f u m : Int) (Q : Out → List Blk → Gh → Prop) : Prop :=
 callx (env_50 hv hb n) (wpx (env_50 hv hb n) 1000) 50 [.agg (bdg n k f u m)] [] {} Q
theorem vc_50 (n : List UInt8) (k : List UInt8) (f : Int) (u : Int) (m : Int) (Q : Out → List Blk → Gh → Prop) : goal_50 (lookV [(204806, .int .i64), (204811, .int .i64), (450564, .int .i64), (450566, .int .i64), (450571, .int .i64),
 (450572, .int .u8), (450575, .int .i64), (450576, .int .i64), (204831, .int .i64)]) (lookB []) n k f u m Q = (exI .i64 (n.length : Int) fun n_0 => bif decide (n_0 < 1) then Q (.ret (.bool false)) [] {} else exI .i64 (n.length : Int) fun
 n_1 => bif decide (n_1 > 32) then Q (.ret (.bool false)) [] {} else Lf (n.length ≤ 9223372036854775807) ∧ ∀ x_2 : List UInt8, Lf (x_2 = trimM n) → ckQ (eqAVL [.str n] [.str n] && true) (bif !eqB x_2 n then Q (.ret (.bool false)) [] {} else
 (∃ x_3 : Nat, Lf (x_3 ≤ n.length ∧ List.all (n.take x_3) (fun (c_4 : UInt8) => letterM (UInt8.toNat c_4 : Int)) = true) ∧ eqqQ [AV.str n, .str k, .int .i64 f, .int .i64 u, .int .i64 m] ∧ eqqQ [AV.bool false] ∧ eqqQ [AV.str n] ∧ eqqQ
 (AV.yld 0) ∧ eqqQ (AV.ptr 2 1 0) ∧ AV.int .i64 0 = AV.int .i64 (x_3 : Int) ∧ True) ∧ ∀ x_3 : Nat, Lf (x_3 ≤ n.length ∧ List.all (n.take x_3) (fun (c_4 : UInt8) => letterM (UInt8.toNat c_4 : Int)) = true) → exI .i64 (x_3 : Int) fun n_4 =>
 exI .i64 (n.length : Int) fun n_5 => bif decide (n_4 < n_5) then exI .i64 (x_3 : Int) fun n_6 => ckQ (decide (0 ≤ n_6) && Nat.blt n_6.toNat n.length) (exI .u8 (UInt8.toNat (n.getD n_6.toNat (UInt8.ofNat 0)) : Int) fun n_7 => ∀ b_8 : Bool,
 Lf (b_8 = letterM n_7) → bif b_8 then exI .i64 (x_3 : Int) fun n_9 => exW .i64 (n_9 + 1) fun n_10 => (eqqQ [Lp.mk 0 (T.n (T.n (T.n (T.n (T.n T.e (.ptr 0 5 0) T.e) (.bool false) (T.n T.e (.str n) T.e)) .undef (T.n (T.n T.e (.str n) T.e)
 (.int .i64 n_1) T.e)) (.ptr 0 5 0) (T.n (T.n (T.n T.e (.str x_2) T.e) (.ptr 0 5 0) T.e) (.str n) (T.n (T.n T.e (.bool false) T.e) (.bool false) T.e))) (.agg [.str n, .str k, .int .i64 f, .int .i64 u, .int .i64 m]) (T.n (T.n (T.n (T.n T.e
 (.str n) T.e) (.bool false) (T.n T.e (.fn (Fn.func 110) [] [.ptr 2 1 0]) T.e)) (.ptr 0 5 0) (T.n (T.n T.e (.bool false) T.e) (.bool false) T.e)) (.ptr 1 1 0) (T.n (T.n (T.n T.e (.ptr 0 5 0) T.e) (.str n) T.e) (.int .i64 n_0) (T.n (T.n T.e
 (.ptr 0 5 0) T.e) (.bool false) T.e)))) [25] (rfA fn50.body) (rfB fn50.body) Lst.ready 50] ∧ (1 : Nat) = (1 : Nat)) ∧ ∃ y_11 : Nat, Lf (y_11 ≤ n.length ∧ List.all (n.take y_11) (fun (c_12 : UInt8) => letterM (UInt8.toNat c_12 : Int)) =
 true) ∧ n.length - y_11 < n.length - x_3 ∧ eqqQ [AV.str n, .str k, .int .i64 f, .int .i64 u, .int .i64 m] ∧ eqqQ [AV.bool false] ∧ eqqQ [AV.str n] ∧ eqqQ (AV.yld 0) ∧ eqqQ (AV.ptr 2 1 0) ∧ AV.int .i64 n_10 = AV.int .i64 (y_11 : Int) ∧ True
 else Q (.ret (.bool false)) [] (Gh.mk 0 1 [])) else exI .i64 (k.length : Int) fun n_6 => bif n_6 == 32 then bif decide (f ≥ 0) then bif decide (f ≤ u) then bif decide (u ≤ 1099511627776) then bif decide (m ≥ 0) then bif decide (m ≤
 281474976710655) then Q (.ret (.bool true)) [] (Gh.mk 0 1 []) else Q (.ret (.bool false)) [] (Gh.mk 0 1 []) else Q (.ret (.bool false)) [] (Gh.mk 0 1 []) else Q (.ret (.bool false)) [] (Gh.mk 0 1 []) else Q (.ret (.bool false)) [] (Gh.mk 0
 1 []) else Q (.ret (.bool false)) [] (Gh.mk 0 1 []) else Q (.ret (.bool false)) [] (Gh.mk 0 1 []))) := by kernel_rfl

end Go.Proofs.YtifjpcdpmimccaaGreatDoor

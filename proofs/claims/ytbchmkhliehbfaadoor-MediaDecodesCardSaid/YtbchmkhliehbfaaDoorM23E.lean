/-
  Chapter 23: numbers put as octets, behind a slice of the caller's own.
-/
import Derived.Test.YtbchmkhliehbfaaDoorM23D
set_option linter.unusedSimpArgs false
set_option linter.unusedVariables false
namespace Go.Proofs.YtbchmkhliehbfaaDoor
open Go.RowKit
set_option maxRecDepth 1000000

theorem ofB_len (l : List UInt8) : (ofBytes l).length = l.length := by simp [ofBytes]
theorem oldL_ofB (n : Nat) (l : List UInt8) : oldL n (ofBytes l) = true := by
  induction l with
  | nil => rfl
  | cons x l ih => simpa [ofBytes, oldL, old] using ih
theorem noY_ofB (l : List UInt8) : noYL (ofBytes l) = true := by
  induction l with
  | nil => rfl
  | cons x l ih => simpa [ofBytes, noYL, noY] using ih
/-- a number's octets, the greatest one first -/
def octM (n : Int) (i : Nat) : UInt8 := UInt8.ofNat (n / 256 ^ i % 256).toNat
def beM (n : Int) : Nat → List UInt8
  | 0 => []
  | k + 1 => octM n k :: beM n k
def putM (k : Nat) : List Int → List UInt8
  | [] => []
  | n :: l => beM n k ++ putM k l
theorem be_len (n : Int) : ∀ k, (beM n k).length = k
  | 0 => rfl
  | k + 1 => by rw [beM, List.length_cons, be_len n k]
theorem put_app (k : Nat) (a b : List Int) : putM k (a ++ b) = putM k a ++ putM k b := by
  induction a with
  | nil => rfl
  | cons x a ih => rw [List.cons_append, putM, ih, putM, List.append_assoc]
theorem put_len (k : Nat) (l : List Int) : (putM k l).length = k * l.length := by
  induction l with
  | nil => rfl
  | cons x l ih => rw [putM, List.length_append, be_len, ih, List.length_cons, Nat.mul_succ]; omega
theorem put_take (k : Nat) (l : List Int) {i : Nat} (hi : i < l.length) : putM k (l.take (i + 1)) = putM k (l.take i) ++ beM (l.getD i 0) k := by
  have e : l.take (i + 1) = l.take i ++ [l.getD i 0] := by
    rw [List.take_add_one, List.getD_eq_getElem?_getD, List.getElem?_eq_getElem hi]; rfl
  rw [e, put_app, putM, putM, List.append_nil]
end Go.Proofs.YtbchmkhliehbfaaDoor

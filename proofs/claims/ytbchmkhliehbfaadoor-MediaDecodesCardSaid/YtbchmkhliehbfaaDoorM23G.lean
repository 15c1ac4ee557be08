/-
  Chapter 23: the header of a packet.
-/
import Derived.Test.YtbchmkhliehbfaaDoorM23F
set_option linter.unusedSimpArgs false
set_option linter.unusedVariables false
namespace Go.Proofs.YtbchmkhliehbfaaDoor
open Go.RowKit
set_option maxRecDepth 1000000

def fstM (cs : List Int) (n : Nat) (pad : Int) : Int := 128 + cs.length + (if 0 < pad then 32 else 0) + (if 0 < n then 16 else 0)
def kindM (mk : Bool) (ty : Int) : Int := ty + (if mk = true then 128 else 0)
def headBM (mk : Bool) (ty seq ti ss : Int) (cs : List Int) (n : Nat) (pad : Int) : List UInt8 := putM 1 [fstM cs n pad, kindM mk ty] ++ putM 2 [seq] ++ putM 4 [ti, ss] ++ putM 4 cs
def extBM (sh : Bool) : List Xt → List UInt8
  | [] => []
  | x :: l => (if sh = true then putM 1 [x.1 * 16 + (x.2.length - 1)] else putM 1 [x.1, (x.2.length : Int)]) ++ x.2 ++ extBM sh l
def zerosM (n : Nat) : List UInt8 := List.replicate ((4 - n % 4) % 4) 0
def profM (sh : Bool) : Int := if sh = true then 48862 else 4096
def extPM (ex : List Xt) : List UInt8 := extBM (shortM ex) ex ++ zerosM (extBM (shortM ex) ex).length
def headM (mk : Bool) (ty seq ti ss : Int) (cs : List Int) (ex : List Xt) (pad : Int) : List UInt8 := headBM mk ty seq ti ss cs ex.length pad ++ (if ex.length = 0 then [] else putM 2 [profM (shortM ex), ((extPM ex).length / 4 : Nat)] ++ extPM ex)
/-- a packet's cells -/
@[reducible] def mdL (a : Bool) (b c d e : Int) (x y : AV) (p : Int) (s : List UInt8) : List AV := [.bool a, .int .i64 b, .int .i64 c, .int .i64 d, .int .i64 e, x, y, .int .i64 p, .str s]
theorem w64_in (n : Int) (h : -9223372036854775808 ≤ n ∧ n ≤ 9223372036854775807) : IntKind.wrap .i64 n = n := by rw [IntKind.wrap_i64]; omega
theorem tdI {x : Int} {m d : Nat} (hx : x = (m : Int)) (hm : m ≤ 1000000000) {K : Int → Prop} (h : K ((m / d : Nat) : Int)) : ∃ n : Int, AV.int .i64 (IntKind.wrap .i64 (Int.tdiv x (d : Int))) = AV.int .i64 n ∧ K n := by
  subst hx
  have e1 : Int.tdiv (m : Int) (d : Int) = ((m / d : Nat) : Int) := rfl
  have h2 : m / d ≤ m := Nat.div_le_self _ _
  rw [e1]
  generalize m / d = q at *
  exact ⟨_, by rw [w64_in _ ⟨by omega, by omega⟩], h⟩
theorem extB_app (sh : Bool) (a b : List Xt) : extBM sh (a ++ b) = extBM sh a ++ extBM sh b := by
  induction a with
  | nil => rfl
  | cons x a ih => simp only [List.cons_append, extBM, ih, List.append_assoc]
def pieceM (sh : Bool) (x : Xt) : List UInt8 := if sh = true then putM 1 [x.1 * 16 + (x.2.length - 1)] else putM 1 [x.1, (x.2.length : Int)]
theorem extB_take (sh : Bool) {ex : List Xt} {i : Nat} (hi : i < ex.length) : extBM sh (ex.take (i + 1)) = extBM sh (ex.take i) ++ (pieceM sh ex[i] ++ ex[i].2) := by
  rw [List.take_add_one, List.getElem?_eq_getElem hi, Option.toList_some, extB_app, extBM, extBM, List.append_nil]
  rfl
theorem piece_len (sh : Bool) (x : Xt) : 1 ≤ (pieceM sh x).length ∧ (pieceM sh x).length ≤ 2 := by
  unfold pieceM
  split
  · rw [put_len]; simp
  · rw [put_len]; simp
theorem exts_all : ∀ (l : List Xt) (a : Int), 0 ≤ a → extsOkM a l = true → ∀ x ∈ l, 0 < x.1 ∧ x.1 ≤ 255 ∧ x.2.length ≤ 255
  | [], _, _, _, x, hx => by simp at hx
  | y :: l, a, ha, h, x, hx => by
    rw [extsOkM, Bool.and_eq_true, decide_eq_true_eq] at h
    rcases List.mem_cons.1 hx with rfl | hx
    · exact ⟨by omega, h.1.2.1, h.1.2.2⟩
    · exact exts_all l y.1 (by omega) h.2 x hx
theorem extB_len (sh : Bool) : ∀ (l : List Xt), (∀ x ∈ l, x.2.length ≤ 255) → (extBM sh l).length ≤ 257 * l.length
  | [], _ => by simp [extBM]
  | x :: l, h => by
    have h1 := extB_len sh l fun y hy => h y (by simp [hy])
    have h2 := h x (by simp)
    have h3 := piece_len sh x
    have e : extBM sh (x :: l) = pieceM sh x ++ x.2 ++ extBM sh l := rfl
    rw [e, List.length_append, List.length_append, List.length_cons]
    omega
theorem short_at {ex : List Xt} (h : shortM ex = true) : ∀ x ∈ ex, x.1 ≤ 14 ∧ 1 ≤ x.2.length ∧ x.2.length ≤ 16 := fun x hx => by
  have h1 : ex.any isLongM = false := by rw [shortM, Bool.not_eq_true'] at h; exact h
  have h2 := List.any_eq_false.1 h1 x hx
  simp only [isLongM, Bool.or_eq_true, decide_eq_true_eq, not_or] at h2
  omega
theorem head_len (mk : Bool) (ty seq ti ss : Int) (cs : List Int) (n : Nat) (pad : Int) : (headBM mk ty seq ti ss cs n pad).length = 12 + 4 * cs.length := by
  unfold headBM
  simp only [List.length_append, put_len, List.length_cons, List.length_nil]
end Go.Proofs.YtbchmkhliehbfaaDoor

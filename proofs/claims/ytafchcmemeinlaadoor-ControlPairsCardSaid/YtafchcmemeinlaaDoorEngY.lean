/-
  The engine, part Y: laws for the conditions that a run over values with names leaves.
-/
import Derived.Test.YtafchcmemeinlaaDoorEngW
set_option linter.unusedSimpArgs false
set_option linter.unusedVariables false
namespace Go.Proofs.YtafchcmemeinlaaDoor
open Go.RowKit

theorem ckI {b : Bool} {A : Prop} (h : b = true) (k : A) : bif b then A else False := by rw [h]; exact k
theorem splitI {b : Bool} {A B : Prop} (h : b = true → A) (k : b = false → B) : bif b then A else B := by
  cases b
  · exact k rfl
  · exact h rfl

theorem wrapI {x : Int} {K : Int → Prop} (h1 : -9223372036854775808 ≤ x) (h2 : x ≤ 9223372036854775807) (h : K x) : ∃ n : Int, AV.int .i64 (IntKind.wrap .i64 x) = AV.int .i64 n ∧ K n :=
  ⟨x, by
    have : IntKind.wrap .i64 x = x := by rw [IntKind.wrap_i64]; omega
    rw [this], h⟩

/-- the cells of integers -/
def cellsI (xs : List Int) : List AV := xs.map (AV.int .i64)

theorem ldI {cs : List AV} {off : Nat} {xs : List Int} (h : (cs.drop off).take xs.length = cellsI xs) {i : Nat} (hi : i < xs.length) {K : Int → Prop} (hk : K xs[i]) {j : Nat} (hj : j = off + i) :
    ∃ n : Int, (List.take 1 (List.drop j cs)).getD 0 AV.undef = AV.int .i64 n ∧ K n := by
  subst hj
  refine ⟨xs[i], ?_, hk⟩
  have e : ((cs.drop off).take xs.length)[i]? = some (AV.int .i64 xs[i]) := by
    rw [h, cellsI, List.getElem?_map, List.getElem?_eq_getElem hi]; rfl
  rw [List.getElem?_take, if_pos hi, List.getElem?_drop] at e
  rw [List.getD_eq_getElem?_getD, List.getElem?_take, if_pos (by omega), List.getElem?_drop, Nat.add_zero, e]
  rfl

theorem splitD {p : Prop} [Decidable p] {A B : Prop} (h : p → A) (k : ¬ p → B) : bif decide p then A else B := by
  by_cases hp : p
  · rw [decide_eq_true hp]; exact h hp
  · rw [decide_eq_false hp]; exact k hp
theorem splitE {x y : Int} {A B : Prop} (h : x = y → A) (k : x ≠ y → B) : bif x == y then A else B := by
  by_cases hp : x = y
  · rw [beq_iff_eq.2 hp]; exact h hp
  · rw [beq_eq_false_iff_ne.2 hp]; exact k hp
theorem splitNE {x y : Int} {A B : Prop} (h : x ≠ y → A) (k : x = y → B) : bif x != y then A else B := by
  by_cases hp : x = y
  · rw [bne, beq_iff_eq.2 hp]; exact k hp
  · rw [bne, beq_eq_false_iff_ne.2 hp]; exact h hp
theorem splitNot {b : Bool} {A B : Prop} (h : bif b then B else A) : bif !b then A else B := by
  cases b <;> exact h
theorem splitAnd {a b : Bool} {A B : Prop} (h : bif a then (bif b then A else B) else B) : bif a && b then A else B := by
  cases a <;> exact h
theorem splitOr {a b : Bool} {A B : Prop} (h : bif a then A else (bif b then A else B)) : bif a || b then A else B := by
  cases a <;> exact h
theorem getI {xs : List Int} {i j : Nat} (hi : i < xs.length) (hj : j = i) {K : Int → Prop} (hk : K (xs.getD i 0)) : ∃ n : Int, (cellsI xs).getD j AV.undef = AV.int .i64 n ∧ K n := by
  subst hj
  refine ⟨_, ?_, hk⟩
  simp [cellsI, hi]
theorem wrapU8 {x : Int} {K : Int → Prop} (h1 : 0 ≤ x) (h2 : x ≤ 255) (h : K x) : ∃ n : Int, AV.int .u8 (IntKind.wrap .u8 x) = AV.int .u8 n ∧ K n :=
  ⟨x, by
    have : IntKind.wrap .u8 x = x := by rw [show IntKind.wrap .u8 x = x % 256 from rfl]; omega
    rw [this], h⟩
theorem cellsI_len (xs : List Int) : (cellsI xs).length = xs.length := by simp [cellsI]
theorem blt_t {a b : Nat} (h : a < b) : a.blt b = true := by rw [blt_iff]; exact h
theorem ble_t {a b : Nat} (h : a ≤ b) : a.ble b = true := by rw [Nat.ble_eq]; exact h
theorem beq_t {a b : Nat} (h : a = b) : a.beq b = true := by rw [nbeq]; exact h
theorem dec_t {p : Prop} [Decidable p] (h : p) : decide p = true := decide_eq_true h
theorem and_t {a b : Bool} (h : a = true) (k : b = true) : (a && b) = true := by rw [h, k]; rfl
end Go.Proofs.YtafchcmemeinlaaDoor

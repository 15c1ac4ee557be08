/-
  The engine, part Y: laws for the conditions that a run over values with names leaves.
-/
import Derived.Test.YtafchcmemeinlaaDoorEngW
namespace Go.Proofs.YtafchcmemeinlaaDoor
open Go.RowKit

theorem ckI {b : Bool} {A : Prop} (h : b = true) (k : A) : bif b then A else False := by rw [h]; exact k
theorem splitI {b : Bool} {A B : Prop} (h : b = true → A) (k : b = false → B) : bif b then A else B := by
  cases b
  · exact k rfl
  · exact h rfl

theorem wrapI {x : Int} {K : Int → Prop} (h1 : -9223372036854775808 ≤ x) (h2 : x ≤ 9223372036854775807) (h : K x) : ∃ n : Int, AV.int .i64 (IntKind.wrap .i64 x) = AV.int .i64 n ∧ K n :=
  ⟨x, by
    have : IntKind.wrap .i64 x = x := by rw [IntKind.wrap_i64]; omega
    rw [this], h⟩

/-- the cells of integers -/
def cellsI (xs : List Int) : List AV := xs.map (AV.int .i64)

theorem ldI {cs : List AV} {off : Nat} {xs : List Int} (h : (cs.drop off).take xs.length = cellsI xs) {i : Nat} (hi : i < xs.length) {K : Int → Prop} (hk : K xs[i]) {j : Nat} (hj : j = off + i) :
    ∃ n : Int, (List.take 1 (List.drop j cs)).getD 0 AV.undef = AV.int .i64 n ∧ K n := by
  subst hj
  refine ⟨xs[i], ?_, hk⟩
  have e : ((cs.drop off).take xs.length)[i]? = some (AV.int .i64 xs[i]) := by
    rw [h, cellsI, List.getElem?_map, List.getElem?_eq_getElem hi]; rfl
  rw [List.getElem?_take, if_pos hi, List.getElem?_drop] at e
  rw [List.getD_eq_getElem?_getD, List.getElem?_take, if_pos (by omega), List.getElem?_drop, Nat.add_zero, e]
  rfl
end Go.Proofs.YtafchcmemeinlaaDoor

/-
  Chapter 24: what several runs use: loads of pairs, lists that were lent, octets; arguments of other shapes.
-/
import Derived.Test.YtafchcmemeinlaaDoorC24J
import Derived.WideShapes
set_option linter.unusedSimpArgs false
set_option linter.unusedVariables false
namespace Go.Proofs.YtafchcmemeinlaaDoor
open Go.RowKit
set_option maxRecDepth 1000000

def fstM (ps : List (Int × Int)) (i : Nat) : Int := (ps.getD i (0, 0)).1
def sndM (ps : List (Int × Int)) (i : Nat) : Int := (ps.getD i (0, 0)).2
theorem cellsPM_get : ∀ (ps : List (Int × Int)) (i : Nat), i < ps.length → (cellsPM ps)[2 * i]? = some (.int .i64 (fstM ps i)) ∧ (cellsPM ps)[2 * i + 1]? = some (.int .i64 (sndM ps i))
  | [], i, h => by simp at h
  | p :: ps, 0, _ => ⟨rfl, rfl⟩
  | p :: ps, i + 1, h => by
    have := cellsPM_get ps i (by simpa using h)
    simpa [cellsPM, fstM, sndM, Nat.mul_add] using this
theorem aggP {ps : List (Int × Int)} {i j : Nat} (hi : i < ps.length) (hj : j = 2 * i) {K : Int → Int → Prop} (hk : K (fstM ps i) (sndM ps i)) :
    ∃ a : Int, ∃ b : Int, AV.agg (List.take 2 (List.drop j (cellsPM ps))) = AV.agg (AV.int .i64 a :: AV.int .i64 b :: []) ∧ K a b := by
  obtain ⟨h1, h2⟩ := cellsPM_get ps i hi
  refine ⟨_, _, ?_, hk⟩
  subst hj
  have hl := cellsPM_len ps
  rw [List.drop_eq_getElem_cons (by omega), List.drop_eq_getElem_cons (by omega)]
  rw [List.getElem?_eq_getElem (by omega)] at h1 h2
  simp only [List.take_succ_cons, List.take_zero, Option.some.inj h1, Option.some.inj h2]
theorem getP0 {ps : List (Int × Int)} {i j : Nat} (hi : i < ps.length) (hj : j = 2 * i) {K : Int → Prop} (hk : K (fstM ps i)) : ∃ n : Int, (cellsPM ps).getD j AV.undef = AV.int .i64 n ∧ K n := by
  refine ⟨_, ?_, hk⟩
  rw [hj, List.getD_eq_getElem?_getD, (cellsPM_get ps i hi).1]
  rfl
theorem bitI {m : Int} {k j : Nat} (hm : 0 ≤ m ∧ m ≤ 65535) (hj : j = k) (hk : k ≤ 15) {K : Int → Prop} (h : K (m / 2 ^ k % 2)) :
    ∃ z : Int, AV.int .i64 (IntKind.wrap .i64 (((Int.fdiv m (2 ^ min j 64) % 18446744073709551616).toNat &&& 1 : Nat) : Int)) = AV.int .i64 z ∧ K z := by
  subst hj
  have hp : 0 < (2 : Int) ^ j := Int.pow_pos (by omega)
  rw [Nat.min_eq_left (by omega), Int.fdiv_eq_ediv_of_nonneg _ (by omega)]
  have h1 : 0 ≤ m / 2 ^ j := Int.ediv_nonneg hm.1 (by omega)
  have h2 : m / 2 ^ j ≤ m := Int.ediv_le_self _ hm.1
  refine ⟨_, ?_, h⟩
  have e1 : ((m / 2 ^ j) % 18446744073709551616).toNat &&& 1 = ((m / 2 ^ j) % 18446744073709551616).toNat % 2 := Nat.and_one_is_mod _
  have e2 : IntKind.wrap .i64 ((((m / 2 ^ j) % 18446744073709551616).toNat % 2 : Nat) : Int) = m / 2 ^ j % 2 := by
    rw [IntKind.wrap_i64]
    generalize m / 2 ^ j = q at *
    omega
  rw [e1, e2]
theorem lendI (τ : Nat) (H : List Blk) (d : Nat) (xs : List Int) {n : Nat} (hn : n = xs.length) : List.map (fun x => frzV τ H (d + 1) x) (List.take (n * 1) (List.drop 0 (cellsI xs))) = cellsI xs := by
  subst hn
  rw [List.drop_zero, List.take_of_length_le (by rw [cellsI_len]; omega)]
  exact frzL_cellsI τ H d xs
theorem cells8M_len (ks : List Int) : (cells8M ks).length = ks.length := by simp [cells8M]
theorem get8 {ks : List Int} {i j : Nat} (hi : i < ks.length) (hj : j = i) {K : Int → Prop} (hk : K (ks.getD i 0)) : ∃ n : Int, (cells8M ks).getD j AV.undef = AV.int .u8 n ∧ K n := by
  subst hj
  refine ⟨_, ?_, hk⟩
  simp [cells8M, hi]
theorem cells8_take {kk ks : List Int} {n : Nat} (h : kk.take n = ks) {m : Nat} (hm : m = ks.length) : List.take (m * 1) (List.drop 0 (cells8M kk)) = cells8M ks := by
  subst hm
  subst h
  rw [List.drop_zero, Nat.mul_one, cells8M, cells8M, ← List.map_take]
  congr 1
  rw [List.length_take, List.take_eq_take_iff]
  omega
theorem octets_of : ∀ (ls : List (List AV)), (∀ x ∈ ls, ∃ n : Int, x = [.int .u8 n] ∧ (Lit.int .u8 n).wf = true) → ∃ ks : List Int, ls.flatten = cells8M ks ∧ ls.length = ks.length ∧ ∀ k ∈ ks, 0 ≤ k ∧ k ≤ 255
  | [], _ => ⟨[], rfl, rfl, by simp⟩
  | x :: ls, h => by
    obtain ⟨n, rfl, hn⟩ := h x (by simp)
    obtain ⟨ks, h1, h2, h3⟩ := octets_of ls fun y hy => h y (by simp [hy])
    refine ⟨n :: ks, ?_, by simp [h2], ?_⟩
    · rw [List.flatten_cons, h1]; rfl
    · intro k hk
      rcases List.mem_cons.1 hk with rfl | hk
      · simp [Lit.wf, IntKind.min, IntKind.max, IntKind.signed, IntKind.bits] at hn
        omega
      · exact h3 k hk
theorem und_39 : Tryd.prog.underlying 39 = some (.slice 5) := by kernel_rfl
theorem und_5 : Tryd.prog.underlying 5 = some (.int .u8) := by kernel_rfl
theorem cells_5 : Tryd.prog.cellsOf 5 = 1 := by kernel_rfl
theorem good_39 : goodT Tryd.prog 3 39 = true := by kernel_rfl
theorem octets_open {H : Type} {enc : TypeId × Value → H} {w : World} {v : Value} {d : DataW H} {p : List MemPlace} {base : Nat} (hval : Value.okWide Tryd.prog w .any base 39 v) (h : DataW.Trod enc Tryd.prog w 0 (fun _ => true) true 39 v d p) :
    ∃ ks : List Int, VRL (mAll w) [.lst 0 (cells8M ks) ks.length 1] [v] ∧ ks.length ≤ 9223372036854775807 ∧ ∀ k ∈ ks, 0 ≤ k ∧ k ≤ 255 := by
  obtain ⟨a, len, cap, rfl⟩ := Go.WideShapes.okWide_slice und_39 hval
  obtain ⟨m, hm⟩ := h
  obtain ⟨_, l, hl, hs⟩ := deep_ok 3 39 m [.slice a len cap] (d, p) good_39 (by simpa [Value.cells] using hm)
  rw [shP] at hs
  simp only [und_39, cells_5] at hs
  obtain ⟨ls, h1, h2, rfl⟩ := hs
  obtain ⟨ks, k1, k2, k3⟩ := octets_of ls fun x hx => by
    have := (h1 x hx).1
    rw [shP] at this
    simp only [und_5] at this
    exact this
  rw [k1, k2] at hl
  refine ⟨ks, hl, ?_, k3⟩
  rw [← k2]
  unfold maxLen at h2
  omega

end Go.Proofs.YtafchcmemeinlaaDoor

/-
  Chapter 18: the shown text of a badge.
-/
import Derived.Test.YtifjpcdpmimccaaGreatDoorBnK
import Derived.Test.YtifjpcdpmimccaaGreatDoorBnG
import Derived.Test.YtifjpcdpmimccaaGreatDoorB18J2
set_option linter.unusedSimpArgs false
set_option linter.unusedVariables false
set_option linter.unusedSectionVars false
namespace Go.Proofs.YtifjpcdpmimccaaGreatDoor
open Go.RowKit
set_option maxRecDepth 1000000

def hexL : List UInt8 := [UInt8.ofNat 48, UInt8.ofNat 49, UInt8.ofNat 50, UInt8.ofNat 51, UInt8.ofNat 52, UInt8.ofNat 53, UInt8.ofNat 54, UInt8.ofNat 55, UInt8.ofNat 56, UInt8.ofNat 57, UInt8.ofNat 65, UInt8.ofNat 66, UInt8.ofNat 67, UInt8.ofNat 68, UInt8.ofNat 69, UInt8.ofNat 70]
def hex2M (c : UInt8) : List UInt8 := [hexL.getD (c.toNat / 16) (UInt8.ofNat 0), hexL.getD (c.toNat % 16) (UInt8.ofNat 0)]
def preM : List UInt8 := [UInt8.ofNat 115, UInt8.ofNat 104, UInt8.ofNat 97, UInt8.ofNat 45, UInt8.ofNat 50, UInt8.ofNat 53, UInt8.ofNat 54, UInt8.ofNat 32]
def shownM (d : List UInt8) : List UInt8 := preM ++ joinM (d.map hex2M) [58]
def smP : SM := lookS [(22, cEncB), (82, cSum82), (83, cJoinV)]
theorem smP_ok : ∀ f g, smP f = some g → ValidF Tryz.prog gl0 f g := lookS_ok _ (by simp only [List.mem_cons, List.not_mem_nil, or_false, forall_eq_or_imp, forall_eq]; exact ⟨encB_ok, sum82_ok, joinV_ok⟩)
abbrev hx (d : List UInt8) : List (List UInt8) := d.map hex2M
def inv_56 (d : List UInt8) (s : S) : List (List LInv) := match s.hp with
 | [a, _, c] => [[
  { α := Nat, pre := fun i => Lf (i = 0), st := fun i => s, mu := fun i => 100 },
  { α := Nat, pre := fun i => Lf (1 ≤ i ∧ i ≤ d.length ∧ d.length = 32), st := fun i => ⟨mkT [(0, s.tm.get 0), (1, s.tm.get 1), (3, .int .i64 (i : Nat))], [a, ⟨.exact, false, [.sl 5 i 0 i 1]⟩, c, ⟨.exact, true, ofBytes (hex2M (d.getD 0 0))⟩, ⟨.exact, true, cellsSM (hx (d.take 1))⟩, ⟨.grow, true, cellsSM (hx (d.take i))⟩]⟩, mu := fun i => 33 - i }]]
 | _ => []
noncomputable def env_56 (hv : Nat → Option Pa) (hb : Nat → Option Bool) (d : List UInt8) : Env := e18 smP (fun i => bif Nat.beq i 110000 then some (inv_56 d) else none) hv hb
noncomputable def goal_56 (hv : Nat → Option Pa) (hb : Nat → Option Bool) (d n k : List UInt8) (f u m : Int) (Q : Out → List Blk → Gh → Prop) : Prop :=
 callx (env_56 hv hb d) (wpx (env_56 hv hb d) 1000) 56 [.agg (bdg n k f u m)] [] {} Q
theorem vc_56 (d : List UInt8) (n : List UInt8) (k : List UInt8) (f : Int) (u : Int) (m : Int) (Q : Out → List Blk → Gh → Prop) : goal_56 (lookV [(450566, .int .i64), (450572, .int .u8), (229400, .int .u8), (229401, .int .u8), (229403, .int
 .u8), (229404, .int .u8), (229406, .str), (229411, .str), (450564, .int .i64), (450571, .int .i64), (450575, .int .i64), (450576, .int .i64)]) (lookB []) d n k f u m Q = (Lf (n.length ≤ 9223372036854775807) ∧ ∀ s_0 : List UInt8, ∀ e_1 :
 Int, Lf (encBM n k f u m = Prod.mk s_0 e_1) → Lf (s_0.length ≤ 4096) ∧ ∀ x_2 : List UInt8, Lf (x_2 = sumSM s_0) → ((∃ x_3 : Nat, Lf (x_3 = 0) ∧ eqqQ [AV.str n, .str k, .int .i64 f, .int .i64 u, .int .i64 m] ∧ [AV.nils] = [AV.nils] ∧ eqqQ
 [AV.str x_2] ∧ eqqQ (AV.yld 0) ∧ eqqQ (AV.ptr 2 1 0) ∧ eqqQ (AV.int .i64 0) ∧ True) ∨ ∃ x_3 : Nat, Lf (1 ≤ x_3 ∧ x_3 ≤ d.length ∧ d.length = 32) ∧ eqqQ [AV.str n, .str k, .int .i64 f, .int .i64 u, .int .i64 m] ∧ False) ∧ (∀ x_3 : Nat, Lf
 (x_3 = 0) → exI .i64 0 fun n_4 => exI .i64 (x_2.length : Int) fun n_5 => bif decide (n_4 < n_5) then exI .i64 0 fun n_6 => ckQ (decide (0 ≤ n_6) && Nat.blt n_6.toNat x_2.length) (exI .u8 (UInt8.toNat (x_2.getD n_6.toNat (UInt8.ofNat 0)) :
 Int) fun n_7 => exW .u8 (n_7.tdiv 16) fun n_8 => ckQ (decide (0 ≤ n_8) && Nat.blt n_8.toNat 16) (exI .u8 (UInt8.toNat (List.getD [UInt8.ofNat 48, UInt8.ofNat 49, UInt8.ofNat 50, UInt8.ofNat 51, UInt8.ofNat 52, UInt8.ofNat 53, UInt8.ofNat
 54, UInt8.ofNat 55, UInt8.ofNat 56, UInt8.ofNat 57, UInt8.ofNat 65, UInt8.ofNat 66, UInt8.ofNat 67, UInt8.ofNat 68, UInt8.ofNat 69, UInt8.ofNat 70] n_8.toNat (UInt8.ofNat 0)) : Int) fun n_9 => exI .u8 (n_7.tmod 16) fun n_10 => ckQ (decide
 (0 ≤ n_10) && Nat.blt n_10.toNat 16) (exI .u8 (UInt8.toNat (List.getD [UInt8.ofNat 48, UInt8.ofNat 49, UInt8.ofNat 50, UInt8.ofNat 51, UInt8.ofNat 52, UInt8.ofNat 53, UInt8.ofNat 54, UInt8.ofNat 55, UInt8.ofNat 56, UInt8.ofNat 57,
 UInt8.ofNat 65, UInt8.ofNat 66, UInt8.ofNat 67, UInt8.ofNat 68, UInt8.ofNat 69, UInt8.ofNat 70] n_10.toNat (UInt8.ofNat 0)) : Int) fun n_11 => exS (.str [toB (.int .u8 n_9), toB (.int .u8 n_11)]) fun s_12 => exI .i64 0 fun n_13 => exW .i64
 (n_13 + 1) fun n_14 => (eqqQ [Lp.mk 0 (T.n (T.n (T.n (T.n (T.n T.e (.str s_0) T.e) (.ptr 1 1 0) T.e) (.str s_0) (T.n (T.n T.e (.str x_2) T.e) (.tup [.str s_0, .int .i64 e_1]) T.e)) (.ptr 0 5 0) (T.n (T.n (T.n T.e (.str x_2) T.e) (.tup
 [.str s_0, .int .i64 e_1]) T.e) (.str x_2) (T.n T.e (.int .i64 e_1) T.e))) (.agg [.str n, .str k, .int .i64 f, .int .i64 u, .int .i64 m]) (T.n (T.n (T.n (T.n T.e (.tup [.str x_2, .int .i64 0]) T.e) .undef T.e) (.int .i64 e_1) (T.n (T.n T.e
 (.fn (Fn.func 110) [] [.ptr 2 1 0]) T.e) (.str s_0) T.e)) (.str []) (T.n (T.n (T.n T.e (.int .i64 0) T.e) (.agg [.str n, .str k, .int .i64 f, .int .i64 u, .int .i64 m]) T.e) (.int .i64 0) (T.n T.e (.tup [.str x_2, .int .i64 0]) T.e))))
 [21] (rfA fn56.body) (rfB fn56.body) Lst.ready 56] ∧ (1 : Nat) = (1 : Nat)) ∧ ((∃ y_15 : Nat, Lf (y_15 = 0) ∧ (100 : Nat) < (100 : Nat) ∧ eqqQ [AV.str n, .str k, .int .i64 f, .int .i64 u, .int .i64 m] ∧ False) ∨ ∃ y_15 : Nat, Lf (1 ≤ y_15
 ∧ y_15 ≤ d.length ∧ d.length = 32) ∧ 33 - y_15 < 100 ∧ eqqQ [AV.str n, .str k, .int .i64 f, .int .i64 u, .int .i64 m] ∧ [AV.sl 5 1 0 1 1] = [AV.sl 5 y_15 0 y_15 1] ∧ eqqQ [AV.str x_2] ∧ [AV.int .u8 n_9, .int .u8 n_11] = [AV.int .u8
 (UInt8.toNat (List.getD [UInt8.ofNat 48, UInt8.ofNat 49, UInt8.ofNat 50, UInt8.ofNat 51, UInt8.ofNat 52, UInt8.ofNat 53, UInt8.ofNat 54, UInt8.ofNat 55, UInt8.ofNat 56, UInt8.ofNat 57, UInt8.ofNat 65, UInt8.ofNat 66, UInt8.ofNat 67,
 UInt8.ofNat 68, UInt8.ofNat 69, UInt8.ofNat 70] (UInt8.toNat (d.getD 0 (UInt8.ofNat 0)) / 16) (UInt8.ofNat 0)) : Int), .int .u8 (UInt8.toNat (List.getD [UInt8.ofNat 48, UInt8.ofNat 49, UInt8.ofNat 50, UInt8.ofNat 51, UInt8.ofNat 52,
 UInt8.ofNat 53, UInt8.ofNat 54, UInt8.ofNat 55, UInt8.ofNat 56, UInt8.ofNat 57, UInt8.ofNat 65, UInt8.ofNat 66, UInt8.ofNat 67, UInt8.ofNat 68, UInt8.ofNat 69, UInt8.ofNat 70] (UInt8.toNat (d.getD 0 (UInt8.ofNat 0)) % 16) (UInt8.ofNat 0))
 : Int)] ∧ [AV.str s_12] = cellsSM (List.map hex2M (d.take 1)) ∧ [AV.str s_12] = cellsSM (List.map hex2M (d.take y_15)) ∧ eqqQ (AV.yld 0) ∧ eqqQ (AV.ptr 2 1 0) ∧ AV.int .i64 n_14 = AV.int .i64 (y_15 : Int) ∧ True)))) else ∃ l_6 : List (List
 UInt8), Lf (([] : List AV) = cellsSM l_6 ∧ 0 = l_6.length ∧ l_6.length ≤ 1000 ∧ (joinM l_6 [58]).length ≤ 1000000) ∧ ∀ x_7 : List UInt8, Lf (x_7 = joinM l_6 [58]) → ckQ (decide (8 + x_7.length ≤ 9223372036854775807) && true) (exS (.str
 ([UInt8.ofNat 115, UInt8.ofNat 104, UInt8.ofNat 97, UInt8.ofNat 45, UInt8.ofNat 50, UInt8.ofNat 53, UInt8.ofNat 54, UInt8.ofNat 32] ++ x_7)) fun s_8 => Q (.ret (.str s_8)) [] (Gh.mk 0 1 []))) ∧ ∀ x_3 : Nat, Lf (1 ≤ x_3 ∧ x_3 ≤ d.length ∧
 d.length = 32) → exI .i64 (x_3 : Int) fun n_4 => exI .i64 (x_2.length : Int) fun n_5 => bif decide (n_4 < n_5) then exI .i64 (x_3 : Int) fun n_6 => ckQ (decide (0 ≤ n_6) && Nat.blt n_6.toNat x_2.length) (exI .u8 (UInt8.toNat (x_2.getD
 n_6.toNat (UInt8.ofNat 0)) : Int) fun n_7 => exW .u8 (n_7.tdiv 16) fun n_8 => ckQ (decide (0 ≤ n_8) && Nat.blt n_8.toNat 16) (exI .u8 (UInt8.toNat (List.getD [UInt8.ofNat 48, UInt8.ofNat 49, UInt8.ofNat 50, UInt8.ofNat 51, UInt8.ofNat 52,
 UInt8.ofNat 53, UInt8.ofNat 54, UInt8.ofNat 55, UInt8.ofNat 56, UInt8.ofNat 57, UInt8.ofNat 65, UInt8.ofNat 66, UInt8.ofNat 67, UInt8.ofNat 68, UInt8.ofNat 69, UInt8.ofNat 70] n_8.toNat (UInt8.ofNat 0)) : Int) fun n_9 => exI .u8 (n_7.tmod
 16) fun n_10 => ckQ (decide (0 ≤ n_10) && Nat.blt n_10.toNat 16) (exI .u8 (UInt8.toNat (List.getD [UInt8.ofNat 48, UInt8.ofNat 49, UInt8.ofNat 50, UInt8.ofNat 51, UInt8.ofNat 52, UInt8.ofNat 53, UInt8.ofNat 54, UInt8.ofNat 55, UInt8.ofNat
 56, UInt8.ofNat 57, UInt8.ofNat 65, UInt8.ofNat 66, UInt8.ofNat 67, UInt8.ofNat 68, UInt8.ofNat 69, UInt8.ofNat 70] n_10.toNat (UInt8.ofNat 0)) : Int) fun n_11 => exS (.str [toB (.int .u8 n_9), toB (.int .u8 n_11)]) fun s_12 => ckQ
 (Nat.beq (cellsSM (List.map hex2M (d.take x_3))).length x_3 && true && Nat.beq (0 + x_3 * 1) x_3 && Nat.ble (x_3 + 1) 1099511627776 && Nat.ble ((x_3 + 1) * 16) 1099511627776) (exI .i64 (x_3 : Int) fun n_13 => exW .i64 (n_13 + 1) fun n_14
 => (eqqQ [Lp.mk 0 (T.n (T.n (T.n (T.n (T.n T.e (.str s_0) T.e) (.ptr 1 1 0) T.e) (.str s_0) (T.n (T.n T.e (.str x_2) T.e) (.tup [.str s_0, .int .i64 e_1]) T.e)) (.ptr 0 5 0) (T.n (T.n (T.n T.e (.str x_2) T.e) (.tup [.str s_0, .int .i64
 e_1]) T.e) (.str x_2) (T.n T.e (.int .i64 e_1) T.e))) (.agg [.str n, .str k, .int .i64 f, .int .i64 u, .int .i64 m]) (T.n (T.n (T.n (T.n T.e (.tup [.str x_2, .int .i64 0]) T.e) .undef T.e) (.int .i64 e_1) (T.n (T.n T.e (.fn (Fn.func 110)
 [] [.ptr 2 1 0]) T.e) (.str s_0) T.e)) (.str []) (T.n (T.n (T.n T.e (.int .i64 0) T.e) (.agg [.str n, .str k, .int .i64 f, .int .i64 u, .int .i64 m]) T.e) (.int .i64 0) (T.n T.e (.tup [.str x_2, .int .i64 0]) T.e)))) [21] (rfA fn56.body)
 (rfB fn56.body) Lst.ready 56] ∧ (1 : Nat) = (1 : Nat)) ∧ ((∃ y_15 : Nat, Lf (y_15 = 0) ∧ 100 < 33 - x_3 ∧ eqqQ [AV.str n, .str k, .int .i64 f, .int .i64 u, .int .i64 m] ∧ False) ∨ ∃ y_15 : Nat, Lf (1 ≤ y_15 ∧ y_15 ≤ d.length ∧ d.length =
 32) ∧ 33 - y_15 < 33 - x_3 ∧ eqqQ [AV.str n, .str k, .int .i64 f, .int .i64 u, .int .i64 m] ∧ [AV.sl 5 (x_3 + 1) 0 (x_3 + 1) 1] = [AV.sl 5 y_15 0 y_15 1] ∧ eqqQ [AV.str x_2] ∧ eqqQ [AV.int .u8 (UInt8.toNat (List.getD [UInt8.ofNat 48,
 UInt8.ofNat 49, UInt8.ofNat 50, UInt8.ofNat 51, UInt8.ofNat 52, UInt8.ofNat 53, UInt8.ofNat 54, UInt8.ofNat 55, UInt8.ofNat 56, UInt8.ofNat 57, UInt8.ofNat 65, UInt8.ofNat 66, UInt8.ofNat 67, UInt8.ofNat 68, UInt8.ofNat 69, UInt8.ofNat 70]
 (UInt8.toNat (d.getD 0 (UInt8.ofNat 0)) / 16) (UInt8.ofNat 0)) : Int), .int .u8 (UInt8.toNat (List.getD [UInt8.ofNat 48, UInt8.ofNat 49, UInt8.ofNat 50, UInt8.ofNat 51, UInt8.ofNat 52, UInt8.ofNat 53, UInt8.ofNat 54, UInt8.ofNat 55,
 UInt8.ofNat 56, UInt8.ofNat 57, UInt8.ofNat 65, UInt8.ofNat 66, UInt8.ofNat 67, UInt8.ofNat 68, UInt8.ofNat 69, UInt8.ofNat 70] (UInt8.toNat (d.getD 0 (UInt8.ofNat 0)) % 16) (UInt8.ofNat 0)) : Int)] ∧ eqqQ (cellsSM (List.map hex2M (d.take
 1))) ∧ cellsSM (List.map hex2M (d.take x_3)) ++ [AV.str s_12] = cellsSM (List.map hex2M (d.take y_15)) ∧ eqqQ (AV.yld 0) ∧ eqqQ (AV.ptr 2 1 0) ∧ AV.int .i64 n_14 = AV.int .i64 (y_15 : Int) ∧ True))))) else ckQ (Nat.beq (cellsSM (List.map
 hex2M (d.take x_3))).length x_3 && Nat.ble (0 + x_3 * 1) x_3 && true) (∃ l_6 : List (List UInt8), Lf (List.map (fun (x_7 : AV) => frzV 1 [Blk.mk BK.exact true [.str n, .str k, .int .i64 f, .int .i64 u, .int .i64 m], Blk.mk BK.exact false
 [.sl 5 x_3 0 x_3 1], Blk.mk BK.exact true [.str x_2], Blk.mk BK.exact true [.int .u8 (UInt8.toNat (List.getD [UInt8.ofNat 48, UInt8.ofNat 49, UInt8.ofNat 50, UInt8.ofNat 51, UInt8.ofNat 52, UInt8.ofNat 53, UInt8.ofNat 54, UInt8.ofNat 55,
 UInt8.ofNat 56, UInt8.ofNat 57, UInt8.ofNat 65, UInt8.ofNat 66, UInt8.ofNat 67, UInt8.ofNat 68, UInt8.ofNat 69, UInt8.ofNat 70] (UInt8.toNat (d.getD 0 (UInt8.ofNat 0)) / 16) (UInt8.ofNat 0)) : Int), .int .u8 (UInt8.toNat (List.getD
 [UInt8.ofNat 48, UInt8.ofNat 49, UInt8.ofNat 50, UInt8.ofNat 51, UInt8.ofNat 52, UInt8.ofNat 53, UInt8.ofNat 54, UInt8.ofNat 55, UInt8.ofNat 56, UInt8.ofNat 57, UInt8.ofNat 65, UInt8.ofNat 66, UInt8.ofNat 67, UInt8.ofNat 68, UInt8.ofNat
 69, UInt8.ofNat 70] (UInt8.toNat (d.getD 0 (UInt8.ofNat 0)) % 16) (UInt8.ofNat 0)) : Int)], Blk.mk BK.exact true (cellsSM (List.map hex2M (d.take 1))), Blk.mk BK.grow true (cellsSM (List.map hex2M (d.take x_3)))] 8 x_7) (((cellsSM
 (List.map hex2M (d.take x_3))).drop 0).take (x_3 * 1)) = cellsSM l_6 ∧ x_3 = l_6.length ∧ l_6.length ≤ 1000 ∧ (joinM l_6 [58]).length ≤ 1000000) ∧ ∀ x_7 : List UInt8, Lf (x_7 = joinM l_6 [58]) → ckQ (decide (8 + x_7.length ≤
 9223372036854775807) && true) (exS (.str ([UInt8.ofNat 115, UInt8.ofNat 104, UInt8.ofNat 97, UInt8.ofNat 45, UInt8.ofNat 50, UInt8.ofNat 53, UInt8.ofNat 54, UInt8.ofNat 32] ++ x_7)) fun s_8 => Q (.ret (.str s_8)) [] (Gh.mk 0 1 [])))) := by
 kernel_rfl

end Go.Proofs.YtifjpcdpmimccaaGreatDoor

set_option linter.unusedSimpArgs false
set_option linter.unusedVariables false
set_option linter.unusedSectionVars false
namespace Go.Proofs.YtifjpcdpmimccaaGreatDoor
open Go.RowKit
set_option maxRecDepth 1000000

theorem tdn (c : Nat) : (Int.tdiv (c : Int) 16).toNat = c / 16 := by
 rw [Int.tdiv_eq_ediv_of_nonneg (by omega)]; omega
theorem tmn (c : Nat) : (Int.tmod (c : Int) 16).toNat = c % 16 := by
 rw [Int.tmod_eq_emod_of_nonneg (by omega)]; omega
theorem tdu (c : UInt8) : 0 ≤ Int.tdiv (c.toNat : Int) 16 ∧ Int.tdiv (c.toNat : Int) 16 < 16 := by
 have := c.toNat_lt
 rw [Int.tdiv_eq_ediv_of_nonneg (by omega)]; omega
theorem tmu (c : UInt8) : 0 ≤ Int.tmod (c.toNat : Int) 16 ∧ Int.tmod (c.toNat : Int) 16 < 16 := by
 rw [Int.tmod_eq_emod_of_nonneg (by omega)]; omega
theorem toB_of (k : IntKind) (c : UInt8) : toB (.int k (c.toNat : Int)) = c := by
 simp [toB]
theorem hexN (c : UInt8) : [AV.int .u8 ((hexL.getD (Int.tdiv (c.toNat : Int) 16).toNat (UInt8.ofNat 0)).toNat : Int), AV.int .u8 ((hexL.getD (Int.tmod (c.toNat : Int) 16).toNat (UInt8.ofNat 0)).toNat : Int)] = ofBytes (hex2M c) := by
 rw [tdn, tmn]; rfl
theorem hexB (c : UInt8) : [toB (.int .u8 ((hexL.getD (Int.tdiv (c.toNat : Int) 16).toNat (UInt8.ofNat 0)).toNat : Int)), toB (.int .u8 ((hexL.getD (Int.tmod (c.toNat : Int) 16).toNat (UInt8.ofNat 0)).toNat : Int))] = hex2M c := by
 rw [tdn, tmn, toB_of, toB_of]; rfl
theorem take_hx {d : List UInt8} {i : Nat} (hi : i < d.length) : cellsSM (hx (d.take (i + 1))) = cellsSM (hx (d.take i)) ++ [AV.str (hex2M (d.getD i (UInt8.ofNat 0)))] := by
 rw [List.take_add_one, List.getElem?_eq_getElem hi, List.getD_eq_getElem?_getD, List.getElem?_eq_getElem hi]
 simp only [cellsSM, hx, List.map_append]
 rfl
theorem jt_len (s : List UInt8) (h : s.length ≤ 1) : ∀ d : List UInt8, (Lib.joinTail s (hx d)).length ≤ 3 * d.length
 | [] => Nat.zero_le _
 | c :: t => by
  have := jt_len s h t
  have e : Lib.joinTail s (hx (c :: t)) = (s ++ hex2M c) ++ Lib.joinTail s (hx t) := rfl
  rw [e, List.length_append, List.length_append, List.length_cons, show (hex2M c).length = 2 from rfl]
  omega
theorem join_len (s : List UInt8) (h : s.length ≤ 1) : ∀ d : List UInt8, (joinM (hx d) s).length ≤ 3 * d.length
 | [] => Nat.zero_le _
 | c :: t => by
  have := jt_len s h t
  have e : joinM (hx (c :: t)) s = hex2M c ++ Lib.joinTail s (hx t) := Lib.join_cons _ _ _
  rw [e, List.length_append, List.length_cons, show (hex2M c).length = 2 from rfl]
  omega
theorem idxOk {z : Int} {n : Nat} (h0 : 0 ≤ z) (h1 : z < n) : (decide (0 ≤ z) && Nat.blt z.toNat n) = true := by
 rw [Bool.and_eq_true, decide_eq_true_eq, Nat.blt_eq]
 exact ⟨h0, by omega⟩
theorem frzCS (H : List Blk) (l : List (List UInt8)) : (cellsSM l).map (fun x => frzV 1 H 8 x) = cellsSM l := by
 rw [cellsSM, List.map_map]
 exact List.map_congr_left fun _ _ => rfl
theorem print_run (n k d : List UInt8) (f u m : Int) (hn : n.length ≤ 9223372036854775807) (hs : (encBM n k f u m).1.length ≤ 4096) (hd : d = sumSM (encBM n k f u m).1) (Q : Out → List Blk → Gh → Prop) (hq : ∀ g, Q (.ret (.str (shownM d))) [] g) : ∃ hv hb, goal_56 hv hb d n k f u m Q := by
 obtain ⟨hv', hb', e'⟩ : ∃ hv hb, goal_56 hv hb d n k f u m Q = _ := ⟨_, _, vc_56 d n k f u m Q⟩
 refine ⟨hv', hb', e'.mpr ?_⟩
 clear e'
 have hdl : d.length = 32 := hd ▸ sumS_len _
 refine ⟨⟨hn⟩, ?_⟩
 rintro s0 e1 ⟨he⟩
 have hs0 : s0 = (encBM n k f u m).1 := by rw [he]
 refine ⟨⟨by rw [hs0]; exact hs⟩, ?_⟩
 rintro x ⟨hx0⟩
 obtain rfl : x = d := by rw [hx0, hs0, hd]
 have bd : ∀ i : Nat, (x.getD i (UInt8.ofNat 0)).toNat < 256 := fun i => UInt8.toNat_lt _
 refine ⟨.inl ⟨0, ⟨rfl⟩, rfl, rfl, rfl, rfl, rfl, rfl, trivial⟩, ?_, ?_⟩
 ·rintro i ⟨rfl⟩
  refine ⟨_, rfl, _, rfl, splitD (fun h => ?_) (fun h => absurd hdl (by omega))⟩
  have t1 := tdu (x.getD (Int.toNat 0) (UInt8.ofNat 0))
  have t2 := tmu (x.getD (Int.toNat 0) (UInt8.ofNat 0))
  refine ⟨_, rfl, ckI (idxOk (by omega) (by omega)) ⟨_, rfl, wrapU8 (by omega) (by omega) (ckI (idxOk t1.1 t1.2) ⟨_, rfl, _, rfl, ckI (idxOk t2.1 t2.2) ⟨_, rfl, _, rfl, _, rfl, wrapI (by omega) (by omega) ⟨⟨rfl, rfl⟩, .inr ⟨1, ⟨by omega, by omega, hdl⟩, by omega, rfl, rfl, rfl, hexN _, ?_, ?_, rfl, rfl, rfl, trivial⟩⟩⟩⟩)⟩⟩
  ·have e := take_hx (d := x) (i := 0) (by omega)
   refine Eq.trans ?_ e.symm
   exact congrArg (fun z => [AV.str z]) (hexB _)
  ·have e := take_hx (d := x) (i := 0) (by omega)
   refine Eq.trans ?_ e.symm
   exact congrArg (fun z => [AV.str z]) (hexB _)
 ·rintro i ⟨i1, i2, _⟩
  refine ⟨_, rfl, _, rfl, splitD (fun h => ?_) (fun h => ?_)⟩
  ·have t1 := tdu (x.getD (Int.toNat (i : Int)) (UInt8.ofNat 0))
   have t2 := tmu (x.getD (Int.toNat (i : Int)) (UInt8.ofNat 0))
   refine ⟨_, rfl, ckI (idxOk (by omega) (by omega)) ⟨_, rfl, wrapU8 (by omega) (by omega) (ckI (idxOk t1.1 t1.2) ⟨_, rfl, _, rfl, ckI (idxOk t2.1 t2.2) ⟨_, rfl, _, rfl, ckI (by simp [cellsS_len]; omega) ⟨_, rfl, wrapI (by omega) (by omega) ⟨⟨rfl, rfl⟩, .inr ⟨i + 1, ⟨by omega, by omega, hdl⟩, by omega, ?_⟩⟩⟩⟩⟩)⟩⟩
   have e := take_hx (d := x) (i := i) (by omega)
   refine ⟨rfl, rfl, rfl, rfl, rfl, ?_, rfl, rfl, rfl, trivial⟩
   refine Eq.trans ?_ e.symm
   exact congrArg (fun z => cellsSM (hx (x.take i)) ++ [AV.str z]) (hexB _)
  ·have hi : i = x.length := by omega
   subst hi
   have hl := join_len [UInt8.ofNat 58] (Nat.le_refl _) x
   refine ckI (by rw [cellsS_len, List.length_map, List.take_of_length_le (Nat.le_refl _)]; simp) ?_
   refine ⟨hx x, ⟨?_, by simp, by simp; omega, Nat.le_trans hl (by omega)⟩, ?_⟩
   ·rw [List.drop_zero, List.take_of_length_le (l := x) (Nat.le_refl _), List.take_of_length_le (l := cellsSM (List.map hex2M x)) (by rw [cellsS_len, List.length_map]; omega), frzCS]
   rintro y ⟨rfl⟩
   have hl2 : (joinM (hx x) [58]).length ≤ 3 * x.length := hl
   refine ckI (by simp; omega) ⟨_, rfl, ?_⟩
   exact hq _
def cPrintB : Con
 | [.agg [.str n, .str k, .int .i64 f, .int .i64 u, .int .i64 m]], H, K => Lf (n.length ≤ 9223372036854775807) ∧ ∀ s, Lf (s = shownM (sumSM (encBM n k f u m).1)) → K (.ret (.str s)) H
 | _, _, _ => False
theorem encB_len (n k : List UInt8) (f u m : Int) : (encBM n k f u m).1.length ≤ 86 := by
 unfold encBM
 split
 ·rename_i h
  obtain ⟨h1, h2, _⟩ := (right_iff n k f u m).1 h
  have := ((name_iff n).1 h1).2.1
  show (octBM n k f u m).length ≤ 86
  rw [octB_len]; omega
 ·simp
theorem printB_ok : ValidF Tryz.prog gl0 56 cPrintB := by
 refine valid_flat (enters_of (by kernel_rfl)) gl0_noY fun args H Q hc => ?_
 unfold cPrintB at hc
 split at hc
 ·rename_i n k f u m
  obtain ⟨⟨h1⟩, hq⟩ := hc
  obtain ⟨hv, hb', h⟩ := print_run n k _ f u m h1 (Nat.le_trans (encB_len n k f u m) (by omega)) rfl (Q := fun o H' _ => H' = [] ∧ (∃ v, o = .ret v ∧ old 0 v = true ∧ noY v = true) ∧ Q o H) (fun _ => ⟨rfl, ⟨_, rfl, rfl, rfl⟩, hq _ ⟨rfl⟩⟩)
  exact ⟨rfl, rfl, _, 1000, envFor18 smP_ok _ hv hb', rfl, h⟩
 ·exact hc.elim
end Go.Proofs.YtifjpcdpmimccaaGreatDoor

/-
  Chapter 18: the shown text of a badge.
-/
import Derived.Test.YtifjpcdpmimccaaGreatDoorB18V
import Derived.Test.YtifjpcdpmimccaaGreatDoorB18M
import Derived.Test.YtifjpcdpmimccaaGreatDoorB18J2
set_option linter.unusedSimpArgs false
set_option linter.unusedVariables false
set_option linter.unusedSectionVars false
namespace Go.Proofs.YtifjpcdpmimccaaGreatDoor
open Go.RowKit
set_option maxRecDepth 1000000

def hexL : List UInt8 := [UInt8.ofNat 48, UInt8.ofNat 49, UInt8.ofNat 50, UInt8.ofNat 51, UInt8.ofNat 52, UInt8.ofNat 53, UInt8.ofNat 54, UInt8.ofNat 55, UInt8.ofNat 56, UInt8.ofNat 57, UInt8.ofNat 65, UInt8.ofNat 66, UInt8.ofNat 67, UInt8.ofNat 68, UInt8.ofNat 69, UInt8.ofNat 70]
def hex2M (c : UInt8) : List UInt8 := [hexL.getD (c.toNat / 16) (UInt8.ofNat 0), hexL.getD (c.toNat % 16) (UInt8.ofNat 0)]
def preM : List UInt8 := [UInt8.ofNat 115, UInt8.ofNat 104, UInt8.ofNat 97, UInt8.ofNat 45, UInt8.ofNat 50, UInt8.ofNat 53, UInt8.ofNat 54, UInt8.ofNat 32]
def shownM (d : List UInt8) : List UInt8 := preM ++ joinM (d.map hex2M) [58]
def smP : SM := lookS [(22, cEncB), (82, cSum82), (83, cJoinV)]
theorem smP_ok : ∀ f g, smP f = some g → ValidF Tryz.prog gl0 f g := lookS_ok _ (by simp only [List.mem_cons, List.not_mem_nil, or_false, forall_eq_or_imp, forall_eq]; exact ⟨encB_ok, sum82_ok, joinV_ok⟩)
abbrev hx (d : List UInt8) : List (List UInt8) := d.map hex2M
def inv_56 (d : List UInt8) (s : S) : List (List LInv) := match s.hp with
  | [a, _, c] => [[
    { α := Nat, pre := fun i => Lf (i = 0), st := fun i => s, mu := fun i => 100 },
    { α := Nat, pre := fun i => Lf (1 ≤ i ∧ i ≤ d.length ∧ d.length = 32), st := fun i => ⟨mkT [(0, s.tm.get 0), (1, s.tm.get 1), (3, .int .i64 (i : Nat))], [a, ⟨.exact, false, [.sl 5 i 0 i 1]⟩, c, ⟨.exact, true, ofBytes (hex2M (d.getD 0 0))⟩, ⟨.exact, true, cellsSM (hx (d.take 1))⟩, ⟨.grow, true, cellsSM (hx (d.take i))⟩]⟩, mu := fun i => 33 - i }]]
  | _ => []
noncomputable def env_56 (hv : Nat → Option Pa) (hb : Nat → Option Bool) (d : List UInt8) : Env := e18 smP (fun i => bif Nat.beq i 110000 then some (inv_56 d) else none) hv hb
noncomputable def goal_56 (hv : Nat → Option Pa) (hb : Nat → Option Bool) (d n k : List UInt8) (f u m : Int) (Q : Out → List Blk → Gh → Prop) : Prop :=
  callx (env_56 hv hb d) (wpx (env_56 hv hb d) 1000) 56 [.agg (bdg n k f u m)] [] {} Q
theorem vc_56 (d : List UInt8) (n : List UInt8) (k : List UInt8) (f : Int) (u : Int) (m : Int) (Q : Out → List Blk → Gh → Prop) : goal_56 (lookV [(450566, .int .i64), (450572, .int .u8), (229400, .int .u8), (229401, .int .u8), (229403, .int
 .u8), (229404, .int .u8), (229406, .str), (229411, .str), (450564, .int .i64), (450571, .int .i64), (450575, .int .i64), (450576, .int .i64)]) (lookB []) d n k f u m Q = (Lf (n.length ≤ 9223372036854775807) ∧ ∀ s_0 : List UInt8, ∀ e_1 :
 Int, Lf (encBM n k f u m = Prod.mk s_0 e_1) → Lf (s_0.length ≤ 4096) ∧ ∀ x_2 : List UInt8, Lf (x_2 = sumSM s_0) → ((∃ x_3 : Nat, Lf (x_3 = 0) ∧ eqqQ [AV.str n, .str k, .int .i64 f, .int .i64 u, .int .i64 m] ∧ [AV.nils] = [AV.nils] ∧ eqqQ
 [AV.str x_2] ∧ eqqQ (AV.yld 0) ∧ eqqQ (AV.ptr 2 1 0) ∧ eqqQ (AV.int .i64 0) ∧ True) ∨ ∃ x_3 : Nat, Lf (1 ≤ x_3 ∧ x_3 ≤ d.length ∧ d.length = 32) ∧ eqqQ [AV.str n, .str k, .int .i64 f, .int .i64 u, .int .i64 m] ∧ False) ∧ (∀ x_3 : Nat, Lf
 (x_3 = 0) → exI .i64 0 fun n_4 => exI .i64 (x_2.length : Int) fun n_5 => bif decide (n_4 < n_5) then exI .i64 0 fun n_6 => ckQ (decide (0 ≤ n_6) && Nat.blt n_6.toNat x_2.length) (exI .u8 (UInt8.toNat (x_2.getD n_6.toNat (UInt8.ofNat 0)) :
 Int) fun n_7 => exW .u8 (n_7.tdiv 16) fun n_8 => ckQ (decide (0 ≤ n_8) && Nat.blt n_8.toNat 16) (exI .u8 (UInt8.toNat (List.getD [UInt8.ofNat 48, UInt8.ofNat 49, UInt8.ofNat 50, UInt8.ofNat 51, UInt8.ofNat 52, UInt8.ofNat 53, UInt8.ofNat
 54, UInt8.ofNat 55, UInt8.ofNat 56, UInt8.ofNat 57, UInt8.ofNat 65, UInt8.ofNat 66, UInt8.ofNat 67, UInt8.ofNat 68, UInt8.ofNat 69, UInt8.ofNat 70] n_8.toNat (UInt8.ofNat 0)) : Int) fun n_9 => exI .u8 (n_7.tmod 16) fun n_10 => ckQ (decide
 (0 ≤ n_10) && Nat.blt n_10.toNat 16) (exI .u8 (UInt8.toNat (List.getD [UInt8.ofNat 48, UInt8.ofNat 49, UInt8.ofNat 50, UInt8.ofNat 51, UInt8.ofNat 52, UInt8.ofNat 53, UInt8.ofNat 54, UInt8.ofNat 55, UInt8.ofNat 56, UInt8.ofNat 57,
 UInt8.ofNat 65, UInt8.ofNat 66, UInt8.ofNat 67, UInt8.ofNat 68, UInt8.ofNat 69, UInt8.ofNat 70] n_10.toNat (UInt8.ofNat 0)) : Int) fun n_11 => exS (.str [toB (.int .u8 n_9), toB (.int .u8 n_11)]) fun s_12 => exI .i64 0 fun n_13 => exW .i64
 (n_13 + 1) fun n_14 => (eqqQ [Lp.mk 0 (T.n (T.n (T.n (T.n (T.n T.e (.str s_0) T.e) (.ptr 1 1 0) T.e) (.str s_0) (T.n (T.n T.e (.str x_2) T.e) (.tup [.str s_0, .int .i64 e_1]) T.e)) (.ptr 0 5 0) (T.n (T.n (T.n T.e (.str x_2) T.e) (.tup
 [.str s_0, .int .i64 e_1]) T.e) (.str x_2) (T.n T.e (.int .i64 e_1) T.e))) (.agg [.str n, .str k, .int .i64 f, .int .i64 u, .int .i64 m]) (T.n (T.n (T.n (T.n T.e (.tup [.str x_2, .int .i64 0]) T.e) .undef T.e) (.int .i64 e_1) (T.n (T.n T.e
 (.fn (Fn.func 110) [] [.ptr 2 1 0]) T.e) (.str s_0) T.e)) (.str []) (T.n (T.n (T.n T.e (.int .i64 0) T.e) (.agg [.str n, .str k, .int .i64 f, .int .i64 u, .int .i64 m]) T.e) (.int .i64 0) (T.n T.e (.tup [.str x_2, .int .i64 0]) T.e))))
 [21] (rfA fn56.body) (rfB fn56.body) Lst.ready 56] ∧ (1 : Nat) = (1 : Nat)) ∧ ((∃ y_15 : Nat, Lf (y_15 = 0) ∧ (100 : Nat) < (100 : Nat) ∧ eqqQ [AV.str n, .str k, .int .i64 f, .int .i64 u, .int .i64 m] ∧ False) ∨ ∃ y_15 : Nat, Lf (1 ≤ y_15
 ∧ y_15 ≤ d.length ∧ d.length = 32) ∧ 33 - y_15 < 100 ∧ eqqQ [AV.str n, .str k, .int .i64 f, .int .i64 u, .int .i64 m] ∧ [AV.sl 5 1 0 1 1] = [AV.sl 5 y_15 0 y_15 1] ∧ eqqQ [AV.str x_2] ∧ [AV.int .u8 n_9, .int .u8 n_11] = [AV.int .u8
 (UInt8.toNat (List.getD [UInt8.ofNat 48, UInt8.ofNat 49, UInt8.ofNat 50, UInt8.ofNat 51, UInt8.ofNat 52, UInt8.ofNat 53, UInt8.ofNat 54, UInt8.ofNat 55, UInt8.ofNat 56, UInt8.ofNat 57, UInt8.ofNat 65, UInt8.ofNat 66, UInt8.ofNat 67,
 UInt8.ofNat 68, UInt8.ofNat 69, UInt8.ofNat 70] (UInt8.toNat (d.getD 0 (UInt8.ofNat 0)) / 16) (UInt8.ofNat 0)) : Int), .int .u8 (UInt8.toNat (List.getD [UInt8.ofNat 48, UInt8.ofNat 49, UInt8.ofNat 50, UInt8.ofNat 51, UInt8.ofNat 52,
 UInt8.ofNat 53, UInt8.ofNat 54, UInt8.ofNat 55, UInt8.ofNat 56, UInt8.ofNat 57, UInt8.ofNat 65, UInt8.ofNat 66, UInt8.ofNat 67, UInt8.ofNat 68, UInt8.ofNat 69, UInt8.ofNat 70] (UInt8.toNat (d.getD 0 (UInt8.ofNat 0)) % 16) (UInt8.ofNat 0))
 : Int)] ∧ [AV.str s_12] = cellsSM (List.map hex2M (d.take 1)) ∧ [AV.str s_12] = cellsSM (List.map hex2M (d.take y_15)) ∧ eqqQ (AV.yld 0) ∧ eqqQ (AV.ptr 2 1 0) ∧ AV.int .i64 n_14 = AV.int .i64 (y_15 : Int) ∧ True)))) else ∃ l_6 : List (List
 UInt8), Lf (([] : List AV) = cellsSM l_6 ∧ 0 = l_6.length ∧ l_6.length ≤ 1000 ∧ (joinM l_6 [58]).length ≤ 1000000) ∧ ∀ x_7 : List UInt8, Lf (x_7 = joinM l_6 [58]) → ckQ (decide (8 + x_7.length ≤ 9223372036854775807) && true) (exS (.str
 ([UInt8.ofNat 115, UInt8.ofNat 104, UInt8.ofNat 97, UInt8.ofNat 45, UInt8.ofNat 50, UInt8.ofNat 53, UInt8.ofNat 54, UInt8.ofNat 32] ++ x_7)) fun s_8 => Q (.ret (.str s_8)) [] (Gh.mk 0 1 []))) ∧ ∀ x_3 : Nat, Lf (1 ≤ x_3 ∧ x_3 ≤ d.length ∧
 d.length = 32) → exI .i64 (x_3 : Int) fun n_4 => exI .i64 (x_2.length : Int) fun n_5 => bif decide (n_4 < n_5) then exI .i64 (x_3 : Int) fun n_6 => ckQ (decide (0 ≤ n_6) && Nat.blt n_6.toNat x_2.length) (exI .u8 (UInt8.toNat (x_2.getD
 n_6.toNat (UInt8.ofNat 0)) : Int) fun n_7 => exW .u8 (n_7.tdiv 16) fun n_8 => ckQ (decide (0 ≤ n_8) && Nat.blt n_8.toNat 16) (exI .u8 (UInt8.toNat (List.getD [UInt8.ofNat 48, UInt8.ofNat 49, UInt8.ofNat 50, UInt8.ofNat 51, UInt8.ofNat 52,
 UInt8.ofNat 53, UInt8.ofNat 54, UInt8.ofNat 55, UInt8.ofNat 56, UInt8.ofNat 57, UInt8.ofNat 65, UInt8.ofNat 66, UInt8.ofNat 67, UInt8.ofNat 68, UInt8.ofNat 69, UInt8.ofNat 70] n_8.toNat (UInt8.ofNat 0)) : Int) fun n_9 => exI .u8 (n_7.tmod
 16) fun n_10 => ckQ (decide (0 ≤ n_10) && Nat.blt n_10.toNat 16) (exI .u8 (UInt8.toNat (List.getD [UInt8.ofNat 48, UInt8.ofNat 49, UInt8.ofNat 50, UInt8.ofNat 51, UInt8.ofNat 52, UInt8.ofNat 53, UInt8.ofNat 54, UInt8.ofNat 55, UInt8.ofNat
 56, UInt8.ofNat 57, UInt8.ofNat 65, UInt8.ofNat 66, UInt8.ofNat 67, UInt8.ofNat 68, UInt8.ofNat 69, UInt8.ofNat 70] n_10.toNat (UInt8.ofNat 0)) : Int) fun n_11 => exS (.str [toB (.int .u8 n_9), toB (.int .u8 n_11)]) fun s_12 => ckQ
 (Nat.beq (cellsSM (List.map hex2M (d.take x_3))).length x_3 && true && Nat.beq (0 + x_3 * 1) x_3 && Nat.ble (x_3 + 1) 1099511627776 && Nat.ble ((x_3 + 1) * 16) 1099511627776) (exI .i64 (x_3 : Int) fun n_13 => exW .i64 (n_13 + 1) fun n_14
 => (eqqQ [Lp.mk 0 (T.n (T.n (T.n (T.n (T.n T.e (.str s_0) T.e) (.ptr 1 1 0) T.e) (.str s_0) (T.n (T.n T.e (.str x_2) T.e) (.tup [.str s_0, .int .i64 e_1]) T.e)) (.ptr 0 5 0) (T.n (T.n (T.n T.e (.str x_2) T.e) (.tup [.str s_0, .int .i64
 e_1]) T.e) (.str x_2) (T.n T.e (.int .i64 e_1) T.e))) (.agg [.str n, .str k, .int .i64 f, .int .i64 u, .int .i64 m]) (T.n (T.n (T.n (T.n T.e (.tup [.str x_2, .int .i64 0]) T.e) .undef T.e) (.int .i64 e_1) (T.n (T.n T.e (.fn (Fn.func 110)
 [] [.ptr 2 1 0]) T.e) (.str s_0) T.e)) (.str []) (T.n (T.n (T.n T.e (.int .i64 0) T.e) (.agg [.str n, .str k, .int .i64 f, .int .i64 u, .int .i64 m]) T.e) (.int .i64 0) (T.n T.e (.tup [.str x_2, .int .i64 0]) T.e)))) [21] (rfA fn56.body)
 (rfB fn56.body) Lst.ready 56] ∧ (1 : Nat) = (1 : Nat)) ∧ ((∃ y_15 : Nat, Lf (y_15 = 0) ∧ 100 < 33 - x_3 ∧ eqqQ [AV.str n, .str k, .int .i64 f, .int .i64 u, .int .i64 m] ∧ False) ∨ ∃ y_15 : Nat, Lf (1 ≤ y_15 ∧ y_15 ≤ d.length ∧ d.length =
 32) ∧ 33 - y_15 < 33 - x_3 ∧ eqqQ [AV.str n, .str k, .int .i64 f, .int .i64 u, .int .i64 m] ∧ [AV.sl 5 (x_3 + 1) 0 (x_3 + 1) 1] = [AV.sl 5 y_15 0 y_15 1] ∧ eqqQ [AV.str x_2] ∧ eqqQ [AV.int .u8 (UInt8.toNat (List.getD [UInt8.ofNat 48,
 UInt8.ofNat 49, UInt8.ofNat 50, UInt8.ofNat 51, UInt8.ofNat 52, UInt8.ofNat 53, UInt8.ofNat 54, UInt8.ofNat 55, UInt8.ofNat 56, UInt8.ofNat 57, UInt8.ofNat 65, UInt8.ofNat 66, UInt8.ofNat 67, UInt8.ofNat 68, UInt8.ofNat 69, UInt8.ofNat 70]
 (UInt8.toNat (d.getD 0 (UInt8.ofNat 0)) / 16) (UInt8.ofNat 0)) : Int), .int .u8 (UInt8.toNat (List.getD [UInt8.ofNat 48, UInt8.ofNat 49, UInt8.ofNat 50, UInt8.ofNat 51, UInt8.ofNat 52, UInt8.ofNat 53, UInt8.ofNat 54, UInt8.ofNat 55,
 UInt8.ofNat 56, UInt8.ofNat 57, UInt8.ofNat 65, UInt8.ofNat 66, UInt8.ofNat 67, UInt8.ofNat 68, UInt8.ofNat 69, UInt8.ofNat 70] (UInt8.toNat (d.getD 0 (UInt8.ofNat 0)) % 16) (UInt8.ofNat 0)) : Int)] ∧ eqqQ (cellsSM (List.map hex2M (d.take
 1))) ∧ cellsSM (List.map hex2M (d.take x_3)) ++ [AV.str s_12] = cellsSM (List.map hex2M (d.take y_15)) ∧ eqqQ (AV.yld 0) ∧ eqqQ (AV.ptr 2 1 0) ∧ AV.int .i64 n_14 = AV.int .i64 (y_15 : Int) ∧ True))))) else ckQ (Nat.beq (cellsSM (List.map
 hex2M (d.take x_3))).length x_3 && Nat.ble (0 + x_3 * 1) x_3 && true) (∃ l_6 : List (List UInt8), Lf (List.map (fun (x_7 : AV) => frzV 1 [Blk.mk BK.exact true [.str n, .str k, .int .i64 f, .int .i64 u, .int .i64 m], Blk.mk BK.exact false
 [.sl 5 x_3 0 x_3 1], Blk.mk BK.exact true [.str x_2], Blk.mk BK.exact true [.int .u8 (UInt8.toNat (List.getD [UInt8.ofNat 48, UInt8.ofNat 49, UInt8.ofNat 50, UInt8.ofNat 51, UInt8.ofNat 52, UInt8.ofNat 53, UInt8.ofNat 54, UInt8.ofNat 55,
 UInt8.ofNat 56, UInt8.ofNat 57, UInt8.ofNat 65, UInt8.ofNat 66, UInt8.ofNat 67, UInt8.ofNat 68, UInt8.ofNat 69, UInt8.ofNat 70] (UInt8.toNat (d.getD 0 (UInt8.ofNat 0)) / 16) (UInt8.ofNat 0)) : Int), .int .u8 (UInt8.toNat (List.getD
 [UInt8.ofNat 48, UInt8.ofNat 49, UInt8.ofNat 50, UInt8.ofNat 51, UInt8.ofNat 52, UInt8.ofNat 53, UInt8.ofNat 54, UInt8.ofNat 55, UInt8.ofNat 56, UInt8.ofNat 57, UInt8.ofNat 65, UInt8.ofNat 66, UInt8.ofNat 67, UInt8.ofNat 68, UInt8.ofNat
 69, UInt8.ofNat 70] (UInt8.toNat (d.getD 0 (UInt8.ofNat 0)) % 16) (UInt8.ofNat 0)) : Int)], Blk.mk BK.exact true (cellsSM (List.map hex2M (d.take 1))), Blk.mk BK.grow true (cellsSM (List.map hex2M (d.take x_3)))] 8 x_7) (((cellsSM
 (List.map hex2M (d.take x_3))).drop 0).take (x_3 * 1)) = cellsSM l_6 ∧ x_3 = l_6.length ∧ l_6.length ≤ 1000 ∧ (joinM l_6 [58]).length ≤ 1000000) ∧ ∀ x_7 : List UInt8, Lf (x_7 = joinM l_6 [58]) → ckQ (decide (8 + x_7.length ≤
 9223372036854775807) && true) (exS (.str ([UInt8.ofNat 115, UInt8.ofNat 104, UInt8.ofNat 97, UInt8.ofNat 45, UInt8.ofNat 50, UInt8.ofNat 53, UInt8.ofNat 54, UInt8.ofNat 32] ++ x_7)) fun s_8 => Q (.ret (.str s_8)) [] (Gh.mk 0 1 [])))) := by
 kernel_rfl

end Go.Proofs.YtifjpcdpmimccaaGreatDoor

/-
  Chapter 24: the pairs of a Nack (pairs).
-/
import Derived.Test.YtafchcmemeinlaaDoorCmA
set_option linter.unusedSimpArgs false
set_option linter.unusedVariables false
namespace Go.Proofs.YtafchcmemeinlaaDoor
open Go.RowKit
set_option maxRecDepth 1000000

def cellsPM (ps : List (Int × Int)) : List AV := ps.flatMap fun p => [.int .i64 p.1, .int .i64 p.2]
def pairsGo (b m : Int) : List Int → List (Int × Int)
 | [] => [(b, m)]
 | n :: l => if 16 < (n - b) % 65536 then (b, m) :: pairsGo n 0 l else pairsGo b (((m % 18446744073709551616).toNat ||| (2 ^ ((n - b) % 65536 - 1).toNat) : Nat) : Int) l
def pairsM : List Int → List (Int × Int)
 | [] => []
 | n :: l => pairsGo n 0 l
def fwdM (b : Int) : List Int → Bool
 | [] => true
 | n :: l => decide (1 ≤ (n - b) % 65536) && fwdM (if 16 < (n - b) % 65536 then n else b) l

def invN_44 (t : Nat) (xs : List Int) : LInv where
 α := Nat
 pre _ := Lf True
 st _ := ⟨mkT [(2, .ptr 0 1 0), (3, .fn (.func 66) [] [.ptr 0 1 0]), (7, .lst t (cellsI xs) xs.length 1), (8, .int .i64 xs.length), (9, .int .i64 0)], [⟨.exact, true, [.nils]⟩]⟩
 mu _ := xs.length + 1
def inv_44 (t : Nat) (xs : List Int) : LInv where
 α := Nat × List (Int × Int) × Int × Int
 pre p := Lf (1 ≤ p.1 ∧ p.1 ≤ xs.length ∧ p.2.1.length < p.1 ∧ 0 ≤ p.2.2.2 ∧ p.2.2.2 ≤ 65535 ∧ pairsM xs = p.2.1 ++ pairsGo p.2.2.1 p.2.2.2 (xs.drop p.1) ∧ fwdM p.2.2.1 (xs.drop p.1) = true ∧ (0 ≤ p.2.2.1 ∧ p.2.2.1 ≤ 65535))
 st p := ⟨mkT [(2, .ptr 0 1 0), (3, .fn (.func 66) [] [.ptr 0 1 0]), (7, .lst t (cellsI xs) xs.length 1), (8, .int .i64 xs.length), (9, .int .i64 p.1)],
  [⟨.exact, false, [.sl 1 (2 * p.2.1.length + 2) 0 (p.2.1.length + 1) 2]⟩, ⟨.grow, true, cellsPM p.2.1 ++ [.int .i64 p.2.2.1, .int .i64 p.2.2.2]⟩]⟩
 mu p := xs.length - p.1
noncomputable def env_44 (hv : Nat → Option Pa) (hb : Nat → Option Bool) (t : Nat) (xs : List Int) : Env := e24 sm0 (fun i => bif Nat.beq i 44000 then some (fun _ => [[invN_44 t xs, inv_44 t xs]]) else none) hv hb
noncomputable def goal_44 (hv : Nat → Option Pa) (hb : Nat → Option Bool) (t : Nat) (xs : List Int) (Q : Out → List Blk → Gh → Prop) : Prop :=
 callx (env_44 hv hb t xs) (wpx (env_44 hv hb t xs) 1000) 44 [.lst t (cellsI xs) xs.length 1] [] {} Q
abbrev q24G_44_0 (x_1 : Nat × List (Int × Int) × Int × Int) (xs : List Int) (n_2 : Int) (t : Nat) : Prop :=
ckQ (Nat.beq (cellsPM x_1.2.1 ++ [AV.int .i64 x_1.2.2.1, .int .i64 x_1.2.2.2]).length (2 * x_1.2.1.length + 2) && Bool.true && Nat.beq (0 + (x_1.2.1.length + 1) * 2) (2 * x_1.2.1.length + 2) && Nat.ble (x_1.2.1.length + 1 + 1)
 1099511627776 && Nat.ble ((x_1.2.1.length + 1 + 1) * 16) 1099511627776) (exW .i64 ((x_1.1 : Int) + 1) fun n_4 => (True ∧ (0 : Nat) = (0 : Nat)) ∧ ((∃ y_5 : Nat, Lf True ∧ xs.length + 1 < xs.length - x_1.1 ∧ False) ∨ ∃ y_5 : Nat ×
 List (Int × Int) × Int × Int, Lf (1 ≤ y_5.1 ∧ y_5.1 ≤ xs.length ∧ y_5.2.1.length < y_5.1 ∧ 0 ≤ y_5.2.2.2 ∧ y_5.2.2.2 ≤ 65535 ∧ pairsM xs = y_5.2.1 ++ pairsGo y_5.2.2.1 y_5.2.2.2 (xs.drop y_5.1) ∧ fwdM y_5.2.2.1 (xs.drop y_5.1) = Bool.true
 ∧ 0 ≤ y_5.2.2.1 ∧ y_5.2.2.1 ≤ 65535) ∧ xs.length - y_5.1 < xs.length - x_1.1 ∧ [AV.sl 1 (2 * x_1.2.1.length + 2 + 2) 0 (x_1.2.1.length + 1 + 1) 2] = [AV.sl 1 (2 * y_5.2.1.length + 2) 0 (y_5.2.1.length + 1) 2] ∧ cellsPM x_1.2.1 ++ [AV.int
 IntKind.i64 x_1.2.2.1, .int .i64 x_1.2.2.2] ++ [AV.int .i64 n_2, .int .i64 0] = cellsPM y_5.2.1 ++ [AV.int .i64 y_5.2.2.1, .int .i64 y_5.2.2.2] ∧ eqqQ (AV.fn (Fn.func 66) [] [.ptr 0 1 0]) ∧ eqqQ (AV.lst t
 (cellsI xs) xs.length 1) ∧ AV.int .i64 n_4 = AV.int .i64 (y_5.1 : Int) ∧ eqqQ (AV.ptr 0 1 0) ∧ eqqQ (AV.int .i64 (xs.length : Int)) ∧ True))
abbrev z4G2 (x_1 : Nat × List (Int × Int) × Int × Int) (xs : List Int) : Prop := Lf (1 ≤ x_1.1 ∧ x_1.1 ≤ xs.length ∧ x_1.2.1.length < x_1.1 ∧ 0 ≤ x_1.2.2.2 ∧ x_1.2.2.2 ≤ 65535 ∧ pairsM xs = x_1.2.1 ++ pairsGo x_1.2.2.1 x_1.2.2.2 (xs.drop x_1.1) ∧ fwdM x_1.2.2.1 (xs.drop x_1.1) = Bool.true ∧ 0 ≤ x_1.2.2.1 ∧ x_1.2.2.1 ≤ 65535)
abbrev z4G4 (y_4 : Nat × List (Int × Int) × Int × Int) : Nat := 2 * y_4.2.1.length + 2
abbrev z4G1 (y_4 : Nat × List (Int × Int) × Int × Int) : List AV := cellsPM y_4.2.1 ++ [AV.int .i64 y_4.2.2.1, .int .i64 y_4.2.2.2]
abbrev z4G3 (t : Nat) (xs : List Int) (n_3 : Int) (y_4 : Nat × List (Int × Int) × Int × Int) : Prop := eqqQ (AV.fn (Fn.func 66) [] [.ptr 0 1 0]) ∧ eqqQ (AV.lst t (cellsI xs) xs.length 1) ∧ AV.int .i64 n_3 = AV.int .i64 (y_4.1 : Int) ∧ eqqQ (AV.ptr 0 1 0) ∧ eqqQ (AV.int .i64 (xs.length : Int)) ∧ True
abbrev z4G0 (x_1 : Nat × List (Int × Int) × Int × Int) : Bool := Nat.beq (cellsPM x_1.2.1 ++ [AV.int .i64 x_1.2.2.1, .int .i64 x_1.2.2.2]).length (z4G4 x_1)
theorem vc_44 (t : Nat) (xs : List Int) (Q : Out → List Blk → Gh → Prop) : goal_44 (lookV [(180232, .int .i64), (180236, .int .i64), (270343, .int .i64), (180246, .int .i64), (270347, .int .i64), (270348, .int .i64), (270354, .int .i64),
 (270355, .int .i64), (270356, .int .i64), (270362, .int .i64), (270364, .int .i64), (270365, .int .i64), (270366, .int .i64)]) (lookB []) t xs Q = (exI .i64 (xs.length : Int) (fun n_0 => ((∃ x_1 : Nat, Lf True ∧ [AV.nils] =
 [AV.nils] ∧ eqqQ (AV.fn (Fn.func 66) [] [.ptr 0 1 0]) ∧ eqqQ (AV.lst t (cellsI xs) xs.length 1) ∧ eqqQ (AV.int .i64 0) ∧ eqqQ (AV.ptr 0 1 0) ∧ AV.int .i64 n_0 = AV.int .i64 (xs.length : Int) ∧ True) ∨ ∃ x_1 : Nat ×
 List (Int × Int) × Int × Int, z4G2 x_1 xs ∧ False) ∧ (Nat → Lf True → bif decide (0 < (xs.length : Int)) then ckQ (Nat.blt 0 xs.length && Bool.true) (ckQ (Nat.blt 0 (cellsI xs).length) (exV IntKind.i64 ((cellsI xs).getD 0 AV.undef) (fun
 n_1 => exI .i64 0 (fun n_2 => bif n_2 == 0 then exI .i64 1 (fun n_3 => (True ∧ (0 : Nat) = (0 : Nat)) ∧ ((∃ y_4 : Nat, Lf True ∧ xs.length + 1 < xs.length + 1 ∧ False) ∨ ∃ y_4 : Nat × List (Int × Int) × Int × Int, z4G2 y_4 xs
 ∧ xs.length - y_4.1 < xs.length + 1 ∧ [AV.sl 1 2 0 1 2] = [AV.sl 1 (z4G4 y_4) 0 (y_4.2.1.length + 1) 2] ∧ [AV.int .i64 n_1, .int .i64 0] = z4G1 y_4 ∧ z4G3 t xs n_3 y_4)) else exI .i64 0 (fun n_3 => exW .i64 (n_3
 - 1) (fun n_4 => False)))))) else Q (.ret .nils) [] {}) ∧ ∀ x_1 : Nat × List (Int × Int) × Int × Int, z4G2 x_1 xs → bif decide ((x_1.1 : Int) < (xs.length : Int)) then ckQ (Nat.blt (x_1.1 : Int).toNat xs.length && Bool.true) (ckQ (Nat.blt
 ((x_1.1 : Int).toNat * 1) (cellsI xs).length) (exV IntKind.i64 ((cellsI xs).getD ((x_1.1 : Int).toNat * 1) AV.undef) (fun n_2 => ckQ (z4G0 x_1) (exI .i64 ((x_1.2.1.length + 1 : Nat) : Int) (fun n_3 => bif n_3 == 0 then q24G_44_0 x_1
 xs n_2 t else ckQ (z4G0 x_1) (exI .i64 ((x_1.2.1.length + 1 : Nat) : Int) (fun n_4 => exW .i64 (n_4 - 1) (fun n_5 => ckQ (decide (0 ≤ n_5) && Nat.blt n_5.toNat (x_1.2.1.length + 1) && z4G0 x_1 && Bool.true) (ckQ (z4G0 x_1)
 (ckQ (z4G0 x_1) (ckQ (z4G0 x_1 && Nat.blt (0 + n_5.toNat * 2 + 0) (z4G4 x_1)) (exV IntKind.i64 ((((z4G1 x_1).drop (0 + n_5.toNat * 2 + 0)).take 1).getD 0 AV.undef) (fun n_6 => exW .i64 (n_2 - n_6) (fun n_7 => exW .i64 (((n_7
 % 18446744073709551616).toNat &&& 65535 : Nat) : Int) (fun n_8 => bif decide (n_8 > 16) then q24G_44_0 x_1 xs n_2 t else ckQ (z4G0 x_1) (ckQ (z4G0 x_1) (ckQ (z4G0 x_1 && Nat.blt (0 + n_5.toNat * 2 + 1) (z4G4 x_1)) (exV IntKind.i64 ((((z4G1
 x_1).drop (0 + n_5.toNat * 2 + 1)).take 1).getD 0 AV.undef) (fun n_9 => exW .i64 (n_8 - 1) (fun n_10 => ckQ (decide (0 ≤ n_10) && Bool.true) (exW .i64 (1 * (2 : Int) ^ Min.min n_10.toNat 64) (fun n_11 => exW .i64
 (((n_9 % 18446744073709551616).toNat ||| (n_11 % 18446744073709551616).toNat : Nat) : Int) (fun n_12 => ckQ (z4G0 x_1) (ckQ (z4G0 x_1) (ckQ (z4G0 x_1 && Nat.ble (0 + n_5.toNat * 2 + 1 + 1) (z4G4 x_1) && Bool.true && Bool.true && Bool.true)
 (exW .i64 ((x_1.1 : Int) + 1) (fun n_13 => (True ∧ (0 : Nat) = (0 : Nat)) ∧ ((∃ y_14 : Nat, Lf True ∧ xs.length + 1 < xs.length - x_1.1 ∧ False) ∨ ∃ y_14 : Nat × List (Int × Int) × Int × Int, z4G2 y_14 xs ∧ xs.length - y_14.1 <
 xs.length - x_1.1 ∧ [AV.sl 1 (z4G4 x_1) 0 (x_1.2.1.length + 1) 2] = [AV.sl 1 (z4G4 y_14) 0 (y_14.2.1.length + 1) 2] ∧ setRange (z4G1 x_1) (0 + n_5.toNat * 2 + 1) [.int .i64 n_12] = z4G1 y_14 ∧ z4G3 t xs n_13
 y_14)))))))))))))))))))))))))))) else Q (.ret (.sl 1 (z4G4 x_1) 0 (x_1.2.1.length + 1) 2)) [Blk.mk BK.exact Bool.false [.sl 1 (z4G4 x_1) 0 (x_1.2.1.length + 1) 2], Blk.mk BK.grow Bool.true (z4G1 x_1)] {})) := by kernel_rfl


theorem cellsPM_len (ps : List (Int × Int)) : (cellsPM ps).length = 2 * ps.length := by
 induction ps with
 | nil => rfl
 | cons p ps ih => simp only [cellsPM, List.flatMap_cons, List.length_append, List.length_cons, List.length_nil] at ih ⊢; omega
theorem ldP0 {A : List (Int × Int)} {x y : Int} {j : Nat} (hj : j = 2 * A.length) {K : Int → Prop} (hk : K x) : ∃ n : Int, (List.take 1 (List.drop j (cellsPM A ++ [.int .i64 x, .int .i64 y]))).getD 0 AV.undef = .int .i64 n ∧ K n := by
 refine ⟨x, ?_, hk⟩
 rw [hj, ← cellsPM_len, List.drop_left]
 rfl
theorem ldP1 {A : List (Int × Int)} {x y : Int} {j : Nat} (hj : j = 2 * A.length + 1) {K : Int → Prop} (hk : K y) : ∃ n : Int, (List.take 1 (List.drop j (cellsPM A ++ [.int .i64 x, .int .i64 y]))).getD 0 AV.undef = .int .i64 n ∧ K n := by
 refine ⟨y, ?_, hk⟩
 rw [hj, ← cellsPM_len, ← List.drop_drop, List.drop_left]
 rfl
theorem setP {A : List (Int × Int)} {x y z : Int} {j : Nat} (hj : j = 2 * A.length + 1) : setRange (cellsPM A ++ [.int .i64 x, .int .i64 y]) j [.int .i64 z] = cellsPM A ++ [.int .i64 x, .int .i64 z] := by
 rw [hj, ← cellsPM_len, setRange, List.take_append, List.drop_append, List.take_of_length_le (by omega), List.drop_of_length_le (by simp; omega), Nat.add_sub_cancel_left, show (cellsPM A).length + 1 + [AV.int .i64 z].length - (cellsPM A).length = 2 by simp; omega]
 simp
theorem bad16D {xs : List Int} (h : xs.any (badM 16) = false) {i : Nat} (hi : i < xs.length) : 0 ≤ xs.getD i 0 ∧ xs.getD i 0 ≤ 65535 := by
 have := bad16 h hi
 simpa [hi] using this
theorem drop_getD {xs : List Int} {i : Nat} (hi : i < xs.length) : xs.drop i = xs.getD i 0 :: xs.drop (i + 1) := by
 rw [List.drop_eq_getElem_cons hi]; simp [hi]
theorem orI {m d : Int} {K : Int → Prop} (hm : 0 ≤ m ∧ m ≤ 65535) (hd : 1 ≤ d ∧ d ≤ 16) (h : ∀ z : Int, z = ((m % 18446744073709551616).toNat ||| (2 ^ (d - 1).toNat) : Nat) → 0 ≤ z → z ≤ 65535 → K z) :
  ∃ n, AV.int .i64 (IntKind.wrap .i64 (1 * 2 ^ min (d - 1).toNat 64)) = AV.int .i64 n ∧ ∃ z, AV.int .i64 (IntKind.wrap .i64 (((m % 18446744073709551616).toNat ||| (n % 18446744073709551616).toNat : Nat) : Int)) = AV.int .i64 z ∧ K z := by
 have e0 : min (d - 1).toNat 64 = (d - 1).toNat := by omega
 have e1 : (2 : Nat) ^ (d - 1).toNat ≤ 2 ^ 15 := Nat.pow_le_pow_right (by omega) (by omega)
 have e2 : (1 : Int) * 2 ^ (d - 1).toNat = ((2 ^ (d - 1).toNat : Nat) : Int) := by simp
 rw [e0, e2]
 generalize 2 ^ (d - 1).toNat = p at *
 refine wrapI (by omega) (by omega) ?_
 have e3 : ((p : Int) % 18446744073709551616).toNat = p := by omega
 rw [e3]
 have e4 : (m % 18446744073709551616).toNat ||| p < 2 ^ 16 := Nat.or_lt_two_pow (by omega) (by omega)
 exact wrapI (by omega) (by omega) (h _ rfl (by omega) (by omega))

theorem pairs_run (t : Nat) (xs : List Int) (Q : Out → List Blk → Gh → Prop) (hb : xs.any (badM 16) = false) (hl : 1 ≤ xs.length ∧ xs.length ≤ 64) (hf : fwdM (xs.getD 0 0) (xs.drop 1) = true)
  (hq : ∀ A b m, pairsM xs = A ++ [(b, m)] → Q (.ret (.sl 1 (2 * A.length + 2) 0 (A.length + 1) 2)) [⟨.exact, false, [.sl 1 (2 * A.length + 2) 0 (A.length + 1) 2]⟩, ⟨.grow, true, cellsPM A ++ [.int .i64 b, .int .i64 m]⟩] {}) : ∃ hv hb, goal_44 hv hb t xs Q := by
 obtain ⟨hv, hb', e⟩ : ∃ hv hb, goal_44 hv hb t xs Q = _ := ⟨_, _, vc_44 t xs Q⟩
 refine ⟨hv, hb', e.mpr ?_⟩
 delta z4G2 z4G4 z4G1 z4G3 z4G0
 unfold q24G_44_0
 clear e
 refine ⟨_, rfl, .inl ⟨0, ⟨trivial⟩, by simp⟩, ?_, ?_⟩
 ·rintro _ ⟨_⟩
  have h0 := bad16D hb (i := 0) (by omega)
  refine splitD (fun h => ?_) (fun h => by omega)
  refine ckI (by first | (simp only [Bool.and_eq_true, Bool.and_true, Bool.true_and, decide_eq_true_eq, blt_iff, Nat.ble_eq, nbeq, cellsI_len,  List.length_append, List.length_cons, List.length_nil, Int.toNat_natCast, and_true, true_and, Bool.or_eq_true, Bool.not_eq_true', bne_iff_ne, ne_eq]; done) | (simp only [Bool.and_eq_true, Bool.and_true, Bool.true_and, decide_eq_true_eq, blt_iff, Nat.ble_eq, nbeq, cellsI_len,  List.length_append, List.length_cons, List.length_nil, Int.toNat_natCast, and_true, true_and, Bool.or_eq_true, Bool.not_eq_true', bne_iff_ne, ne_eq]; omega) | rfl | (simp; done) | (simp; omega)) (ckI (by first | (simp only [Bool.and_eq_true, Bool.and_true, Bool.true_and, decide_eq_true_eq, blt_iff, Nat.ble_eq, nbeq, cellsI_len,  List.length_append, List.length_cons, List.length_nil, Int.toNat_natCast, and_true, true_and, Bool.or_eq_true, Bool.not_eq_true', bne_iff_ne, ne_eq]; done) | (simp only [Bool.and_eq_true, Bool.and_true, Bool.true_and, decide_eq_true_eq, blt_iff, Nat.ble_eq, nbeq, cellsI_len,  List.length_append, List.length_cons, List.length_nil, Int.toNat_natCast, and_true, true_and, Bool.or_eq_true, Bool.not_eq_true', bne_iff_ne, ne_eq]; omega) | rfl | (simp; done) | (simp; omega)) (getI (i := 0) (by omega) rfl ?_))
  (repeat' (first | (with_reducible refine trivial) | ((guard_target = False); omega) | (((with_reducible refine wrapI ?_ ?_ ?_)); (focus (omega)); (focus (omega))) | ((fail_if_success (with_reducible refine wrapI ?_ ?_ ?_)); (with_reducible refine ⟨_, rfl, ?_⟩)) | (((with_reducible refine wrapU8 ?_ ?_ ?_)); (focus (omega)); (focus (omega))) | (((with_reducible refine ckI ?_ ?_)); (focus (first | (simp only [Bool.and_eq_true, Bool.and_true, Bool.true_and, decide_eq_true_eq, blt_iff, Nat.ble_eq, nbeq, cellsI_len,  List.length_append, List.length_cons, List.length_nil, Int.toNat_natCast, and_true, true_and, Bool.or_eq_true, Bool.not_eq_true', bne_iff_ne, ne_eq]; done) | (simp only [Bool.and_eq_true, Bool.and_true, Bool.true_and, decide_eq_true_eq, blt_iff, Nat.ble_eq, nbeq, cellsI_len,  List.length_append, List.length_cons, List.length_nil, Int.toNat_natCast, and_true, true_and, Bool.or_eq_true, Bool.not_eq_true', bne_iff_ne, ne_eq]; omega) | rfl | (simp; done) | (simp; omega)))) | (with_reducible refine splitD (fun _ => ?_) (fun _ => ?_) <;> (try (exfalso; omega))) | (with_reducible refine splitE (fun _ => ?_) (fun _ => ?_) <;> (try (exfalso; omega))) | (with_reducible refine splitNE (fun _ => ?_) (fun _ => ?_) <;> (try (exfalso; omega))) | (with_reducible refine splitNot ?_) | (with_reducible refine splitAnd ?_) | (with_reducible refine splitOr ?_)))
  ·have hd : xs = xs.getD 0 0 :: xs.drop 1 := drop_getD (i := 0) (by omega)
   have hp : pairsM xs = [] ++ pairsGo (xs.getD 0 0) 0 (xs.drop 1) := by rw [hd]; rfl
   exact ⟨⟨trivial, rfl⟩, .inr ⟨(1, [], xs.getD 0 0, 0), ⟨Nat.le_refl _, hl.1, by simp, by simp, by simp, hp, hf, h0⟩, by simp only; omega, by simp [cellsPM]⟩⟩
 ·rintro ⟨i, A, b, m⟩ ⟨g1, g2, g3, g4, g5, g6, g7, g8⟩
  simp only at g1 g2 g3 g4 g5 g6 g7 g8 ⊢
  refine splitD (fun h => ?_) (fun h => ?_)
  ·have hi := bad16D hb (i := i) (by omega)
   refine ckI (by first | (simp only [Bool.and_eq_true, Bool.and_true, Bool.true_and, decide_eq_true_eq, blt_iff, Nat.ble_eq, nbeq, cellsI_len,  List.length_append, List.length_cons, List.length_nil, Int.toNat_natCast, and_true, true_and, Bool.or_eq_true, Bool.not_eq_true', bne_iff_ne, ne_eq]; done) | (simp only [Bool.and_eq_true, Bool.and_true, Bool.true_and, decide_eq_true_eq, blt_iff, Nat.ble_eq, nbeq, cellsI_len,  List.length_append, List.length_cons, List.length_nil, Int.toNat_natCast, and_true, true_and, Bool.or_eq_true, Bool.not_eq_true', bne_iff_ne, ne_eq]; omega) | rfl | (simp; done) | (simp; omega)) (ckI (by first | (simp only [Bool.and_eq_true, Bool.and_true, Bool.true_and, decide_eq_true_eq, blt_iff, Nat.ble_eq, nbeq, cellsI_len,  List.length_append, List.length_cons, List.length_nil, Int.toNat_natCast, and_true, true_and, Bool.or_eq_true, Bool.not_eq_true', bne_iff_ne, ne_eq]; done) | (simp only [Bool.and_eq_true, Bool.and_true, Bool.true_and, decide_eq_true_eq, blt_iff, Nat.ble_eq, nbeq, cellsI_len,  List.length_append, List.length_cons, List.length_nil, Int.toNat_natCast, and_true, true_and, Bool.or_eq_true, Bool.not_eq_true', bne_iff_ne, ne_eq]; omega) | rfl | (simp; done) | (simp; omega)) (getI (i := i) (by omega) (by omega) ?_))
   have hlen := cellsPM_len A
   have hlen2 := cellsPM_len (A ++ [(b, m)])
   have hdr := drop_getD (xs := xs) (i := i) (by omega)
   rw [hdr] at g6 g7
   simp only [fwdM, Bool.and_eq_true, decide_eq_true_eq] at g7
   (repeat' (first | (with_reducible refine trivial) | ((guard_target = False); omega) | (((with_reducible refine wrapI ?_ ?_ ?_)); (focus (omega)); (focus (omega))) | ((fail_if_success (with_reducible refine wrapI ?_ ?_ ?_)); (with_reducible refine ⟨_, rfl, ?_⟩)) | (((with_reducible refine wrapU8 ?_ ?_ ?_)); (focus (omega)); (focus (omega))) | (((with_reducible refine ckI ?_ ?_)); (focus (first | (simp only [Bool.and_eq_true, Bool.and_true, Bool.true_and, decide_eq_true_eq, blt_iff, Nat.ble_eq, nbeq, cellsI_len, hlen, List.length_append, List.length_cons, List.length_nil, Int.toNat_natCast, and_true, true_and, Bool.or_eq_true, Bool.not_eq_true', bne_iff_ne, ne_eq]; done) | (simp only [Bool.and_eq_true, Bool.and_true, Bool.true_and, decide_eq_true_eq, blt_iff, Nat.ble_eq, nbeq, cellsI_len, hlen, List.length_append, List.length_cons, List.length_nil, Int.toNat_natCast, and_true, true_and, Bool.or_eq_true, Bool.not_eq_true', bne_iff_ne, ne_eq]; omega) | rfl | (simp; done) | (simp; omega)))) | (with_reducible refine splitD (fun _ => ?_) (fun _ => ?_) <;> (try (exfalso; omega))) | (with_reducible refine splitE (fun _ => ?_) (fun _ => ?_) <;> (try (exfalso; omega))) | (with_reducible refine splitNE (fun _ => ?_) (fun _ => ?_) <;> (try (exfalso; omega))) | (with_reducible refine splitNot ?_) | (with_reducible refine splitAnd ?_) | (with_reducible refine splitOr ?_)))
   refine ldP0 (by omega) ?_
   refine wrapI (by omega) (by omega) (maskI ?_)
   (repeat' (first | (with_reducible refine trivial) | ((guard_target = False); omega) | (((with_reducible refine wrapI ?_ ?_ ?_)); (focus (omega)); (focus (omega))) | ((fail_if_success (with_reducible refine wrapI ?_ ?_ ?_)); (with_reducible refine ⟨_, rfl, ?_⟩)) | (((with_reducible refine wrapU8 ?_ ?_ ?_)); (focus (omega)); (focus (omega))) | (((with_reducible refine ckI ?_ ?_)); (focus (first | (simp only [Bool.and_eq_true, Bool.and_true, Bool.true_and, decide_eq_true_eq, blt_iff, Nat.ble_eq, nbeq, cellsI_len, hlen, List.length_append, List.length_cons, List.length_nil, Int.toNat_natCast, and_true, true_and, Bool.or_eq_true, Bool.not_eq_true', bne_iff_ne, ne_eq]; done) | (simp only [Bool.and_eq_true, Bool.and_true, Bool.true_and, decide_eq_true_eq, blt_iff, Nat.ble_eq, nbeq, cellsI_len, hlen, List.length_append, List.length_cons, List.length_nil, Int.toNat_natCast, and_true, true_and, Bool.or_eq_true, Bool.not_eq_true', bne_iff_ne, ne_eq]; omega) | rfl | (simp; done) | (simp; omega)))) | (with_reducible refine splitD (fun _ => ?_) (fun _ => ?_) <;> (try (exfalso; omega))) | (with_reducible refine splitE (fun _ => ?_) (fun _ => ?_) <;> (try (exfalso; omega))) | (with_reducible refine splitNE (fun _ => ?_) (fun _ => ?_) <;> (try (exfalso; omega))) | (with_reducible refine splitNot ?_) | (with_reducible refine splitAnd ?_) | (with_reducible refine splitOr ?_)))
   ·rename_i hgt
    have hgt' : 16 < (xs.getD i 0 - b) % 65536 := by omega
    rw [pairsGo, if_pos hgt'] at g6
    rw [if_pos hgt'] at g7
    refine ⟨⟨trivial, trivial⟩, .inr ⟨(i + 1, A ++ [(b, m)], xs.getD i 0, 0), ⟨⟨by simp, by simp; omega, by simp; omega, by simp, by simp, by rw [g6]; simp, g7.2, hi⟩⟩, by simp only; omega, ?_⟩⟩
    simp [cellsPM, Nat.mul_add]
   ·rename_i hle
    have hle' : ¬ 16 < (xs.getD i 0 - b) % 65536 := by omega
    rw [pairsGo, if_neg hle'] at g6
    rw [if_neg hle'] at g7
    refine ldP1 (by omega) (wrapI (by omega) (by omega) (ckI (by first | (simp only [Bool.and_eq_true, Bool.and_true, Bool.true_and, decide_eq_true_eq, blt_iff, Nat.ble_eq, nbeq, cellsI_len,  List.length_append, List.length_cons, List.length_nil, Int.toNat_natCast, and_true, true_and, Bool.or_eq_true, Bool.not_eq_true', bne_iff_ne, ne_eq]; done) | (simp only [Bool.and_eq_true, Bool.and_true, Bool.true_and, decide_eq_true_eq, blt_iff, Nat.ble_eq, nbeq, cellsI_len,  List.length_append, List.length_cons, List.length_nil, Int.toNat_natCast, and_true, true_and, Bool.or_eq_true, Bool.not_eq_true', bne_iff_ne, ne_eq]; omega) | rfl | (simp; done) | (simp; omega)) (orI ⟨g4, g5⟩ (by omega) fun z hz z1 z2 => ?_)))
    rw [← hz] at g6
    (repeat' (first | (with_reducible refine trivial) | ((guard_target = False); omega) | (((with_reducible refine wrapI ?_ ?_ ?_)); (focus (omega)); (focus (omega))) | ((fail_if_success (with_reducible refine wrapI ?_ ?_ ?_)); (with_reducible refine ⟨_, rfl, ?_⟩)) | (((with_reducible refine wrapU8 ?_ ?_ ?_)); (focus (omega)); (focus (omega))) | (((with_reducible refine ckI ?_ ?_)); (focus (first | (simp only [Bool.and_eq_true, Bool.and_true, Bool.true_and, decide_eq_true_eq, blt_iff, Nat.ble_eq, nbeq, cellsI_len, hlen, List.length_append, List.length_cons, List.length_nil, Int.toNat_natCast, and_true, true_and, Bool.or_eq_true, Bool.not_eq_true', bne_iff_ne, ne_eq]; done) | (simp only [Bool.and_eq_true, Bool.and_true, Bool.true_and, decide_eq_true_eq, blt_iff, Nat.ble_eq, nbeq, cellsI_len, hlen, List.length_append, List.length_cons, List.length_nil, Int.toNat_natCast, and_true, true_and, Bool.or_eq_true, Bool.not_eq_true', bne_iff_ne, ne_eq]; omega) | rfl | (simp; done) | (simp; omega)))) | (with_reducible refine splitD (fun _ => ?_) (fun _ => ?_) <;> (try (exfalso; omega))) | (with_reducible refine splitE (fun _ => ?_) (fun _ => ?_) <;> (try (exfalso; omega))) | (with_reducible refine splitNE (fun _ => ?_) (fun _ => ?_) <;> (try (exfalso; omega))) | (with_reducible refine splitNot ?_) | (with_reducible refine splitAnd ?_) | (with_reducible refine splitOr ?_)))
    refine ⟨⟨trivial, trivial⟩, .inr ⟨(i + 1, A, b, z), ⟨⟨by simp, by simp; omega, by simp; omega, z1, z2, g6, g7.2, g8⟩⟩, by simp only; omega, ?_⟩⟩
    rw [setP (by omega)]
    simp
  ·have hle : xs.length ≤ i := by omega
   rw [List.drop_of_length_le hle] at g6
   exact ckI (by first | (simp only [Bool.and_eq_true, Bool.and_true, Bool.true_and, decide_eq_true_eq, blt_iff, Nat.ble_eq, nbeq, cellsI_len, cellsPM_len, List.length_append, List.length_cons, List.length_nil, Int.toNat_natCast, and_true, true_and, Bool.or_eq_true, Bool.not_eq_true', bne_iff_ne, ne_eq]; done) | (simp only [Bool.and_eq_true, Bool.and_true, Bool.true_and, decide_eq_true_eq, blt_iff, Nat.ble_eq, nbeq, cellsI_len, cellsPM_len, List.length_append, List.length_cons, List.length_nil, Int.toNat_natCast, and_true, true_and, Bool.or_eq_true, Bool.not_eq_true', bne_iff_ne, ne_eq]; omega) | rfl | (simp; done) | (simp; omega)) (hq A b m g6)
end Go.Proofs.YtafchcmemeinlaaDoor

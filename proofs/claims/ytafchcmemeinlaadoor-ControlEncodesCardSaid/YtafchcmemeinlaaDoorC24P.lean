/-
  Chapter 24: the reference's Pairs.
-/
import Derived.Test.YtafchcmemeinlaaDoorC24O
set_option linter.unusedSimpArgs false
set_option linter.unusedVariables false
namespace Go.Proofs.YtafchcmemeinlaaDoor
open Go.RowKit
set_option maxRecDepth 1000000

def okPL (l : List Int) : Prop := (∀ x ∈ l, 0 ≤ x ∧ x ≤ 65535) ∧ l.length ≤ 64 ∧ nackGoM (l.getD 0 0) 0 (l.drop 1) = true
abbrev X21 := List Int × Nat × Nat × Nat × Nat
def invA_21i (pre : List Blk) (v3 : AV) (t : Nat) (cs : List AV) (n : Nat) (base : Int) : LInv where
 α := X21
 pre a := Lf (cs = cellsI a.1 ∧ n = a.1.length ∧ okPL a.1 ∧ base = a.1.getD 0 0 ∧ 1 ≤ a.2.1 ∧ a.2.1 ≤ a.1.length ∧ maskM base 0 (a.1.drop 1) = maskM base a.2.2.2.1 (a.1.drop a.2.1) ∧ restM base (a.1.drop 1) = restM base (a.1.drop a.2.1) ∧ nackGoM base a.2.2.2.2 (a.1.drop a.2.1) = true ∧ a.2.2.2.1 < 2 ^ a.2.2.2.2 ∧ a.2.2.2.2 ≤ 16)
 st a := ⟨mkT [(0, .lst t cs n 1), (3, v3), (4, .int .i64 base), (5, .int .i64 a.2.2.2.1), (6, .nils), (7, .int .i64 a.2.1)], pre⟩
 mu a := a.1.length - a.2.1
def invB_21i (pre : List Blk) (q : Nat) (v3 : AV) (t : Nat) (cs : List AV) (n : Nat) (base : Int) : LInv where
 α := X21
 pre a := Lf (cs = cellsI a.1 ∧ n = a.1.length ∧ okPL a.1 ∧ base = a.1.getD 0 0 ∧ 1 ≤ a.2.2.1 ∧ a.2.2.1 < a.2.1 ∧ a.2.1 ≤ a.1.length ∧ maskM base 0 (a.1.drop 1) = a.2.2.2.1 ∧ restM base (a.1.drop 1) = a.1.drop a.2.2.1 ∧ nackGoM base a.2.2.2.2 (a.1.drop a.2.1) = true ∧ 16 < a.2.2.2.2 ∧ a.2.2.2.1 < 65536)
 st a := ⟨mkT [(0, .lst t cs n 1), (3, v3), (4, .int .i64 base), (5, .int .i64 a.2.2.2.1), (6, .sl q (a.2.1 - a.2.2.1) 0 (a.2.1 - a.2.2.1) 1), (7, .int .i64 a.2.1)], pre ++ [⟨.grow, true, cellsI ((a.1.take a.2.1).drop a.2.2.1)⟩]⟩
 mu a := a.1.length - a.2.1
def inv_21i (s : S) : List (List LInv) := match s.tm.get 3, s.tm.get 0, s.tm.get 4 with
 | .nils, .lst t cs n _, .int _ base => [[invA_21i [] .nils t cs n base, invB_21i [] 0 .nils t cs n base]]
 | .sl a b c d e, .lst t cs n _, .int _ base => [[invA_21i s.hp (.sl a b c d e) t cs n base, invB_21i s.hp 2 (.sl a b c d e) t cs n base]]
 | _, _, _ => []
def invA_21 (t : Nat) (xs : List Int) : LInv where
 α := Nat
 pre _ := Lf True
 st _ := ⟨mkT [(0, .lst t (cellsI xs) xs.length 1), (3, .nils)], []⟩
 mu _ := xs.length + 5
def invB_21 (xs : List Int) : LInv where
 α := List Int × List (Int × Int)
 pre a := Lf (pairsM xs = a.2 ++ pairsM a.1 ∧ okPL a.1 ∧ 1 ≤ a.2.length ∧ a.2.length + a.1.length ≤ xs.length)
 st a := ⟨mkT [(0, .lst 0 (cellsI a.1) a.1.length 1), (3, .sl 1 (2 * a.2.length) 0 a.2.length 2)], [deadB, ⟨.grow, true, cellsPM a.2⟩]⟩
 mu a := a.1.length
def invC_21 (xs : List Int) : LInv where
 α := List (Int × Int)
 pre a := Lf (pairsM xs = a ∧ a.length ≤ xs.length)
 st a := ⟨mkT [(0, .lst 0 [] 0 1), (3, .sl 0 (2 * a.length) 0 a.length 2)], [⟨.grow, true, cellsPM a⟩]⟩
 mu _ := 0
noncomputable def env_21 (hv : Nat → Option Pa) (hb : Nat → Option Bool) (t : Nat) (xs : List Int) : Env :=
 { e24 sm0 (fun i => bif Nat.beq i 21000 then some (fun _ => [[invA_21 t xs, invB_21 xs, invC_21 xs]]) else bif Nat.beq i 21002 then some inv_21i else none) hv hb with hf := fun i => bif Nat.beq i 21000 then [(0, 1)] else [] }
noncomputable def goal_21 (hv : Nat → Option Pa) (hb : Nat → Option Bool) (t : Nat) (xs : List Int) (Q : Out → List Blk → Gh → Prop) : Prop :=
 callx (env_21 hv hb t xs) (wpx (env_21 hv hb t xs) 1000) 21 [.lst t (cellsI xs) xs.length 1] [] {} Q
abbrev z4P30 (t : Nat) (xs : List Int) : Prop := eqqQ (AV.lst t (cellsI xs) xs.length 1)
abbrev z4P27 : Prop := AV.nils = AV.nils
abbrev z4P10 (xs : List Int) (x_0 : List Int × List (Int × Int)) : Prop := Lf (pairsM xs = x_0.2 ++ pairsM x_0.1 ∧ okPL x_0.1 ∧ 1 ≤ x_0.2.length ∧ x_0.2.length + x_0.1.length ≤ xs.length)
abbrev z4P25 (xs : List Int) (x_0 : List (Int × Int)) : Prop := Lf (pairsM xs = x_0 ∧ x_0.length ≤ xs.length)
abbrev z4P34 (x_2 : List Int × Nat × Nat × Nat × Nat) : Int := (x_2.2.2.2.1 : Int)
abbrev z4P0 (x_2 : List Int × Nat × Nat × Nat × Nat) (n_1 : Int) : Prop := okPL x_2.1 ∧ n_1 = x_2.1.getD 0 0 ∧ 1 ≤ x_2.2.1 ∧ x_2.2.1 ≤ x_2.1.length ∧ maskM n_1 0 (x_2.1.drop 1) = maskM n_1 (z4P34 x_2) (x_2.1.drop x_2.2.1) ∧ restM n_1 (x_2.1.drop 1) = restM n_1 (x_2.1.drop x_2.2.1) ∧ nackGoM n_1 (x_2.2.2.2.2 : Int) (x_2.1.drop x_2.2.1) = Bool.true ∧ x_2.2.2.2.1 < (2 : Nat) ^ x_2.2.2.2.2 ∧ x_2.2.2.2.2 ≤ 16
abbrev z4P15 (xs : List Int) (x_2 : List Int × Nat × Nat × Nat × Nat) (n_1 : Int) : Prop := Lf (cellsI xs = cellsI x_2.1 ∧ xs.length = x_2.1.length ∧ z4P0 x_2 n_1)
abbrev z4P21 (x_2 : List Int × Nat × Nat × Nat × Nat) : AV := .int .i64 (x_2.2.1 : Int)
abbrev z4P20 (x_3 : List Int × Nat × Nat × Nat × Nat) : AV := .int .i64 (x_3.2.2.2.1 : Int)
abbrev z4P8 (x_2 : List Int × Nat × Nat × Nat × Nat) : AV := z4P20 x_2
abbrev z4P26 (n_12 : Int) : AV := .int .i64 n_12
abbrev z4P9 (n_1 : Int) : AV := z4P26 n_1
abbrev z4P36 (n_1 : Int) : Prop := eqqQ (z4P9 n_1) ∧ z4P27 ∧ True
abbrev z4P1 (x_2 : List Int × Nat × Nat × Nat × Nat) (n_1 : Int) : Prop := okPL x_2.1 ∧ n_1 = x_2.1.getD 0 0 ∧ 1 ≤ x_2.2.2.1 ∧ x_2.2.2.1 < x_2.2.1 ∧ x_2.2.1 ≤ x_2.1.length ∧ maskM n_1 0 (x_2.1.drop 1) = z4P34 x_2 ∧ restM n_1 (x_2.1.drop 1) = x_2.1.drop x_2.2.2.1 ∧ nackGoM n_1 (x_2.2.2.2.2 : Int) (x_2.1.drop x_2.2.1) = Bool.true ∧ 16 < x_2.2.2.2.2 ∧ x_2.2.2.2.1 < 65536
abbrev z4P16 (xs : List Int) (x_2 : List Int × Nat × Nat × Nat × Nat) (n_1 : Int) : Prop := Lf (cellsI xs = cellsI x_2.1 ∧ xs.length = x_2.1.length ∧ z4P1 x_2 n_1)
abbrev z4P29 (n_5 : Int) (xs : List Int) : Bool := decide (0 ≤ n_5) && Nat.blt n_5.toNat xs.length && Bool.true
abbrev z4P37 (n_5 : Int) (xs : List Int) : Bool := Nat.blt (n_5.toNat * 1) (cellsI xs).length
abbrev z4P39 (xs : List Int) (n_5 : Int) : AV := (cellsI xs).getD (n_5.toNat * 1) AV.undef
abbrev z4P40 (n_11 : Int) : Bool := decide (0 ≤ n_11) && Bool.true
abbrev z4P11 : Prop := True ∧ (0 : Nat) = (0 : Nat)
abbrev z4P17 (y_15 x_3 : List Int × Nat × Nat × Nat × Nat) : Prop := y_15.1.length - y_15.2.1 < x_3.1.length - x_3.2.1
abbrev z4P7 (y_16 x_2 : List Int × Nat × Nat × Nat × Nat) : Prop := z4P17 y_16 x_2
abbrev z4P12 (x_3 : List Int × Nat × Nat × Nat × Nat) : List AV := cellsI ((x_3.1.take x_3.2.1).drop x_3.2.2.1)
abbrev z4P31 (x_2 : List Int × Nat × Nat × Nat × Nat) : AV := .sl 0 (x_2.2.1 - x_2.2.2.1) 0 (x_2.2.1 - x_2.2.2.1) 1
abbrev z4P5 (x_2 : List Int × Nat × Nat × Nat × Nat) (xs : List Int) (n_1 : Int) (t : Nat) : Prop := exI .i64 (x_2.2.1 : Int) (fun n_10 => ckQ (z4P29 n_10 xs) (ckQ (z4P37 n_10 xs) (exV IntKind.i64 (z4P39 xs n_10) (fun n_11 => exI .i64 (x_2.2.1 : Int) (fun n_12 => exW .i64 (n_12 + 1) (fun n_13 => z4P11 ∧ ((∃ y_14 : List Int × Nat × Nat × Nat × Nat, z4P15 xs y_14 n_1 ∧ z4P17 y_14 x_2 ∧ False) ∨ ∃ y_14 : List Int × Nat × Nat × Nat × Nat, z4P16 xs y_14 n_1 ∧ z4P17 y_14 x_2 ∧ [z4P26 n_11] = z4P12 y_14 ∧ z4P30 t xs ∧ z4P27 ∧ z4P26 n_13 = z4P21 y_14 ∧ z4P20 x_2 = z4P20 y_14 ∧ eqqQ (z4P26 n_1) ∧ AV.sl 0 1 0 1 1 = z4P31 y_14 ∧ True)))))))
abbrev z4P6 (x_2 : List Int × Nat × Nat × Nat × Nat) : List AV := z4P12 x_2
abbrev z4P22 (x_3 : List Int × Nat × Nat × Nat × Nat) : Bool := Nat.beq (z4P12 x_3).length (x_3.2.1 - x_3.2.2.1) && Bool.true && Nat.beq (0 + (x_3.2.1 - x_3.2.2.1) * 1) (x_3.2.1 - x_3.2.2.1) && Nat.ble (x_3.2.1 - x_3.2.2.1 + 1) 1099511627776 && Nat.ble ((x_3.2.1 - x_3.2.2.1 + 1) * 8) 1099511627776
abbrev z4P3 (x_2 : List Int × Nat × Nat × Nat × Nat) (xs : List Int) (n_1 : Int) (t : Nat) : Prop := exI .i64 (x_2.2.1 : Int) (fun n_10 => ckQ (z4P29 n_10 xs) (ckQ (z4P37 n_10 xs) (exV IntKind.i64 (z4P39 xs n_10) (fun n_11 => ckQ (z4P22 x_2) (exI .i64 (x_2.2.1 : Int) (fun n_12 => exW .i64 (n_12 + 1) (fun n_13 => z4P11 ∧ ((∃ y_14 : List Int × Nat × Nat × Nat × Nat, z4P15 xs y_14 n_1 ∧ z4P17 y_14 x_2 ∧ False) ∨ ∃ y_14 : List Int × Nat × Nat × Nat × Nat, z4P16 xs y_14 n_1 ∧ z4P17 y_14 x_2 ∧ z4P12 x_2 ++ [z4P26 n_11] = z4P12 y_14 ∧ z4P30 t xs ∧ z4P27 ∧ z4P26 n_13 = z4P21 y_14 ∧ z4P20 x_2 = z4P20 y_14 ∧ eqqQ (z4P26 n_1) ∧ AV.sl 0 (x_2.2.1 - x_2.2.2.1 + 1) 0 (x_2.2.1 - x_2.2.2.1 + 1) 1 = z4P31 y_14 ∧ True))))))))
abbrev z4P28 (x_2 : List Int × Nat × Nat × Nat × Nat) : Bool := Nat.beq (z4P6 x_2).length (x_2.2.1 - x_2.2.2.1) && Nat.ble (0 + (x_2.2.1 - x_2.2.2.1) * 1) (x_2.2.1 - x_2.2.2.1) && Bool.true && Bool.true && noYL (z4P6 x_2) && Bool.true && Bool.true
abbrev z4P19 : Prop := ([] : List AV) = []
abbrev z4P23 (y_6 : List Int × List (Int × Int)) : AV := .lst 0 (cellsI y_6.1) y_6.1.length 1
abbrev z4P18 (y_6 : List Int × List (Int × Int)) : AV := .sl 1 (2 * y_6.2.length) 0 y_6.2.length 2
abbrev z4P13 (x_0 : List Int × List (Int × Int)) (x_3 : List Int × Nat × Nat × Nat × Nat) (n_2 : Int) : Prop := Lf (cellsI x_0.1 = cellsI x_3.1 ∧ x_0.1.length = x_3.1.length ∧ z4P0 x_3 n_2)
abbrev z4P38 (x_0 : List Int × List (Int × Int)) : Prop := eqqQ (cellsPM x_0.2)
abbrev z4P14 (x_0 : List Int × List (Int × Int)) (x_3 : List Int × Nat × Nat × Nat × Nat) (n_2 : Int) : Prop := Lf (cellsI x_0.1 = cellsI x_3.1 ∧ x_0.1.length = x_3.1.length ∧ z4P1 x_3 n_2)
abbrev z4P35 (x_0 : List Int × List (Int × Int)) : Prop := z4P19 ∧ eqqQ (cellsPM x_0.2) ∧ False
abbrev z4P33 (n_6 : Int) (x_0 : List Int × List (Int × Int)) : Bool := decide (0 ≤ n_6) && Nat.blt n_6.toNat x_0.1.length && Bool.true
abbrev z4P32 (x_3 : List Int × Nat × Nat × Nat × Nat) : AV := .sl 2 (x_3.2.1 - x_3.2.2.1) 0 (x_3.2.1 - x_3.2.2.1) 1
abbrev z4P4 (x_3 : List Int × Nat × Nat × Nat × Nat) (x_0 : List Int × List (Int × Int)) (n_2 : Int) : Prop := exI .i64 (x_3.2.1 : Int) (fun n_11 => ckQ (z4P33 n_11 x_0) (ckQ (Nat.blt (n_11.toNat * 1) (cellsI x_0.1).length) (exV IntKind.i64 ((cellsI x_0.1).getD (n_11.toNat * 1) AV.undef) (fun n_12 => exI .i64 (x_3.2.1 : Int) (fun n_13 => exW .i64 (n_13 + 1) (fun n_14 => z4P11 ∧ ((∃ y_15 : List Int × Nat × Nat × Nat × Nat, z4P13 x_0 y_15 n_2 ∧ z4P17 y_15 x_3 ∧ z4P35 x_0) ∨ ∃ y_15 : List Int × Nat × Nat × Nat × Nat, z4P14 x_0 y_15 n_2 ∧ z4P17 y_15 x_3 ∧ z4P19 ∧ z4P38 x_0 ∧ [z4P26 n_12] = z4P12 y_15 ∧ eqqQ (z4P23 x_0) ∧ eqqQ (z4P18 x_0) ∧ z4P26 n_14 = z4P21 y_15 ∧ z4P20 x_3 = z4P20 y_15 ∧ eqqQ (z4P26 n_2) ∧ AV.sl 2 1 0 1 1 = z4P32 y_15 ∧ True)))))))
abbrev z4P24 (x_0 : List Int × List (Int × Int)) : Bool := Nat.beq (cellsPM x_0.2).length (2 * x_0.2.length) && Bool.true && Nat.beq (0 + x_0.2.length * 2) (2 * x_0.2.length) && Nat.ble (x_0.2.length + 1) 1099511627776 && Nat.ble ((x_0.2.length + 1) * 16) 1099511627776
abbrev z4P2 (x_3 : List Int × Nat × Nat × Nat × Nat) (x_0 : List Int × List (Int × Int)) (n_2 : Int) : Prop := exI .i64 (x_3.2.1 : Int) (fun n_11 => ckQ (z4P33 n_11 x_0) (ckQ (Nat.blt (n_11.toNat * 1) (cellsI x_0.1).length) (exV IntKind.i64 ((cellsI x_0.1).getD (n_11.toNat * 1) AV.undef) (fun n_12 => ckQ (z4P22 x_3) (exI .i64 (x_3.2.1 : Int) (fun n_13 => exW .i64 (n_13 + 1) (fun n_14 => z4P11 ∧ ((∃ y_15 : List Int × Nat × Nat × Nat × Nat, z4P13 x_0 y_15 n_2 ∧ z4P17 y_15 x_3 ∧ z4P35 x_0) ∨ ∃ y_15 : List Int × Nat × Nat × Nat × Nat, z4P14 x_0 y_15 n_2 ∧ z4P17 y_15 x_3 ∧ z4P19 ∧ z4P38 x_0 ∧ z4P12 x_3 ++ [z4P26 n_12] = z4P12 y_15 ∧ eqqQ (z4P23 x_0) ∧ eqqQ (z4P18 x_0) ∧ z4P26 n_14 = z4P21 y_15 ∧ z4P20 x_3 = z4P20 y_15 ∧ eqqQ (z4P26 n_2) ∧ AV.sl 2 (x_3.2.1 - x_3.2.2.1 + 1) 0 (x_3.2.1 - x_3.2.2.1 + 1) 1 = z4P32 y_15 ∧ True))))))))
theorem vc_21 (t : Nat) (xs : List Int) (Q : Out → List Blk → Gh → Prop) : goal_21 (lookV [(86026, .int .i64), (86030, .int .i64), (86031, .int .i64), (86033, .int .i64), (86038, .int .i64), (86040, .int .i64), (86042, .int .i64), (86043,
 .int .i64), (86044, .int .i64), (86051, .int .i64), (86053, .int .i64), (86054, .int .i64), (86055, .int .i64), (86035, .int .i64), (86036, .int .i64), (86058, .int .i64), (86060, .int .i64), (86065, .int .i64)]) (lookB []) t xs Q = (((∃
 x_0 : Nat, Lf True ∧ z4P30 t xs ∧ z4P27 ∧ True) ∨ (∃ x_0 : List Int × List (Int × Int), z4P10 xs x_0 ∧ False) ∨ ∃ x_0 : List (Int × Int), z4P25 xs x_0 ∧ False) ∧ (Nat → Lf True → exI .i64 (xs.length : Int) (fun n_0 => bif decide
 (n_0 > 0) then ckQ (Nat.blt 0 xs.length && Bool.true) (ckQ (Nat.blt 0 (cellsI xs).length) (exV IntKind.i64 ((cellsI xs).getD 0 AV.undef) (fun n_1 => ((∃ x_2 : List Int × Nat × Nat × Nat × Nat, z4P15 xs x_2 n_1 ∧ z4P30 t xs ∧ z4P27 ∧ AV.int
 IntKind.i64 1 = z4P21 x_2 ∧ AV.int .i64 0 = z4P8 x_2 ∧ z4P36 n_1) ∨ ∃ x_2 : List Int × Nat × Nat × Nat × Nat, z4P16 xs x_2 n_1 ∧ False) ∧ (∀ x_2 : List Int × Nat × Nat × Nat × Nat, z4P15 xs x_2 n_1 → exI .i64 (x_2.2.1 : Int)
 (fun n_3 => exI .i64 (xs.length : Int) (fun n_4 => bif decide (n_3 < n_4) then exI .i64 (x_2.2.1 : Int) (fun n_5 => ckQ (z4P29 n_5 xs) (ckQ (z4P37 n_5 xs) (exV IntKind.i64 (z4P39 xs n_5) (fun n_6 => exW .i64 (n_6 -
 n_1) (fun n_7 => exW .i64 (n_7 + 65536) (fun n_8 => exI .i64 (n_8.tmod 65536) (fun n_9 => bif decide (n_9 ≥ 1) then bif decide (n_9 ≤ 16) then exI .i64 (z4P34 x_2) (fun n_10 => exW .i64 (n_9 - 1) (fun n_11 =>
 ckQ (z4P40 n_11) (exW .i64 (1 * (2 : Int) ^ Min.min n_11.toNat 64) (fun n_12 => exW .i64 (n_10 + n_12) (fun n_13 => exI .i64 (x_2.2.1 : Int) (fun n_14 => exW .i64 (n_14 + 1) (fun n_15 => z4P11 ∧ ((∃ y_16 : List
 Int × Nat × Nat × Nat × Nat, z4P15 xs y_16 n_1 ∧ z4P7 y_16 x_2 ∧ z4P30 t xs ∧ z4P27 ∧ z4P9 n_15 = z4P21 y_16 ∧ z4P9 n_13 = z4P8 y_16 ∧ z4P36 n_1) ∨ ∃ y_16 : List Int × Nat × Nat × Nat × Nat, z4P16 xs y_16 n_1 ∧ z4P7 y_16 x_2 ∧
 False)))))))) else z4P5 x_2 xs n_1 t else z4P5 x_2 xs n_1 t))))))) else exI .i64 (z4P34 x_2) (fun n_5 => z4P11 ∧ ((∃ y_6 : Nat, Lf True ∧ xs.length + 5 < xs.length + 5 ∧ False) ∨ (∃ y_6 : List Int × List (Int × Int), z4P10 xs y_6 ∧
 y_6.1.length < xs.length + 5 ∧ False) ∨ ∃ y_6 : List (Int × Int), z4P25 xs y_6 ∧ 0 < xs.length + 5 ∧ [z4P9 n_1, .int .i64 n_5] = cellsPM y_6 ∧ eqqQ (AV.lst 0 [] 0 1) ∧ AV.sl 0 2 0 1 2 = AV.sl 0 (2 * y_6.length) 0 y_6.length 2 ∧
 True))))) ∧ ∀ x_2 : List Int × Nat × Nat × Nat × Nat, z4P16 xs x_2 n_1 → exI .i64 (x_2.2.1 : Int) (fun n_3 => exI .i64 (xs.length : Int) (fun n_4 => bif decide (n_3 < n_4) then exI .i64 (x_2.2.1 : Int) (fun n_5 => ckQ
 (z4P29 n_5 xs) (ckQ (z4P37 n_5 xs) (exV IntKind.i64 (z4P39 xs n_5) (fun n_6 => exW .i64 (n_6 - n_1) (fun n_7 => exW .i64 (n_7 + 65536) (fun n_8 => exI .i64 (n_8.tmod 65536) (fun n_9 => bif decide (n_9 ≥ 1) then bif
 decide (n_9 ≤ 16) then exI .i64 (z4P34 x_2) (fun n_10 => exW .i64 (n_9 - 1) (fun n_11 => ckQ (z4P40 n_11) (exW .i64 (1 * (2 : Int) ^ Min.min n_11.toNat 64) (fun n_12 => exW .i64 (n_10 + n_12) (fun n_13 => exI
 IntKind.i64 (x_2.2.1 : Int) (fun n_14 => exW .i64 (n_14 + 1) (fun n_15 => z4P11 ∧ ((∃ y_16 : List Int × Nat × Nat × Nat × Nat, z4P15 xs y_16 n_1 ∧ z4P7 y_16 x_2 ∧ False) ∨ ∃ y_16 : List Int × Nat × Nat × Nat × Nat, z4P16 xs y_16 n_1
 ∧ z4P7 y_16 x_2 ∧ z4P6 x_2 = z4P6 y_16 ∧ z4P30 t xs ∧ z4P27 ∧ z4P9 n_15 = z4P21 y_16 ∧ z4P9 n_13 = z4P8 y_16 ∧ eqqQ (z4P9 n_1) ∧ z4P31 x_2 = z4P31 y_16 ∧ True)))))))) else z4P3 x_2 xs n_1 t else z4P3 x_2 xs n_1 t))))))) else exI
 IntKind.i64 (z4P34 x_2) (fun n_5 => ckQ (z4P28 x_2) (z4P11 ∧ ((∃ y_6 : Nat, Lf True ∧ xs.length + 5 < xs.length + 5 ∧ False) ∨ (∃ y_6 : List Int × List (Int × Int), z4P10 xs y_6 ∧ y_6.1.length < xs.length + 5 ∧ z4P19 ∧ [z4P9 n_1, .int
 IntKind.i64 n_5] = cellsPM y_6.2 ∧ AV.lst 0 (((z4P6 x_2).drop 0).take ((x_2.2.1 - x_2.2.2.1) * 1)) (x_2.2.1 - x_2.2.2.1) 1 = z4P23 y_6 ∧ AV.sl 1 2 0 1 2 = z4P18 y_6 ∧ True) ∨ ∃ y_6 : List (Int × Int), z4P25 xs y_6 ∧ 0 < xs.length + 5 ∧
 False)))))))) else Q (.ret .nils) [] {})) ∧ (∀ x_0 : List Int × List (Int × Int), z4P10 xs x_0 → exI .i64 (x_0.1.length : Int) (fun n_1 => bif decide (n_1 > 0) then ckQ (Nat.blt 0 x_0.1.length && Bool.true) (ckQ (Nat.blt 0 (cellsI
 x_0.1).length) (exV IntKind.i64 ((cellsI x_0.1).getD 0 AV.undef) (fun n_2 => ((∃ x_3 : List Int × Nat × Nat × Nat × Nat, z4P13 x_0 x_3 n_2 ∧ z4P19 ∧ z4P38 x_0 ∧ eqqQ (z4P23 x_0) ∧ eqqQ (z4P18 x_0) ∧ AV.int .i64 1 = z4P21 x_3 ∧
 AV.int .i64 0 = z4P8 x_3 ∧ z4P36 n_2) ∨ ∃ x_3 : List Int × Nat × Nat × Nat × Nat, z4P14 x_0 x_3 n_2 ∧ z4P35 x_0) ∧ (∀ x_3 : List Int × Nat × Nat × Nat × Nat, z4P13 x_0 x_3 n_2 → exI .i64 (x_3.2.1 : Int) (fun n_4 => exI
 IntKind.i64 (x_0.1.length : Int) (fun n_5 => bif decide (n_4 < n_5) then exI .i64 (x_3.2.1 : Int) (fun n_6 => ckQ (z4P33 n_6 x_0) (ckQ (Nat.blt (n_6.toNat * 1) (cellsI x_0.1).length) (exV IntKind.i64 ((cellsI x_0.1).getD (n_6.toNat
 * 1) AV.undef) (fun n_7 => exW .i64 (n_7 - n_2) (fun n_8 => exW .i64 (n_8 + 65536) (fun n_9 => exI .i64 (n_9.tmod 65536) (fun n_10 => bif decide (n_10 ≥ 1) then bif decide (n_10 ≤ 16) then exI .i64 (z4P34 x_3)
 (fun n_11 => exW .i64 (n_10 - 1) (fun n_12 => ckQ (z4P40 n_12) (exW .i64 (1 * (2 : Int) ^ Min.min n_12.toNat 64) (fun n_13 => exW .i64 (n_11 + n_13) (fun n_14 => exI .i64 (x_3.2.1 : Int) (fun n_15 => exW
 IntKind.i64 (n_15 + 1) (fun n_16 => z4P11 ∧ ((∃ y_17 : List Int × Nat × Nat × Nat × Nat, z4P13 x_0 y_17 n_2 ∧ z4P7 y_17 x_3 ∧ z4P19 ∧ z4P38 x_0 ∧ eqqQ (z4P23 x_0) ∧ eqqQ (z4P18 x_0) ∧ z4P9 n_16 = z4P21 y_17 ∧ z4P9 n_14 = z4P8 y_17 ∧ z4P36
 n_2) ∨ ∃ y_17 : List Int × Nat × Nat × Nat × Nat, z4P14 x_0 y_17 n_2 ∧ z4P7 y_17 x_3 ∧ z4P35 x_0)))))))) else z4P4 x_3 x_0 n_2 else z4P4 x_3 x_0 n_2))))))) else exI .i64 (z4P34 x_3) (fun n_6 => ckQ (z4P24 x_0) (z4P11 ∧ ((∃ y_7 :
 Nat, Lf True ∧ xs.length + 5 < x_0.1.length ∧ False) ∨ (∃ y_7 : List Int × List (Int × Int), z4P10 xs y_7 ∧ y_7.1.length < x_0.1.length ∧ z4P19 ∧ cellsPM x_0.2 ++ [z4P9 n_2, .int .i64 n_6] = cellsPM y_7.2 ∧ AV.lst 0 [] 0 1 = z4P23
 y_7 ∧ AV.sl 1 (2 * x_0.2.length + 2) 0 (x_0.2.length + 1) 2 = z4P18 y_7 ∧ True) ∨ ∃ y_7 : List (Int × Int), z4P25 xs y_7 ∧ 0 < x_0.1.length ∧ False)))))) ∧ ∀ x_3 : List Int × Nat × Nat × Nat × Nat, z4P14 x_0 x_3 n_2 → exI .i64
 (x_3.2.1 : Int) (fun n_4 => exI .i64 (x_0.1.length : Int) (fun n_5 => bif decide (n_4 < n_5) then exI .i64 (x_3.2.1 : Int) (fun n_6 => ckQ (z4P33 n_6 x_0) (ckQ (Nat.blt (n_6.toNat * 1) (cellsI x_0.1).length) (exV IntKind.i64
 ((cellsI x_0.1).getD (n_6.toNat * 1) AV.undef) (fun n_7 => exW .i64 (n_7 - n_2) (fun n_8 => exW .i64 (n_8 + 65536) (fun n_9 => exI .i64 (n_9.tmod 65536) (fun n_10 => bif decide (n_10 ≥ 1) then bif decide (n_10 ≤ 16)
 then exI .i64 (z4P34 x_3) (fun n_11 => exW .i64 (n_10 - 1) (fun n_12 => ckQ (z4P40 n_12) (exW .i64 (1 * (2 : Int) ^ Min.min n_12.toNat 64) (fun n_13 => exW .i64 (n_11 + n_13) (fun n_14 => exI .i64
 (x_3.2.1 : Int) (fun n_15 => exW .i64 (n_15 + 1) (fun n_16 => z4P11 ∧ ((∃ y_17 : List Int × Nat × Nat × Nat × Nat, z4P13 x_0 y_17 n_2 ∧ z4P7 y_17 x_3 ∧ z4P35 x_0) ∨ ∃ y_17 : List Int × Nat × Nat × Nat × Nat, z4P14 x_0 y_17 n_2 ∧
 z4P7 y_17 x_3 ∧ z4P19 ∧ z4P38 x_0 ∧ z4P6 x_3 = z4P6 y_17 ∧ eqqQ (z4P23 x_0) ∧ eqqQ (z4P18 x_0) ∧ z4P9 n_16 = z4P21 y_17 ∧ z4P9 n_14 = z4P8 y_17 ∧ eqqQ (z4P9 n_2) ∧ z4P32 x_3 = z4P32 y_17 ∧ True)))))))) else z4P2 x_3 x_0 n_2 else z4P2 x_3
 x_0 n_2))))))) else exI .i64 (z4P34 x_3) (fun n_6 => ckQ (z4P24 x_0) (ckQ (z4P28 x_3) (z4P11 ∧ ((∃ y_7 : Nat, Lf True ∧ xs.length + 5 < x_0.1.length ∧ False) ∨ (∃ y_7 : List Int × List (Int × Int), z4P10 xs y_7 ∧ y_7.1.length <
 x_0.1.length ∧ z4P19 ∧ cellsPM x_0.2 ++ [z4P9 n_2, .int .i64 n_6] = cellsPM y_7.2 ∧ AV.lst 0 (((z4P6 x_3).drop 0).take ((x_3.2.1 - x_3.2.2.1) * 1)) (x_3.2.1 - x_3.2.2.1) 1 = z4P23 y_7 ∧ AV.sl 1 (2 * x_0.2.length + 2) 0 (x_0.2.length
 + 1) 2 = z4P18 y_7 ∧ True) ∨ ∃ y_7 : List (Int × Int), z4P25 xs y_7 ∧ 0 < x_0.1.length ∧ False))))))))) else Q (.ret (.sl 1 (2 * x_0.2.length) 0 x_0.2.length 2)) [Blk.mk BK.exact Bool.true [], Blk.mk BK.grow Bool.true (cellsPM x_0.2)] {}))
 ∧ ∀ x_0 : List (Int × Int), z4P25 xs x_0 → exI .i64 0 (fun n_1 => bif decide (n_1 > 0) then False else Q (.ret (.sl 0 (2 * x_0.length) 0 x_0.length 2)) [Blk.mk BK.grow Bool.true (cellsPM x_0)] {})) := by kernel_rfl

theorem okL_tail {n : Int} {l : List Int} (h : okPL (n :: l)) : okPL l := by
 obtain ⟨h1, h2, h3⟩ := h
 refine ⟨fun x hx => h1 x (by simp [hx]), by simp at h2; omega, ?_⟩
 cases l with
 | nil => rfl
 | cons n' l' =>
  simp only [List.getD_cons_zero, List.drop_one, List.tail_cons] at h3 ⊢
  rw [nackGoM] at h3
  split at h3
  ·cases h3
  ·exact nackGo_from n l' _ n' 0 h3 (by omega) (by omega)
theorem okL_drop : ∀ (j : Nat) {l : List Int}, okPL l → okPL (l.drop j)
 | 0, _, h => h
 | j + 1, [], h => by simpa using h
 | j + 1, n :: l, h => by simpa using okL_drop j (okL_tail h)
theorem okL_get {l : List Int} (h : okPL l) {i : Nat} (hi : i < l.length) : 0 ≤ l.getD i 0 ∧ l.getD i 0 ≤ 65535 := by
 have e1 : l.getD i 0 = l[i] := by simp [hi]
 rw [e1]
 exact h.1 _ (List.getElem_mem hi)
theorem pairsM_cons {l : List Int} (h : 0 < l.length) : pairsM l = (l.getD 0 0, maskM (l.getD 0 0) 0 (l.drop 1)) :: pairsM (restM (l.getD 0 0) (l.drop 1)) := by
 cases l with
 | nil => simp at h
 | cons n l => exact pairsGo_split n l 0

theorem cellsI_injP {xs ys : List Int} (h : cellsI xs = cellsI ys) : xs = ys := by
 induction xs generalizing ys with
 | nil => cases ys with | nil => rfl | cons y ys => simp [cellsI] at h
 | cons x xs ih => cases ys with
  | nil => simp [cellsI] at h
  | cons y ys =>
   simp only [cellsI, List.map_cons, List.cons.injEq, AV.int.injEq, true_and] at h
   rw [h.1, ih h.2]
theorem tm16 {x b : Int} (hx : 0 ≤ x ∧ x ≤ 65535) (hb : 0 ≤ b ∧ b ≤ 65535) : (x - b + 65536).tmod 65536 = (x - b) % 65536 := by
 rw [Int.tmod_eq_emod_of_nonneg (by omega)]; omega
theorem shl1 {d : Int} (h : 1 ≤ d ∧ d ≤ 16) {K : Int → Prop} (hk : K ((2 ^ (d - 1).toNat : Nat) : Int)) : ∃ n : Int, AV.int .i64 (IntKind.wrap .i64 (1 * 2 ^ min (d - 1).toNat 64)) = AV.int .i64 n ∧ K n := by
 have e : min (d - 1).toNat 64 = (d - 1).toNat := by omega
 rw [e, Int.one_mul]
 have h2 : (2 : Nat) ^ (d - 1).toNat ≤ 2 ^ 15 := Nat.pow_le_pow_right (by omega) (by omega)
 have e2 : (2 : Int) ^ (d - 1).toNat = ((2 ^ (d - 1).toNat : Nat) : Int) := by simp
 rw [e2]
 generalize (2 : Nat) ^ (d - 1).toNat = q at *
 exact wrapI (by omega) (by omega) hk
theorem pow16 {d : Nat} (h : d ≤ 16) : 2 ^ d ≤ 65536 := Nat.pow_le_pow_right (n := 2) (by omega) h
theorem step21 {base : Int} {m far k : Nat} {l : List Int} (h : k < l.length) (h9 : nackGoM base far (l.drop k) = true) (h10 : m < 2 ^ far) (d : Int) (hd : d = (l.getD k 0 - base) % 65536) :
  (far : Int) < d ∧ d ≤ 32767 ∧ nackGoM base d (l.drop (k + 1)) = true ∧ (d ≤ 16 → maskM base m (l.drop k) = maskM base (m + 2 ^ (d - 1).toNat : Nat) (l.drop (k + 1)) ∧ restM base (l.drop k) = restM base (l.drop (k + 1)) ∧ m + 2 ^ (d - 1).toNat < 2 ^ d.toNat) ∧
  (16 < d → maskM base m (l.drop k) = m ∧ restM base (l.drop k) = l.drop k) := by
 have e := drop_getD h
 rw [e, nackGoM, ← hd] at h9
 split at h9
 ·cases h9
 ·rename_i hc
  refine ⟨by omega, by omega, h9, fun h16 => ?_, fun h16 => ?_⟩
  ·have hlt : m < 2 ^ (d - 1).toNat := Nat.lt_of_lt_of_le h10 (Nat.pow_le_pow_right (by omega) (by omega))
   rw [e, maskM, restM, ← hd, if_neg (by omega), if_neg (by omega)]
   have e1 : ((m : Int) % 18446744073709551616).toNat = m := by
    have : 2 ^ (d - 1).toNat ≤ 65536 := pow16 (by omega)
    omega
   rw [e1, orJ_add hlt]
   refine ⟨rfl, rfl, ?_⟩
   have e2 : d.toNat = (d - 1).toNat + 1 := by omega
   rw [e2, Nat.pow_succ]; omega
  ·rw [e, maskM, restM, ← hd, if_pos h16, if_pos h16]
   exact ⟨rfl, rfl⟩
theorem far21 {base : Int} {far k : Nat} {l : List Int} (h : k < l.length) (h9 : nackGoM base far (l.drop k) = true) : (far : Int) < (l.getD k 0 - base) % 65536 ∧ nackGoM base ((l.getD k 0 - base) % 65536) (l.drop (k + 1)) = true := by
 rw [drop_getD h, nackGoM] at h9
 split at h9
 ·cases h9
 ·exact ⟨by omega, h9⟩

theorem ref21_run (t : Nat) (xs : List Int) (Q : Out → List Blk → Gh → Prop) (hx : okPL xs) (hl : 1 ≤ xs.length)
  (hq : ∀ (H : List Blk) (id : Nat), H[id]? = some ⟨.grow, true, cellsPM (pairsM xs)⟩ → Q (.ret (.sl id (2 * (pairsM xs).length) 0 (pairsM xs).length 2)) H {}) : ∃ hv hb, goal_21 hv hb t xs Q := by
 obtain ⟨hv, hb', e⟩ : ∃ hv hb, goal_21 hv hb t xs Q = _ := ⟨_, _, vc_21 t xs Q⟩
 refine ⟨hv, hb', e.mpr ?_⟩
 delta z4P30 z4P27 z4P10 z4P25 z4P34 z4P0 z4P15 z4P21 z4P20 z4P8 z4P26 z4P9 z4P36 z4P1 z4P16 z4P29 z4P37 z4P39 z4P40 z4P11 z4P17 z4P7 z4P12 z4P31 z4P5 z4P6 z4P22 z4P3 z4P28 z4P19 z4P23 z4P18 z4P13 z4P38 z4P14 z4P35 z4P33 z4P32 z4P4 z4P24 z4P2
 clear e
 have h2 := hx.2.1
 refine ⟨.inl ⟨0, ⟨trivial⟩, by simp⟩, ?_, ?_, ?_⟩
 ·rintro _ _
  have hb := okL_get hx (i := 0) (by omega)
  have hpc := pairsM_cons (l := xs) (by omega)
  have hx3 := hx.2.2
  (repeat' (first | (with_reducible refine trivial) | ((guard_target = False); omega) | (((with_reducible refine wrapI ?_ ?_ ?_)); (focus (omega)); (focus (omega))) | ((fail_if_success (with_reducible refine wrapI ?_ ?_ ?_)); (with_reducible refine ⟨_, rfl, ?_⟩)) | (((with_reducible refine wrapU8 ?_ ?_ ?_)); (focus (omega)); (focus (omega))) | (((with_reducible refine ckI ?_ ?_)); (focus (first | (simp only [Bool.and_eq_true, Bool.and_true, Bool.true_and, decide_eq_true_eq, blt_iff, Nat.ble_eq, nbeq, cellsI_len,  List.length_append, List.length_cons, List.length_nil, Int.toNat_natCast, and_true, true_and, Bool.or_eq_true, Bool.not_eq_true', bne_iff_ne, ne_eq]; done) | (simp only [Bool.and_eq_true, Bool.and_true, Bool.true_and, decide_eq_true_eq, blt_iff, Nat.ble_eq, nbeq, cellsI_len,  List.length_append, List.length_cons, List.length_nil, Int.toNat_natCast, and_true, true_and, Bool.or_eq_true, Bool.not_eq_true', bne_iff_ne, ne_eq]; omega) | rfl | (simp; done) | (simp; omega)))) | (with_reducible refine splitD (fun _ => ?_) (fun _ => ?_) <;> (try (exfalso; omega))) | (with_reducible refine splitE (fun _ => ?_) (fun _ => ?_) <;> (try (exfalso; omega))) | (with_reducible refine splitNE (fun _ => ?_) (fun _ => ?_) <;> (try (exfalso; omega))) | (with_reducible refine splitNot ?_) | (with_reducible refine splitAnd ?_) | (with_reducible refine splitOr ?_)))
  refine getI (i := 0) (by omega) rfl ?_
  generalize hbase : xs.getD 0 0 = base at *
  refine ⟨.inl ⟨(xs, 1, 0, 0, 0), ⟨rfl, rfl, hx, hbase.symm, by simp, by simpa using hl, rfl, rfl, hx3, by simp, by simp⟩, by simp⟩, ?_, ?_⟩
  ·rintro ⟨l, k, j, m, far⟩ ⟨g1, g2, g3, g4, g5, g6, g7, g8, g9, g10, g11⟩
   dsimp only at *
   obtain rfl := cellsI_injP g1
   (repeat' (first | (with_reducible refine trivial) | ((guard_target = False); omega) | (((with_reducible refine wrapI ?_ ?_ ?_)); (focus (omega)); (focus (omega))) | ((fail_if_success (with_reducible refine wrapI ?_ ?_ ?_)); (with_reducible refine ⟨_, rfl, ?_⟩)) | (((with_reducible refine wrapU8 ?_ ?_ ?_)); (focus (omega)); (focus (omega))) | (((with_reducible refine ckI ?_ ?_)); (focus (first | (simp only [Bool.and_eq_true, Bool.and_true, Bool.true_and, decide_eq_true_eq, blt_iff, Nat.ble_eq, nbeq, cellsI_len,  List.length_append, List.length_cons, List.length_nil, Int.toNat_natCast, and_true, true_and, Bool.or_eq_true, Bool.not_eq_true', bne_iff_ne, ne_eq]; done) | (simp only [Bool.and_eq_true, Bool.and_true, Bool.true_and, decide_eq_true_eq, blt_iff, Nat.ble_eq, nbeq, cellsI_len,  List.length_append, List.length_cons, List.length_nil, Int.toNat_natCast, and_true, true_and, Bool.or_eq_true, Bool.not_eq_true', bne_iff_ne, ne_eq]; omega) | rfl | (simp; done) | (simp; omega)))) | (with_reducible refine splitD (fun _ => ?_) (fun _ => ?_) <;> (try (exfalso; omega))) | (with_reducible refine splitE (fun _ => ?_) (fun _ => ?_) <;> (try (exfalso; omega))) | (with_reducible refine splitNE (fun _ => ?_) (fun _ => ?_) <;> (try (exfalso; omega))) | (with_reducible refine splitNot ?_) | (with_reducible refine splitAnd ?_) | (with_reducible refine splitOr ?_)))
   ·have hk : k < xs.length := by omega
    have hn := okL_get hx hk
    have hp := pow16 g11
    refine getI (i := k) hk (by omega) (wrapI (by omega) (by omega) (wrapI (by omega) (by omega) ⟨_, rfl, ?_⟩))
    rw [tm16 hn hb]
    generalize hd : (xs.getD k 0 - base) % 65536 = d
    obtain ⟨s1, s2, s3, s4, s5⟩ := step21 hk g9 g10 d hd.symm
    refine splitD (fun _ => ?_) (fun h => by omega)
    refine splitD (fun h16 => ?_) (fun h16 => ?_)
    ·obtain ⟨s6, s7, s8⟩ := s4 h16
     have hp2 := pow16 (show d.toNat ≤ 16 by omega)
     (repeat' (first | (with_reducible refine trivial) | ((guard_target = False); omega) | (((with_reducible refine wrapI ?_ ?_ ?_)); (focus (omega)); (focus (omega))) | ((fail_if_success (with_reducible refine wrapI ?_ ?_ ?_)); (with_reducible refine ⟨_, rfl, ?_⟩)) | (((with_reducible refine wrapU8 ?_ ?_ ?_)); (focus (omega)); (focus (omega))) | (((with_reducible refine ckI ?_ ?_)); (focus (first | (simp only [Bool.and_eq_true, Bool.and_true, Bool.true_and, decide_eq_true_eq, blt_iff, Nat.ble_eq, nbeq, cellsI_len,  List.length_append, List.length_cons, List.length_nil, Int.toNat_natCast, and_true, true_and, Bool.or_eq_true, Bool.not_eq_true', bne_iff_ne, ne_eq]; done) | (simp only [Bool.and_eq_true, Bool.and_true, Bool.true_and, decide_eq_true_eq, blt_iff, Nat.ble_eq, nbeq, cellsI_len,  List.length_append, List.length_cons, List.length_nil, Int.toNat_natCast, and_true, true_and, Bool.or_eq_true, Bool.not_eq_true', bne_iff_ne, ne_eq]; omega) | rfl | (simp; done) | (simp; omega)))) | (with_reducible refine splitD (fun _ => ?_) (fun _ => ?_) <;> (try (exfalso; omega))) | (with_reducible refine splitE (fun _ => ?_) (fun _ => ?_) <;> (try (exfalso; omega))) | (with_reducible refine splitNE (fun _ => ?_) (fun _ => ?_) <;> (try (exfalso; omega))) | (with_reducible refine splitNot ?_) | (with_reducible refine splitAnd ?_) | (with_reducible refine splitOr ?_)))
     refine shl1 (by omega) ?_
     generalize (2 : Nat) ^ (d - 1).toNat = q at *
     (repeat' (first | (with_reducible refine trivial) | ((guard_target = False); omega) | (((with_reducible refine wrapI ?_ ?_ ?_)); (focus (omega)); (focus (omega))) | ((fail_if_success (with_reducible refine wrapI ?_ ?_ ?_)); (with_reducible refine ⟨_, rfl, ?_⟩)) | (((with_reducible refine wrapU8 ?_ ?_ ?_)); (focus (omega)); (focus (omega))) | (((with_reducible refine ckI ?_ ?_)); (focus (first | (simp only [Bool.and_eq_true, Bool.and_true, Bool.true_and, decide_eq_true_eq, blt_iff, Nat.ble_eq, nbeq, cellsI_len,  List.length_append, List.length_cons, List.length_nil, Int.toNat_natCast, and_true, true_and, Bool.or_eq_true, Bool.not_eq_true', bne_iff_ne, ne_eq]; done) | (simp only [Bool.and_eq_true, Bool.and_true, Bool.true_and, decide_eq_true_eq, blt_iff, Nat.ble_eq, nbeq, cellsI_len,  List.length_append, List.length_cons, List.length_nil, Int.toNat_natCast, and_true, true_and, Bool.or_eq_true, Bool.not_eq_true', bne_iff_ne, ne_eq]; omega) | rfl | (simp; done) | (simp; omega)))) | (with_reducible refine splitD (fun _ => ?_) (fun _ => ?_) <;> (try (exfalso; omega))) | (with_reducible refine splitE (fun _ => ?_) (fun _ => ?_) <;> (try (exfalso; omega))) | (with_reducible refine splitNE (fun _ => ?_) (fun _ => ?_) <;> (try (exfalso; omega))) | (with_reducible refine splitNot ?_) | (with_reducible refine splitAnd ?_) | (with_reducible refine splitOr ?_)))
     refine ⟨⟨trivial, by trivial⟩, .inl ⟨(xs, k + 1, 0, m + q, d.toNat), ⟨rfl, rfl, hx, hbase.symm, by simp, hk, g7.trans s6, g8.trans s7, ?_, s8, ?_⟩, ?_, by simp⟩⟩
     ·show nackGoM base (d.toNat : Int) _ = true
      rw [Int.toNat_of_nonneg (by omega)]; exact s3
     ·show d.toNat ≤ 16
      omega
     ·show xs.length - (k + 1) < xs.length - k
      omega
    ·obtain ⟨s6, s7⟩ := s5 (by omega)
     (repeat' (first | (with_reducible refine trivial) | ((guard_target = False); omega) | (((with_reducible refine wrapI ?_ ?_ ?_)); (focus (omega)); (focus (omega))) | ((fail_if_success (with_reducible refine wrapI ?_ ?_ ?_)); (with_reducible refine ⟨_, rfl, ?_⟩)) | (((with_reducible refine wrapU8 ?_ ?_ ?_)); (focus (omega)); (focus (omega))) | (((with_reducible refine ckI ?_ ?_)); (focus (first | (simp only [Bool.and_eq_true, Bool.and_true, Bool.true_and, decide_eq_true_eq, blt_iff, Nat.ble_eq, nbeq, cellsI_len,  List.length_append, List.length_cons, List.length_nil, Int.toNat_natCast, and_true, true_and, Bool.or_eq_true, Bool.not_eq_true', bne_iff_ne, ne_eq]; done) | (simp only [Bool.and_eq_true, Bool.and_true, Bool.true_and, decide_eq_true_eq, blt_iff, Nat.ble_eq, nbeq, cellsI_len,  List.length_append, List.length_cons, List.length_nil, Int.toNat_natCast, and_true, true_and, Bool.or_eq_true, Bool.not_eq_true', bne_iff_ne, ne_eq]; omega) | rfl | (simp; done) | (simp; omega)))) | (with_reducible refine splitD (fun _ => ?_) (fun _ => ?_) <;> (try (exfalso; omega))) | (with_reducible refine splitE (fun _ => ?_) (fun _ => ?_) <;> (try (exfalso; omega))) | (with_reducible refine splitNE (fun _ => ?_) (fun _ => ?_) <;> (try (exfalso; omega))) | (with_reducible refine splitNot ?_) | (with_reducible refine splitAnd ?_) | (with_reducible refine splitOr ?_)))
     refine getI (i := k) hk (by omega) ?_
     (repeat' (first | (with_reducible refine trivial) | ((guard_target = False); omega) | (((with_reducible refine wrapI ?_ ?_ ?_)); (focus (omega)); (focus (omega))) | ((fail_if_success (with_reducible refine wrapI ?_ ?_ ?_)); (with_reducible refine ⟨_, rfl, ?_⟩)) | (((with_reducible refine wrapU8 ?_ ?_ ?_)); (focus (omega)); (focus (omega))) | (((with_reducible refine ckI ?_ ?_)); (focus (first | (simp only [Bool.and_eq_true, Bool.and_true, Bool.true_and, decide_eq_true_eq, blt_iff, Nat.ble_eq, nbeq, cellsI_len,  List.length_append, List.length_cons, List.length_nil, Int.toNat_natCast, and_true, true_and, Bool.or_eq_true, Bool.not_eq_true', bne_iff_ne, ne_eq]; done) | (simp only [Bool.and_eq_true, Bool.and_true, Bool.true_and, decide_eq_true_eq, blt_iff, Nat.ble_eq, nbeq, cellsI_len,  List.length_append, List.length_cons, List.length_nil, Int.toNat_natCast, and_true, true_and, Bool.or_eq_true, Bool.not_eq_true', bne_iff_ne, ne_eq]; omega) | rfl | (simp; done) | (simp; omega)))) | (with_reducible refine splitD (fun _ => ?_) (fun _ => ?_) <;> (try (exfalso; omega))) | (with_reducible refine splitE (fun _ => ?_) (fun _ => ?_) <;> (try (exfalso; omega))) | (with_reducible refine splitNE (fun _ => ?_) (fun _ => ?_) <;> (try (exfalso; omega))) | (with_reducible refine splitNot ?_) | (with_reducible refine splitAnd ?_) | (with_reducible refine splitOr ?_)))
     refine ⟨⟨trivial, by trivial⟩, .inr ⟨(xs, k + 1, k, m, d.toNat), ⟨rfl, rfl, hx, hbase.symm, g5, Nat.lt_succ_self _, hk, g7.trans s6, g8.trans s7, ?_, ?_, ?_⟩, ?_, ?_⟩⟩
     ·show nackGoM base (d.toNat : Int) _ = true
      rw [Int.toNat_of_nonneg (by omega)]; exact s3
     ·show 16 < d.toNat
      omega
     ·show m < 65536
      omega
     ·show xs.length - (k + 1) < xs.length - k
      omega
     ·have e1 : (xs.take (k + 1)).drop k = [xs.getD k 0] := by
       rw [take_snocD xs 0 hk, List.drop_append_of_le_length (by rw [List.length_take]; omega), List.drop_of_length_le (by rw [List.length_take]; omega), List.nil_append]
      dsimp only
      rw [e1, show k + 1 - k = 1 by omega]
      simp [cellsI]
   ·have hk : k = xs.length := by omega
    subst hk
    rw [List.drop_length] at g7 g8
    simp only [maskM, restM] at g7 g8
    rw [g7, g8, pairsM] at hpc
    refine ⟨⟨trivial, by trivial⟩, .inr (.inr ⟨_, ⟨rfl, ?_⟩, by omega, ?_⟩)⟩
    ·rw [hpc]; simpa using hl
    ·rw [hpc]; simp [cellsPM]
  ·rintro ⟨l, k, j, m, far⟩ ⟨g1, g2, g3, g4, g5, g6, g7, g8, g9, g10, g11, g12⟩
   dsimp only at *
   obtain rfl := cellsI_injP g1
   (repeat' (first | (with_reducible refine trivial) | ((guard_target = False); omega) | (((with_reducible refine wrapI ?_ ?_ ?_)); (focus (omega)); (focus (omega))) | ((fail_if_success (with_reducible refine wrapI ?_ ?_ ?_)); (with_reducible refine ⟨_, rfl, ?_⟩)) | (((with_reducible refine wrapU8 ?_ ?_ ?_)); (focus (omega)); (focus (omega))) | (((with_reducible refine ckI ?_ ?_)); (focus (first | (simp only [Bool.and_eq_true, Bool.and_true, Bool.true_and, decide_eq_true_eq, blt_iff, Nat.ble_eq, nbeq, cellsI_len,  List.length_append, List.length_cons, List.length_nil, Int.toNat_natCast, and_true, true_and, Bool.or_eq_true, Bool.not_eq_true', bne_iff_ne, ne_eq]; done) | (simp only [Bool.and_eq_true, Bool.and_true, Bool.true_and, decide_eq_true_eq, blt_iff, Nat.ble_eq, nbeq, cellsI_len,  List.length_append, List.length_cons, List.length_nil, Int.toNat_natCast, and_true, true_and, Bool.or_eq_true, Bool.not_eq_true', bne_iff_ne, ne_eq]; omega) | rfl | (simp; done) | (simp; omega)))) | (with_reducible refine splitD (fun _ => ?_) (fun _ => ?_) <;> (try (exfalso; omega))) | (with_reducible refine splitE (fun _ => ?_) (fun _ => ?_) <;> (try (exfalso; omega))) | (with_reducible refine splitNE (fun _ => ?_) (fun _ => ?_) <;> (try (exfalso; omega))) | (with_reducible refine splitNot ?_) | (with_reducible refine splitAnd ?_) | (with_reducible refine splitOr ?_)))
   ·have hk : k < xs.length := by omega
    have hn := okL_get hx hk
    obtain ⟨s1, s2⟩ := far21 hk g10
    have hlk : (List.drop j (List.take k xs)).length = k - j := by simp; omega
    refine getI (i := k) hk (by omega) (wrapI (by omega) (by omega) (wrapI (by omega) (by omega) ⟨_, rfl, ?_⟩))
    rw [tm16 hn hb]
    generalize hd : (xs.getD k 0 - base) % 65536 = d at *
    (repeat' (first | (with_reducible refine trivial) | ((guard_target = False); omega) | (((with_reducible refine wrapI ?_ ?_ ?_)); (focus (omega)); (focus (omega))) | ((fail_if_success (with_reducible refine wrapI ?_ ?_ ?_)); (with_reducible refine ⟨_, rfl, ?_⟩)) | (((with_reducible refine wrapU8 ?_ ?_ ?_)); (focus (omega)); (focus (omega))) | (((with_reducible refine ckI ?_ ?_)); (focus (first | (simp only [Bool.and_eq_true, Bool.and_true, Bool.true_and, decide_eq_true_eq, blt_iff, Nat.ble_eq, nbeq, cellsI_len, hlk, List.length_append, List.length_cons, List.length_nil, Int.toNat_natCast, and_true, true_and, Bool.or_eq_true, Bool.not_eq_true', bne_iff_ne, ne_eq]; done) | (simp only [Bool.and_eq_true, Bool.and_true, Bool.true_and, decide_eq_true_eq, blt_iff, Nat.ble_eq, nbeq, cellsI_len, hlk, List.length_append, List.length_cons, List.length_nil, Int.toNat_natCast, and_true, true_and, Bool.or_eq_true, Bool.not_eq_true', bne_iff_ne, ne_eq]; omega) | rfl | (simp; done) | (simp; omega)))) | (with_reducible refine splitD (fun _ => ?_) (fun _ => ?_) <;> (try (exfalso; omega))) | (with_reducible refine splitE (fun _ => ?_) (fun _ => ?_) <;> (try (exfalso; omega))) | (with_reducible refine splitNE (fun _ => ?_) (fun _ => ?_) <;> (try (exfalso; omega))) | (with_reducible refine splitNot ?_) | (with_reducible refine splitAnd ?_) | (with_reducible refine splitOr ?_)))
    refine getI (i := k) hk (by omega) ?_
    (repeat' (first | (with_reducible refine trivial) | ((guard_target = False); omega) | (((with_reducible refine wrapI ?_ ?_ ?_)); (focus (omega)); (focus (omega))) | ((fail_if_success (with_reducible refine wrapI ?_ ?_ ?_)); (with_reducible refine ⟨_, rfl, ?_⟩)) | (((with_reducible refine wrapU8 ?_ ?_ ?_)); (focus (omega)); (focus (omega))) | (((with_reducible refine ckI ?_ ?_)); (focus (first | (simp only [Bool.and_eq_true, Bool.and_true, Bool.true_and, decide_eq_true_eq, blt_iff, Nat.ble_eq, nbeq, cellsI_len, hlk, List.length_append, List.length_cons, List.length_nil, Int.toNat_natCast, and_true, true_and, Bool.or_eq_true, Bool.not_eq_true', bne_iff_ne, ne_eq]; done) | (simp only [Bool.and_eq_true, Bool.and_true, Bool.true_and, decide_eq_true_eq, blt_iff, Nat.ble_eq, nbeq, cellsI_len, hlk, List.length_append, List.length_cons, List.length_nil, Int.toNat_natCast, and_true, true_and, Bool.or_eq_true, Bool.not_eq_true', bne_iff_ne, ne_eq]; omega) | rfl | (simp; done) | (simp; omega)))) | (with_reducible refine splitD (fun _ => ?_) (fun _ => ?_) <;> (try (exfalso; omega))) | (with_reducible refine splitE (fun _ => ?_) (fun _ => ?_) <;> (try (exfalso; omega))) | (with_reducible refine splitNE (fun _ => ?_) (fun _ => ?_) <;> (try (exfalso; omega))) | (with_reducible refine splitNot ?_) | (with_reducible refine splitAnd ?_) | (with_reducible refine splitOr ?_)))
    refine ⟨⟨trivial, by trivial⟩, .inr ⟨(xs, k + 1, j, m, d.toNat), ⟨rfl, rfl, hx, hbase.symm, g5, ?_, hk, g8, g9, ?_, ?_, g12⟩, ?_, ?_⟩⟩
    ·show j < k + 1
     omega
    ·show nackGoM base (d.toNat : Int) _ = true
     rw [Int.toNat_of_nonneg (by omega)]; exact s2
    ·show 16 < d.toNat
     omega
    ·show xs.length - (k + 1) < xs.length - k
     omega
    ·have e1 : cellsI ((xs.take k).drop j) ++ [AV.int .i64 (xs.getD k 0)] = cellsI ((xs.take (k + 1)).drop j) := by
      rw [take_snocD xs 0 hk, List.drop_append_of_le_length (by rw [List.length_take]; omega)]
      simp [cellsI]
     have e2 : k - j + 1 = k + 1 - j := by omega
     dsimp only
     rw [e1]
     simp [e2]
   ·have hk : k = xs.length := by omega
    subst hk
    rw [List.take_length]
    rw [g8, g9] at hpc
    have hlk : (List.drop j xs).length = xs.length - j := by simp
    have hny := noY_cellsI (xs.drop j)
    (repeat' (first | (with_reducible refine trivial) | ((guard_target = False); omega) | (((with_reducible refine wrapI ?_ ?_ ?_)); (focus (omega)); (focus (omega))) | ((fail_if_success (with_reducible refine wrapI ?_ ?_ ?_)); (with_reducible refine ⟨_, rfl, ?_⟩)) | (((with_reducible refine wrapU8 ?_ ?_ ?_)); (focus (omega)); (focus (omega))) | (((with_reducible refine ckI ?_ ?_)); (focus (first | (simp only [Bool.and_eq_true, Bool.and_true, Bool.true_and, decide_eq_true_eq, blt_iff, Nat.ble_eq, nbeq, cellsI_len, hlk, hny.1, List.length_append, List.length_cons, List.length_nil, Int.toNat_natCast, and_true, true_and, Bool.or_eq_true, Bool.not_eq_true', bne_iff_ne, ne_eq]; done) | (simp only [Bool.and_eq_true, Bool.and_true, Bool.true_and, decide_eq_true_eq, blt_iff, Nat.ble_eq, nbeq, cellsI_len, hlk, hny.1, List.length_append, List.length_cons, List.length_nil, Int.toNat_natCast, and_true, true_and, Bool.or_eq_true, Bool.not_eq_true', bne_iff_ne, ne_eq]; omega) | rfl | (simp; done) | (simp; omega)))) | (with_reducible refine splitD (fun _ => ?_) (fun _ => ?_) <;> (try (exfalso; omega))) | (with_reducible refine splitE (fun _ => ?_) (fun _ => ?_) <;> (try (exfalso; omega))) | (with_reducible refine splitNE (fun _ => ?_) (fun _ => ?_) <;> (try (exfalso; omega))) | (with_reducible refine splitNot ?_) | (with_reducible refine splitAnd ?_) | (with_reducible refine splitOr ?_)))
    refine ⟨⟨trivial, by trivial⟩, .inr (.inl ⟨(xs.drop j, [(base, (m : Int))]), ⟨hpc, okL_drop j hx, by simp, ?_⟩, ?_, ?_⟩)⟩
    ·simp only [List.length_cons, List.length_nil, List.length_drop]; omega
    ·simp only [List.length_drop]; omega
    ·have e3 : (xs.length - j) * 1 = (cellsI (xs.drop j)).length := by rw [cellsI_len]; omega
     rw [e3, List.drop_zero, List.take_length]
     simp [cellsPM, List.length_drop]
 ·rintro ⟨l, done⟩ ⟨f1, hx, f3, f4⟩
  dsimp only at *
  by_cases hl0 : l.length = 0
  ·have e0 : l = [] := List.length_eq_zero_iff.1 hl0
   subst e0
   rw [pairsM, List.append_nil] at f1
   rw [← f1]
   exact ⟨_, rfl, hq _ 1 rfl⟩
  have hl : 1 ≤ l.length := by omega
  have hlp := cellsPM_len done
  have hb := okL_get hx (i := 0) (by omega)
  have hpc := pairsM_cons (l := l) (by omega)
  have hx3 := hx.2.2
  (repeat' (first | (with_reducible refine trivial) | ((guard_target = False); omega) | (((with_reducible refine wrapI ?_ ?_ ?_)); (focus (omega)); (focus (omega))) | ((fail_if_success (with_reducible refine wrapI ?_ ?_ ?_)); (with_reducible refine ⟨_, rfl, ?_⟩)) | (((with_reducible refine wrapU8 ?_ ?_ ?_)); (focus (omega)); (focus (omega))) | (((with_reducible refine ckI ?_ ?_)); (focus (first | (simp only [Bool.and_eq_true, Bool.and_true, Bool.true_and, decide_eq_true_eq, blt_iff, Nat.ble_eq, nbeq, cellsI_len, hlp, List.length_append, List.length_cons, List.length_nil, Int.toNat_natCast, and_true, true_and, Bool.or_eq_true, Bool.not_eq_true', bne_iff_ne, ne_eq]; done) | (simp only [Bool.and_eq_true, Bool.and_true, Bool.true_and, decide_eq_true_eq, blt_iff, Nat.ble_eq, nbeq, cellsI_len, hlp, List.length_append, List.length_cons, List.length_nil, Int.toNat_natCast, and_true, true_and, Bool.or_eq_true, Bool.not_eq_true', bne_iff_ne, ne_eq]; omega) | rfl | (simp; done) | (simp; omega)))) | (with_reducible refine splitD (fun _ => ?_) (fun _ => ?_) <;> (try (exfalso; omega))) | (with_reducible refine splitE (fun _ => ?_) (fun _ => ?_) <;> (try (exfalso; omega))) | (with_reducible refine splitNE (fun _ => ?_) (fun _ => ?_) <;> (try (exfalso; omega))) | (with_reducible refine splitNot ?_) | (with_reducible refine splitAnd ?_) | (with_reducible refine splitOr ?_)))
  refine getI (i := 0) (by omega) rfl ?_
  generalize hbase : l.getD 0 0 = base at *
  refine ⟨.inl ⟨(l, 1, 0, 0, 0), ⟨rfl, rfl, hx, hbase.symm, by simp, by simpa using hl, rfl, rfl, hx3, by simp, by simp⟩, by simp⟩, ?_, ?_⟩
  ·rintro ⟨l2, k, j, m, far⟩ ⟨g1, g2, g3, g4, g5, g6, g7, g8, g9, g10, g11⟩
   dsimp only at *
   obtain rfl := cellsI_injP g1
   (repeat' (first | (with_reducible refine trivial) | ((guard_target = False); omega) | (((with_reducible refine wrapI ?_ ?_ ?_)); (focus (omega)); (focus (omega))) | ((fail_if_success (with_reducible refine wrapI ?_ ?_ ?_)); (with_reducible refine ⟨_, rfl, ?_⟩)) | (((with_reducible refine wrapU8 ?_ ?_ ?_)); (focus (omega)); (focus (omega))) | (((with_reducible refine ckI ?_ ?_)); (focus (first | (simp only [Bool.and_eq_true, Bool.and_true, Bool.true_and, decide_eq_true_eq, blt_iff, Nat.ble_eq, nbeq, cellsI_len,  List.length_append, List.length_cons, List.length_nil, Int.toNat_natCast, and_true, true_and, Bool.or_eq_true, Bool.not_eq_true', bne_iff_ne, ne_eq]; done) | (simp only [Bool.and_eq_true, Bool.and_true, Bool.true_and, decide_eq_true_eq, blt_iff, Nat.ble_eq, nbeq, cellsI_len,  List.length_append, List.length_cons, List.length_nil, Int.toNat_natCast, and_true, true_and, Bool.or_eq_true, Bool.not_eq_true', bne_iff_ne, ne_eq]; omega) | rfl | (simp; done) | (simp; omega)))) | (with_reducible refine splitD (fun _ => ?_) (fun _ => ?_) <;> (try (exfalso; omega))) | (with_reducible refine splitE (fun _ => ?_) (fun _ => ?_) <;> (try (exfalso; omega))) | (with_reducible refine splitNE (fun _ => ?_) (fun _ => ?_) <;> (try (exfalso; omega))) | (with_reducible refine splitNot ?_) | (with_reducible refine splitAnd ?_) | (with_reducible refine splitOr ?_)))
   ·have hk : k < l.length := by omega
    have hn := okL_get hx hk
    have hp := pow16 g11
    refine getI (i := k) hk (by omega) (wrapI (by omega) (by omega) (wrapI (by omega) (by omega) ⟨_, rfl, ?_⟩))
    rw [tm16 hn hb]
    generalize hd : (l.getD k 0 - base) % 65536 = d
    obtain ⟨s1, s2, s3, s4, s5⟩ := step21 hk g9 g10 d hd.symm
    refine splitD (fun _ => ?_) (fun h => by omega)
    refine splitD (fun h16 => ?_) (fun h16 => ?_)
    ·obtain ⟨s6, s7, s8⟩ := s4 h16
     have hp2 := pow16 (show d.toNat ≤ 16 by omega)
     (repeat' (first | (with_reducible refine trivial) | ((guard_target = False); omega) | (((with_reducible refine wrapI ?_ ?_ ?_)); (focus (omega)); (focus (omega))) | ((fail_if_success (with_reducible refine wrapI ?_ ?_ ?_)); (with_reducible refine ⟨_, rfl, ?_⟩)) | (((with_reducible refine wrapU8 ?_ ?_ ?_)); (focus (omega)); (focus (omega))) | (((with_reducible refine ckI ?_ ?_)); (focus (first | (simp only [Bool.and_eq_true, Bool.and_true, Bool.true_and, decide_eq_true_eq, blt_iff, Nat.ble_eq, nbeq, cellsI_len,  List.length_append, List.length_cons, List.length_nil, Int.toNat_natCast, and_true, true_and, Bool.or_eq_true, Bool.not_eq_true', bne_iff_ne, ne_eq]; done) | (simp only [Bool.and_eq_true, Bool.and_true, Bool.true_and, decide_eq_true_eq, blt_iff, Nat.ble_eq, nbeq, cellsI_len,  List.length_append, List.length_cons, List.length_nil, Int.toNat_natCast, and_true, true_and, Bool.or_eq_true, Bool.not_eq_true', bne_iff_ne, ne_eq]; omega) | rfl | (simp; done) | (simp; omega)))) | (with_reducible refine splitD (fun _ => ?_) (fun _ => ?_) <;> (try (exfalso; omega))) | (with_reducible refine splitE (fun _ => ?_) (fun _ => ?_) <;> (try (exfalso; omega))) | (with_reducible refine splitNE (fun _ => ?_) (fun _ => ?_) <;> (try (exfalso; omega))) | (with_reducible refine splitNot ?_) | (with_reducible refine splitAnd ?_) | (with_reducible refine splitOr ?_)))
     refine shl1 (by omega) ?_
     generalize (2 : Nat) ^ (d - 1).toNat = q at *
     (repeat' (first | (with_reducible refine trivial) | ((guard_target = False); omega) | (((with_reducible refine wrapI ?_ ?_ ?_)); (focus (omega)); (focus (omega))) | ((fail_if_success (with_reducible refine wrapI ?_ ?_ ?_)); (with_reducible refine ⟨_, rfl, ?_⟩)) | (((with_reducible refine wrapU8 ?_ ?_ ?_)); (focus (omega)); (focus (omega))) | (((with_reducible refine ckI ?_ ?_)); (focus (first | (simp only [Bool.and_eq_true, Bool.and_true, Bool.true_and, decide_eq_true_eq, blt_iff, Nat.ble_eq, nbeq, cellsI_len,  List.length_append, List.length_cons, List.length_nil, Int.toNat_natCast, and_true, true_and, Bool.or_eq_true, Bool.not_eq_true', bne_iff_ne, ne_eq]; done) | (simp only [Bool.and_eq_true, Bool.and_true, Bool.true_and, decide_eq_true_eq, blt_iff, Nat.ble_eq, nbeq, cellsI_len,  List.length_append, List.length_cons, List.length_nil, Int.toNat_natCast, and_true, true_and, Bool.or_eq_true, Bool.not_eq_true', bne_iff_ne, ne_eq]; omega) | rfl | (simp; done) | (simp; omega)))) | (with_reducible refine splitD (fun _ => ?_) (fun _ => ?_) <;> (try (exfalso; omega))) | (with_reducible refine splitE (fun _ => ?_) (fun _ => ?_) <;> (try (exfalso; omega))) | (with_reducible refine splitNE (fun _ => ?_) (fun _ => ?_) <;> (try (exfalso; omega))) | (with_reducible refine splitNot ?_) | (with_reducible refine splitAnd ?_) | (with_reducible refine splitOr ?_)))
     refine ⟨⟨trivial, by trivial⟩, .inl ⟨(l, k + 1, 0, m + q, d.toNat), ⟨rfl, rfl, hx, hbase.symm, by simp, hk, g7.trans s6, g8.trans s7, ?_, s8, ?_⟩, ?_, by simp⟩⟩
     ·show nackGoM base (d.toNat : Int) _ = true
      rw [Int.toNat_of_nonneg (by omega)]; exact s3
     ·show d.toNat ≤ 16
      omega
     ·show l.length - (k + 1) < l.length - k
      omega
    ·obtain ⟨s6, s7⟩ := s5 (by omega)
     (repeat' (first | (with_reducible refine trivial) | ((guard_target = False); omega) | (((with_reducible refine wrapI ?_ ?_ ?_)); (focus (omega)); (focus (omega))) | ((fail_if_success (with_reducible refine wrapI ?_ ?_ ?_)); (with_reducible refine ⟨_, rfl, ?_⟩)) | (((with_reducible refine wrapU8 ?_ ?_ ?_)); (focus (omega)); (focus (omega))) | (((with_reducible refine ckI ?_ ?_)); (focus (first | (simp only [Bool.and_eq_true, Bool.and_true, Bool.true_and, decide_eq_true_eq, blt_iff, Nat.ble_eq, nbeq, cellsI_len,  List.length_append, List.length_cons, List.length_nil, Int.toNat_natCast, and_true, true_and, Bool.or_eq_true, Bool.not_eq_true', bne_iff_ne, ne_eq]; done) | (simp only [Bool.and_eq_true, Bool.and_true, Bool.true_and, decide_eq_true_eq, blt_iff, Nat.ble_eq, nbeq, cellsI_len,  List.length_append, List.length_cons, List.length_nil, Int.toNat_natCast, and_true, true_and, Bool.or_eq_true, Bool.not_eq_true', bne_iff_ne, ne_eq]; omega) | rfl | (simp; done) | (simp; omega)))) | (with_reducible refine splitD (fun _ => ?_) (fun _ => ?_) <;> (try (exfalso; omega))) | (with_reducible refine splitE (fun _ => ?_) (fun _ => ?_) <;> (try (exfalso; omega))) | (with_reducible refine splitNE (fun _ => ?_) (fun _ => ?_) <;> (try (exfalso; omega))) | (with_reducible refine splitNot ?_) | (with_reducible refine splitAnd ?_) | (with_reducible refine splitOr ?_)))
     refine getI (i := k) hk (by omega) ?_
     (repeat' (first | (with_reducible refine trivial) | ((guard_target = False); omega) | (((with_reducible refine wrapI ?_ ?_ ?_)); (focus (omega)); (focus (omega))) | ((fail_if_success (with_reducible refine wrapI ?_ ?_ ?_)); (with_reducible refine ⟨_, rfl, ?_⟩)) | (((with_reducible refine wrapU8 ?_ ?_ ?_)); (focus (omega)); (focus (omega))) | (((with_reducible refine ckI ?_ ?_)); (focus (first | (simp only [Bool.and_eq_true, Bool.and_true, Bool.true_and, decide_eq_true_eq, blt_iff, Nat.ble_eq, nbeq, cellsI_len,  List.length_append, List.length_cons, List.length_nil, Int.toNat_natCast, and_true, true_and, Bool.or_eq_true, Bool.not_eq_true', bne_iff_ne, ne_eq]; done) | (simp only [Bool.and_eq_true, Bool.and_true, Bool.true_and, decide_eq_true_eq, blt_iff, Nat.ble_eq, nbeq, cellsI_len,  List.length_append, List.length_cons, List.length_nil, Int.toNat_natCast, and_true, true_and, Bool.or_eq_true, Bool.not_eq_true', bne_iff_ne, ne_eq]; omega) | rfl | (simp; done) | (simp; omega)))) | (with_reducible refine splitD (fun _ => ?_) (fun _ => ?_) <;> (try (exfalso; omega))) | (with_reducible refine splitE (fun _ => ?_) (fun _ => ?_) <;> (try (exfalso; omega))) | (with_reducible refine splitNE (fun _ => ?_) (fun _ => ?_) <;> (try (exfalso; omega))) | (with_reducible refine splitNot ?_) | (with_reducible refine splitAnd ?_) | (with_reducible refine splitOr ?_)))
     refine ⟨⟨trivial, by trivial⟩, .inr ⟨(l, k + 1, k, m, d.toNat), ⟨rfl, rfl, hx, hbase.symm, g5, Nat.lt_succ_self _, hk, g7.trans s6, g8.trans s7, ?_, ?_, ?_⟩, ?_, ?_⟩⟩
     ·show nackGoM base (d.toNat : Int) _ = true
      rw [Int.toNat_of_nonneg (by omega)]; exact s3
     ·show 16 < d.toNat
      omega
     ·show m < 65536
      omega
     ·show l.length - (k + 1) < l.length - k
      omega
     ·have e1 : (l.take (k + 1)).drop k = [l.getD k 0] := by
       rw [take_snocD l 0 hk, List.drop_append_of_le_length (by rw [List.length_take]; omega), List.drop_of_length_le (by rw [List.length_take]; omega), List.nil_append]
      dsimp only
      rw [e1, show k + 1 - k = 1 by omega]
      simp [cellsI]
   ·have hk : k = l.length := by omega
    subst hk
    rw [List.drop_length] at g7 g8
    simp only [maskM, restM] at g7 g8
    rw [g7, g8, pairsM] at hpc
    (repeat' (first | (with_reducible refine trivial) | ((guard_target = False); omega) | (((with_reducible refine wrapI ?_ ?_ ?_)); (focus (omega)); (focus (omega))) | ((fail_if_success (with_reducible refine wrapI ?_ ?_ ?_)); (with_reducible refine ⟨_, rfl, ?_⟩)) | (((with_reducible refine wrapU8 ?_ ?_ ?_)); (focus (omega)); (focus (omega))) | (((with_reducible refine ckI ?_ ?_)); (focus (first | (simp only [Bool.and_eq_true, Bool.and_true, Bool.true_and, decide_eq_true_eq, blt_iff, Nat.ble_eq, nbeq, cellsI_len, hlp, List.length_append, List.length_cons, List.length_nil, Int.toNat_natCast, and_true, true_and, Bool.or_eq_true, Bool.not_eq_true', bne_iff_ne, ne_eq]; done) | (simp only [Bool.and_eq_true, Bool.and_true, Bool.true_and, decide_eq_true_eq, blt_iff, Nat.ble_eq, nbeq, cellsI_len, hlp, List.length_append, List.length_cons, List.length_nil, Int.toNat_natCast, and_true, true_and, Bool.or_eq_true, Bool.not_eq_true', bne_iff_ne, ne_eq]; omega) | rfl | (simp; done) | (simp; omega)))) | (with_reducible refine splitD (fun _ => ?_) (fun _ => ?_) <;> (try (exfalso; omega))) | (with_reducible refine splitE (fun _ => ?_) (fun _ => ?_) <;> (try (exfalso; omega))) | (with_reducible refine splitNE (fun _ => ?_) (fun _ => ?_) <;> (try (exfalso; omega))) | (with_reducible refine splitNot ?_) | (with_reducible refine splitAnd ?_) | (with_reducible refine splitOr ?_)))
    refine ⟨⟨trivial, by trivial⟩, .inr (.inl ⟨([], done ++ [(base, (m : Int))]), ⟨?_, ?_, ?_, ?_⟩, ?_, ?_⟩)⟩
    ·rw [f1, hpc]; simp [pairsM]
    ·exact ⟨by simp, by simp, rfl⟩
    ·simp
    ·simp only [List.length_append, List.length_cons, List.length_nil]; omega
    ·show ([] : List Int).length < l.length
     exact hl
    ·have e2 : 2 * (done.length + 1) = 2 * done.length + 2 := by omega
     simp [cellsPM, cellsI, e2]
  ·rintro ⟨l2, k, j, m, far⟩ ⟨g1, g2, g3, g4, g5, g6, g7, g8, g9, g10, g11, g12⟩
   dsimp only at *
   obtain rfl := cellsI_injP g1
   (repeat' (first | (with_reducible refine trivial) | ((guard_target = False); omega) | (((with_reducible refine wrapI ?_ ?_ ?_)); (focus (omega)); (focus (omega))) | ((fail_if_success (with_reducible refine wrapI ?_ ?_ ?_)); (with_reducible refine ⟨_, rfl, ?_⟩)) | (((with_reducible refine wrapU8 ?_ ?_ ?_)); (focus (omega)); (focus (omega))) | (((with_reducible refine ckI ?_ ?_)); (focus (first | (simp only [Bool.and_eq_true, Bool.and_true, Bool.true_and, decide_eq_true_eq, blt_iff, Nat.ble_eq, nbeq, cellsI_len,  List.length_append, List.length_cons, List.length_nil, Int.toNat_natCast, and_true, true_and, Bool.or_eq_true, Bool.not_eq_true', bne_iff_ne, ne_eq]; done) | (simp only [Bool.and_eq_true, Bool.and_true, Bool.true_and, decide_eq_true_eq, blt_iff, Nat.ble_eq, nbeq, cellsI_len,  List.length_append, List.length_cons, List.length_nil, Int.toNat_natCast, and_true, true_and, Bool.or_eq_true, Bool.not_eq_true', bne_iff_ne, ne_eq]; omega) | rfl | (simp; done) | (simp; omega)))) | (with_reducible refine splitD (fun _ => ?_) (fun _ => ?_) <;> (try (exfalso; omega))) | (with_reducible refine splitE (fun _ => ?_) (fun _ => ?_) <;> (try (exfalso; omega))) | (with_reducible refine splitNE (fun _ => ?_) (fun _ => ?_) <;> (try (exfalso; omega))) | (with_reducible refine splitNot ?_) | (with_reducible refine splitAnd ?_) | (with_reducible refine splitOr ?_)))
   ·have hk : k < l.length := by omega
    have hn := okL_get hx hk
    obtain ⟨s1, s2⟩ := far21 hk g10
    have hlk : (List.drop j (List.take k l)).length = k - j := by simp; omega
    refine getI (i := k) hk (by omega) (wrapI (by omega) (by omega) (wrapI (by omega) (by omega) ⟨_, rfl, ?_⟩))
    rw [tm16 hn hb]
    generalize hd : (l.getD k 0 - base) % 65536 = d at *
    (repeat' (first | (with_reducible refine trivial) | ((guard_target = False); omega) | (((with_reducible refine wrapI ?_ ?_ ?_)); (focus (omega)); (focus (omega))) | ((fail_if_success (with_reducible refine wrapI ?_ ?_ ?_)); (with_reducible refine ⟨_, rfl, ?_⟩)) | (((with_reducible refine wrapU8 ?_ ?_ ?_)); (focus (omega)); (focus (omega))) | (((with_reducible refine ckI ?_ ?_)); (focus (first | (simp only [Bool.and_eq_true, Bool.and_true, Bool.true_and, decide_eq_true_eq, blt_iff, Nat.ble_eq, nbeq, cellsI_len, hlk, List.length_append, List.length_cons, List.length_nil, Int.toNat_natCast, and_true, true_and, Bool.or_eq_true, Bool.not_eq_true', bne_iff_ne, ne_eq]; done) | (simp only [Bool.and_eq_true, Bool.and_true, Bool.true_and, decide_eq_true_eq, blt_iff, Nat.ble_eq, nbeq, cellsI_len, hlk, List.length_append, List.length_cons, List.length_nil, Int.toNat_natCast, and_true, true_and, Bool.or_eq_true, Bool.not_eq_true', bne_iff_ne, ne_eq]; omega) | rfl | (simp; done) | (simp; omega)))) | (with_reducible refine splitD (fun _ => ?_) (fun _ => ?_) <;> (try (exfalso; omega))) | (with_reducible refine splitE (fun _ => ?_) (fun _ => ?_) <;> (try (exfalso; omega))) | (with_reducible refine splitNE (fun _ => ?_) (fun _ => ?_) <;> (try (exfalso; omega))) | (with_reducible refine splitNot ?_) | (with_reducible refine splitAnd ?_) | (with_reducible refine splitOr ?_)))
    refine getI (i := k) hk (by omega) ?_
    (repeat' (first | (with_reducible refine trivial) | ((guard_target = False); omega) | (((with_reducible refine wrapI ?_ ?_ ?_)); (focus (omega)); (focus (omega))) | ((fail_if_success (with_reducible refine wrapI ?_ ?_ ?_)); (with_reducible refine ⟨_, rfl, ?_⟩)) | (((with_reducible refine wrapU8 ?_ ?_ ?_)); (focus (omega)); (focus (omega))) | (((with_reducible refine ckI ?_ ?_)); (focus (first | (simp only [Bool.and_eq_true, Bool.and_true, Bool.true_and, decide_eq_true_eq, blt_iff, Nat.ble_eq, nbeq, cellsI_len, hlk, List.length_append, List.length_cons, List.length_nil, Int.toNat_natCast, and_true, true_and, Bool.or_eq_true, Bool.not_eq_true', bne_iff_ne, ne_eq]; done) | (simp only [Bool.and_eq_true, Bool.and_true, Bool.true_and, decide_eq_true_eq, blt_iff, Nat.ble_eq, nbeq, cellsI_len, hlk, List.length_append, List.length_cons, List.length_nil, Int.toNat_natCast, and_true, true_and, Bool.or_eq_true, Bool.not_eq_true', bne_iff_ne, ne_eq]; omega) | rfl | (simp; done) | (simp; omega)))) | (with_reducible refine splitD (fun _ => ?_) (fun _ => ?_) <;> (try (exfalso; omega))) | (with_reducible refine splitE (fun _ => ?_) (fun _ => ?_) <;> (try (exfalso; omega))) | (with_reducible refine splitNE (fun _ => ?_) (fun _ => ?_) <;> (try (exfalso; omega))) | (with_reducible refine splitNot ?_) | (with_reducible refine splitAnd ?_) | (with_reducible refine splitOr ?_)))
    refine ⟨⟨trivial, by trivial⟩, .inr ⟨(l, k + 1, j, m, d.toNat), ⟨rfl, rfl, hx, hbase.symm, g5, ?_, hk, g8, g9, ?_, ?_, g12⟩, ?_, ?_⟩⟩
    ·show j < k + 1
     omega
    ·show nackGoM base (d.toNat : Int) _ = true
     rw [Int.toNat_of_nonneg (by omega)]; exact s2
    ·show 16 < d.toNat
     omega
    ·show l.length - (k + 1) < l.length - k
     omega
    ·have e1 : cellsI ((l.take k).drop j) ++ [AV.int .i64 (l.getD k 0)] = cellsI ((l.take (k + 1)).drop j) := by
      rw [take_snocD l 0 hk, List.drop_append_of_le_length (by rw [List.length_take]; omega)]
      simp [cellsI]
     have e2 : k - j + 1 = k + 1 - j := by omega
     dsimp only
     rw [e1]
     simp [e2]
   ·have hk : k = l.length := by omega
    subst hk
    rw [List.take_length]
    rw [g8, g9] at hpc
    have hlk : (List.drop j l).length = l.length - j := by simp
    have hny := noY_cellsI (l.drop j)
    (repeat' (first | (with_reducible refine trivial) | ((guard_target = False); omega) | (((with_reducible refine wrapI ?_ ?_ ?_)); (focus (omega)); (focus (omega))) | ((fail_if_success (with_reducible refine wrapI ?_ ?_ ?_)); (with_reducible refine ⟨_, rfl, ?_⟩)) | (((with_reducible refine wrapU8 ?_ ?_ ?_)); (focus (omega)); (focus (omega))) | (((with_reducible refine ckI ?_ ?_)); (focus (first | (simp only [Bool.and_eq_true, Bool.and_true, Bool.true_and, decide_eq_true_eq, blt_iff, Nat.ble_eq, nbeq, cellsI_len, hlk, hny.1, List.length_append, List.length_cons, List.length_nil, Int.toNat_natCast, and_true, true_and, Bool.or_eq_true, Bool.not_eq_true', bne_iff_ne, ne_eq]; done) | (simp only [Bool.and_eq_true, Bool.and_true, Bool.true_and, decide_eq_true_eq, blt_iff, Nat.ble_eq, nbeq, cellsI_len, hlk, hny.1, List.length_append, List.length_cons, List.length_nil, Int.toNat_natCast, and_true, true_and, Bool.or_eq_true, Bool.not_eq_true', bne_iff_ne, ne_eq]; omega) | rfl | (simp; done) | (simp; omega)))) | (with_reducible refine splitD (fun _ => ?_) (fun _ => ?_) <;> (try (exfalso; omega))) | (with_reducible refine splitE (fun _ => ?_) (fun _ => ?_) <;> (try (exfalso; omega))) | (with_reducible refine splitNE (fun _ => ?_) (fun _ => ?_) <;> (try (exfalso; omega))) | (with_reducible refine splitNot ?_) | (with_reducible refine splitAnd ?_) | (with_reducible refine splitOr ?_)))
    refine ⟨⟨trivial, by trivial⟩, .inr (.inl ⟨(l.drop j, done ++ [(base, (m : Int))]), ⟨?_, okL_drop j hx, ?_, ?_⟩, ?_, ?_⟩)⟩
    ·rw [f1, hpc]; simp
    ·simp
    ·simp only [List.length_append, List.length_cons, List.length_nil, List.length_drop]; omega
    ·simp only [List.length_drop]; omega
    ·have e3 : (l.length - j) * 1 = (cellsI (l.drop j)).length := by rw [cellsI_len]; omega
     have e2 : 2 * (done.length + 1) = 2 * done.length + 2 := by omega
     rw [e3, List.drop_zero, List.take_length]
     simp [cellsPM, List.length_drop, e2]
 ·rintro a ⟨g1, g2⟩
  subst g1
  exact ⟨_, rfl, hq [⟨.grow, true, cellsPM (pairsM xs)⟩] 0 rfl⟩

theorem okL_of {xs : List Int} (h : nacksM xs = true) : okPL xs := by
 obtain ⟨h1, h2, h3, h4⟩ := nacks_parts h
 refine ⟨fun x hx => ?_, h2.2, ?_⟩
 ·obtain ⟨i, hi, rfl⟩ := List.mem_iff_getElem.1 hx
  exact bad16 h1 hi
 ·cases xs with
  | nil => rfl
  | cons x l =>
   simp only [List.getD_cons_zero, List.drop_one, List.tail_cons] at h4 ⊢
   rw [nackGoM] at h4
   split at h4
   ·cases h4
   ·have e : (x - x) % 65536 = 0 := by omega
    rw [e] at h4
    exact h4
theorem ref21_raw : ValidF Tryd.prog glC 21 cPairs := by
 refine valid_frz (enters_of (by kernel_rfl)) glC_noY 9 (nlR [2]) (wk_nlR _) fun args H Q hc => ?_
 unfold cPairs at hc
 split at hc
 ·rename_i t l n
  obtain ⟨xs, ⟨rfl, rfl, hn⟩, hq⟩ := hc
  obtain ⟨h1, h2, h3, h4⟩ := nacks_parts hn
  have hlen := cellsPM_len (pairsM xs)
  obtain ⟨hv, hb', h⟩ := ref21_run t xs (fun o H' _ => ∃ v, o = .ret v ∧ Q (.ret (nlR [2] (frzV 0 H' 9 v))) H) (okL_of hn) h2.1 (fun H' id e => by
   refine ⟨_, rfl, ?_⟩
   have hle : (cellsPM (pairsM xs)).length ≤ (pairsM xs).length * 2 := by omega
   rw [frz_sl (cs := cellsPM (pairsM xs)) e hlen (by omega) (by simp) (by rw [List.drop_zero]; exact List.take_of_length_le hle) (plain_cellsPM _)]
   exact hq)
  exact ⟨rfl, rfl, _, 1000, ⟨mixed24, names24, tabA_ok, sm0_ok⟩, rfl, h⟩
 ·exact hc.elim
theorem ref21_ok : ValidF Tryd.prog glC 21 cPairsV := valid_view ref21_raw glC_noY [1] cPairs_view
end Go.Proofs.YtafchcmemeinlaaDoor

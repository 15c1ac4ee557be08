/-
  Chapter 18: the reference's words: residuals.
-/
import Derived.Test.YtifjpcdpmimccaaGreatDoorB18A
import Derived.Test.YtifjpcdpmimccaaGreatDoorB18F
set_option linter.unusedSimpArgs false
set_option linter.unusedVariables false
set_option linter.unusedSectionVars false
namespace Go.Proofs.YtifjpcdpmimccaaGreatDoor
open Go.RowKit
set_option maxRecDepth 1000000

def wrdM (g : Nat → Bool) : List AV := (List.range 32).map fun j => AV.bool (g j)
def bitsM (x : Nat) : List AV := wrdM fun j => x.testBit (31 - j)
def partM (g : Nat → Bool) (i : Nat) : List AV := wrdM fun j => decide (j < i) && g j
def trnM (x k i : Nat) : List AV := wrdM fun j => decide ((j + 32 - k) % 32 < i) && x.testBit (31 - (j + 32 - k) % 32)
def movM (x k i : Nat) : List AV := wrdM fun j => decide (k ≤ j ∧ j - k < i) && x.testBit (31 - (j - k))
def wdM (x c : Nat) : List AV := wrdM fun j => decide (31 < j + c) && x.testBit (31 - j)
def xorG (x y j : Nat) : Bool := x.testBit (31 - j) != y.testBit (31 - j)
def andG (x y j : Nat) : Bool := x.testBit (31 - j) && y.testBit (31 - j)
def notG (x j : Nat) : Bool := !x.testBit (31 - j)

abbrev zL32 : List AV := List.replicate 32 (AV.bool false)
def inv_135 (x : Nat) (s : S) : List (List LInv) := match s.hp with
  | [b0, ⟨k, f, _⟩] => [[{ α := Nat × List AV, pre := fun c => Lf (c.1 ≤ 32 ∧ c.2 = wdM x c.1), st := fun c => ⟨mkT [(0, .int .i64 (x / 2 ^ c.1 : Nat)), (2, s.tm.get 2), (3, s.tm.get 3), (4, .int .i64 (31 - (c.1 : Nat) : Int))], [b0, ⟨k, f, c.2⟩]⟩, mu := fun c => 32 - c.1 }]]
  | _ => []
noncomputable def env_135 (hv : Nat → Option Pa) (hb : Nat → Option Bool) (x : Nat) : Env := e18 sm0 (fun i => bif Nat.beq i 135000 then some (inv_135 x) else none) hv hb
noncomputable def goal_135 (hv : Nat → Option Pa) (hb : Nat → Option Bool) (x : Nat) (Q : Out → List Blk → Gh → Prop) : Prop :=
  callx (env_135 hv hb x) (wpx (env_135 hv hb x) 1000) 135 [.int .i64 (x : Nat)] [] {} Q
theorem vc_135 (x : Nat) (Q : Out → List Blk → Gh → Prop) : goal_135 (lookV [(552965, .int .i64), (552969, .int .i64), (552970, .int .i64), (552971, .int .i64), (552974, .int .i64), (552975, .int .i64), (552967, .int .i64), (552968, .int
 .i64)]) (lookB [(557054, true)]) x Q = ((∃ x_0 : Nat × List AV, Lf (x_0.1 ≤ 32 ∧ x_0.2 = wdM x x_0.1) ∧ zL32 = zL32 ∧ zL32 = x_0.2 ∧ AV.int .i64 (x : Int) = AV.int .i64 ((x / (2 : Nat) ^ x_0.1 : Nat) : Int) ∧ eqqQ (AV.ptr 1 32 0) ∧ eqqQ
 (AV.ptr 0 32 0) ∧ AV.int .i64 31 = AV.int .i64 (31 - (x_0.1 : Int)) ∧ True) ∧ ∀ x_0 : Nat × List AV, Lf (x_0.1 ≤ 32 ∧ x_0.2 = wdM x x_0.1) → exI .i64 (31 - (x_0.1 : Int)) fun n_1 => bif decide (n_1 ≥ 0) then exI .i64 (31 - (x_0.1 : Int))
 fun n_2 => exI .i64 ((x / (2 : Nat) ^ x_0.1 : Nat) : Int) fun n_3 => exI .i64 (n_3.tmod 2) fun n_4 => bif n_4 == 1 then ckQ (decide (0 ≤ n_2) && Nat.blt n_2.toNat 32 && Nat.beq x_0.2.length 32) (ckQ (Nat.beq x_0.2.length 32 && Nat.ble (0 +
 n_2.toNat * 1 + 1) 32 && true && true && true) (exI .i64 ((x / (2 : Nat) ^ x_0.1 : Nat) : Int) fun n_5 => exW .i64 (n_5.tdiv 2) fun n_6 => exI .i64 (31 - (x_0.1 : Int)) fun n_7 => exW .i64 (n_7 - 1) fun n_8 => (True ∧ (0 : Nat) = (0 :
 Nat)) ∧ ∃ y_9 : Nat × List AV, Lf (y_9.1 ≤ 32 ∧ y_9.2 = wdM x y_9.1) ∧ 32 - y_9.1 < 32 - x_0.1 ∧ zL32 = zL32 ∧ setRange x_0.2 (0 + n_2.toNat * 1) [.bool true] = y_9.2 ∧ AV.int .i64 n_6 = AV.int .i64 ((x / (2 : Nat) ^ y_9.1 : Nat) : Int) ∧
 eqqQ (AV.ptr 1 32 0) ∧ eqqQ (AV.ptr 0 32 0) ∧ AV.int .i64 n_8 = AV.int .i64 (31 - (y_9.1 : Int)) ∧ True)) else ckQ (decide (0 ≤ n_2) && Nat.blt n_2.toNat 32 && Nat.beq x_0.2.length 32) (ckQ (Nat.beq x_0.2.length 32 && Nat.ble (0 +
 n_2.toNat * 1 + 1) 32 && true && true && true) (exI .i64 ((x / (2 : Nat) ^ x_0.1 : Nat) : Int) fun n_5 => exW .i64 (n_5.tdiv 2) fun n_6 => exI .i64 (31 - (x_0.1 : Int)) fun n_7 => exW .i64 (n_7 - 1) fun n_8 => (True ∧ (0 : Nat) = (0 :
 Nat)) ∧ ∃ y_9 : Nat × List AV, Lf (y_9.1 ≤ 32 ∧ y_9.2 = wdM x y_9.1) ∧ 32 - y_9.1 < 32 - x_0.1 ∧ zL32 = zL32 ∧ setRange x_0.2 (0 + n_2.toNat * 1) [.bool false] = y_9.2 ∧ AV.int .i64 n_6 = AV.int .i64 ((x / (2 : Nat) ^ y_9.1 : Nat) : Int) ∧
 eqqQ (AV.ptr 1 32 0) ∧ eqqQ (AV.ptr 0 32 0) ∧ AV.int .i64 n_8 = AV.int .i64 (31 - (y_9.1 : Int)) ∧ True)) else ckQ (Nat.beq x_0.2.length 32 && true) (ckQ (Nat.beq ((x_0.2.drop 0).take 32).length 32 && oneL ((x_0.2.drop 0).take 32) && true)
 (ckQ (Nat.beq (setRange zL32 0 ((x_0.2.drop 0).take 32)).length 32 && true) ((old 0 (.agg (((setRange zL32 0 ((x_0.2.drop 0).take 32)).drop 0).take 32)) && true) = true ∧ Q (.ret (.agg (((setRange zL32 0 ((x_0.2.drop 0).take 32)).drop
 0).take 32))) [] {})))) := by kernel_rfl

def inv_137 (x : Nat) (s : S) : List (List LInv) := [[{ α := Nat, pre := fun i => Lf (i ≤ 32), st := fun i => ⟨mkT [(1, s.tm.get 1), (3, .int .i64 (x / 2 ^ (32 - i) : Nat)), (4, .int .i64 (i : Nat))], s.hp⟩, mu := fun i => 32 - i }]]
noncomputable def env_137 (hv : Nat → Option Pa) (hb : Nat → Option Bool) (x : Nat) : Env := e18 sm0 (fun i => bif Nat.beq i 137000 then some (inv_137 x) else none) hv hb
noncomputable def goal_137 (hv : Nat → Option Pa) (hb : Nat → Option Bool) (la : List AV) (x : Nat) (Q : Out → List Blk → Gh → Prop) : Prop :=
  callx (env_137 hv hb x) (wpx (env_137 hv hb x) 1000) 137 [.agg la] [] {} Q
theorem vc_137 (la : List AV) (x : Nat) (Q : Out → List Blk → Gh → Prop) : goal_137 (lookV [(561157, .int .i64), (561161, .int .i64), (561162, .int .i64), (561163, .int .i64), (561165, .bool), (561167, .int .i64), (561159, .int .i64),
 (561160, .int .i64), (561168, .int .i64)]) (lookB [(1561152000, true)]) la x Q = ((∃ x_0 : Nat, Lf (x_0 ≤ 32) ∧ ckQ (oldL 0 la == oldL 0 la) (la = la ∧ eqqQ (AV.ptr 0 la.length 0) ∧ AV.int .i64 0 = AV.int .i64 ((x / (2 : Nat) ^ (32 - x_0)
 : Nat) : Int) ∧ AV.int .i64 0 = AV.int .i64 (x_0 : Int) ∧ True)) ∧ ∀ x_0 : Nat, Lf (x_0 ≤ 32) → exI .i64 (x_0 : Int) fun n_1 => bif decide (n_1 < 32) then exI .i64 ((x / (2 : Nat) ^ (32 - x_0) : Nat) : Int) fun n_2 => exW .i64 (2 * n_2)
 fun n_3 => exI .i64 (x_0 : Int) fun n_4 => ckQ (decide (0 ≤ n_4) && Nat.blt n_4.toNat 32 && Nat.beq la.length la.length) (ckQ (Nat.beq la.length la.length && Nat.blt (0 + n_4.toNat * 1) la.length) (exB (((la.drop (0 + n_4.toNat * 1)).take
 1).getD 0 AV.undef) fun b_5 => bif b_5 then exW .i64 (n_3 + 1) fun n_6 => exI .i64 (x_0 : Int) fun n_7 => exW .i64 (n_7 + 1) fun n_8 => ((oldL 0 la || oldL 1 la) && true) = true ∧ (True ∧ (0 : Nat) = (0 : Nat)) ∧ ∃ y_9 : Nat, Lf (y_9 ≤ 32)
 ∧ 32 - y_9 < 32 - x_0 ∧ ckQ (oldL 0 la == oldL 0 la) (la = la ∧ eqqQ (AV.ptr 0 la.length 0) ∧ AV.int .i64 n_6 = AV.int .i64 ((x / (2 : Nat) ^ (32 - y_9) : Nat) : Int) ∧ AV.int .i64 n_8 = AV.int .i64 (y_9 : Int) ∧ True) else exI .i64 (x_0 :
 Int) fun n_6 => exW .i64 (n_6 + 1) fun n_7 => ((oldL 0 la || oldL 1 la) && true) = true ∧ (True ∧ (0 : Nat) = (0 : Nat)) ∧ ∃ y_8 : Nat, Lf (y_8 ≤ 32) ∧ 32 - y_8 < 32 - x_0 ∧ ckQ (oldL 0 la == oldL 0 la) (la = la ∧ eqqQ (AV.ptr 0 la.length
 0) ∧ AV.int .i64 n_3 = AV.int .i64 ((x / (2 : Nat) ^ (32 - y_8) : Nat) : Int) ∧ AV.int .i64 n_7 = AV.int .i64 (y_8 : Int) ∧ True))) else exI .i64 ((x / (2 : Nat) ^ (32 - x_0) : Nat) : Int) fun n_2 => Q (.ret (.int .i64 n_2)) [] {}) := by
 kernel_rfl

def inv_139 (x k : Nat) (s : S) : List (List LInv) := match s.hp with
  | [b0, b1, ⟨kk, f, _⟩] => [[{ α := Nat × List AV, pre := fun c => Lf (c.1 ≤ 32 ∧ c.2 = trnM x k c.1), st := fun c => ⟨mkT [(1, s.tm.get 1), (2, s.tm.get 2), (4, s.tm.get 4), (5, s.tm.get 5), (6, .int .i64 (c.1 : Nat))], [b0, b1, ⟨kk, f, c.2⟩]⟩, mu := fun c => 32 - c.1 }]]
  | _ => []
noncomputable def env_139 (hv : Nat → Option Pa) (hb : Nat → Option Bool) (x k : Nat) : Env := e18 sm0 (fun i => bif Nat.beq i 139000 then some (inv_139 x k) else none) hv hb
noncomputable def goal_139 (hv : Nat → Option Pa) (hb : Nat → Option Bool) (la : List AV) (x k : Nat) (Q : Out → List Blk → Gh → Prop) : Prop :=
  callx (env_139 hv hb x k) (wpx (env_139 hv hb x k) 1000) 139 [.agg la, .int .i64 (k : Nat)] [] {} Q
theorem vc_139 (la : List AV) (x : Nat) (k : Nat) (Q : Out → List Blk → Gh → Prop) : goal_139 (lookV [(569351, .int .i64), (569355, .int .i64), (569356, .int .i64), (569357, .int .i64), (569358, .int .i64), (569359, .int .i64), (569361,
 .bool), (569353, .int .i64), (569354, .int .i64)]) (lookB [(1569344000, true), (573438, true)]) la x k Q = ((∃ x_0 : Nat × List AV, Lf (x_0.1 ≤ 32 ∧ x_0.2 = trnM x k x_0.1) ∧ ckQ (oldL 0 la == oldL 0 la) (la = la ∧ zL32 = zL32 ∧ zL32 =
 x_0.2 ∧ eqqQ (AV.int .i64 (k : Int)) ∧ eqqQ (AV.ptr 2 32 0) ∧ eqqQ (AV.ptr 0 la.length 0) ∧ eqqQ (AV.ptr 1 32 0) ∧ AV.int .i64 0 = AV.int .i64 (x_0.1 : Int) ∧ True)) ∧ ∀ x_0 : Nat × List AV, Lf (x_0.1 ≤ 32 ∧ x_0.2 = trnM x k x_0.1) → exI
 .i64 (x_0.1 : Int) fun n_1 => bif decide (n_1 < 32) then exI .i64 (x_0.1 : Int) fun n_2 => exI .i64 (k : Int) fun n_3 => exW .i64 (n_2 + n_3) fun n_4 => exI .i64 (n_4.tmod 32) fun n_5 => exI .i64 (x_0.1 : Int) fun n_6 => ckQ (decide (0 ≤
 n_6) && Nat.blt n_6.toNat 32 && Nat.beq la.length la.length) (ckQ (Nat.beq la.length la.length && Nat.blt (0 + n_6.toNat * 1) la.length) (exB (((la.drop (0 + n_6.toNat * 1)).take 1).getD 0 AV.undef) fun b_7 => ckQ (decide (0 ≤ n_5) &&
 Nat.blt n_5.toNat 32 && Nat.beq x_0.2.length 32) (ckQ (Nat.beq x_0.2.length 32 && Nat.ble (0 + n_5.toNat * 1 + 1) 32 && true && true && true) (exI .i64 (x_0.1 : Int) fun n_8 => exW .i64 (n_8 + 1) fun n_9 => ((oldL 0 la || oldL 3 la) &&
 true) = true ∧ (True ∧ (0 : Nat) = (0 : Nat)) ∧ ∃ y_10 : Nat × List AV, Lf (y_10.1 ≤ 32 ∧ y_10.2 = trnM x k y_10.1) ∧ 32 - y_10.1 < 32 - x_0.1 ∧ ckQ (oldL 0 la == oldL 0 la) (la = la ∧ zL32 = zL32 ∧ setRange x_0.2 (0 + n_5.toNat * 1)
 [.bool b_7] = y_10.2 ∧ eqqQ (AV.int .i64 (k : Int)) ∧ eqqQ (AV.ptr 2 32 0) ∧ eqqQ (AV.ptr 0 la.length 0) ∧ eqqQ (AV.ptr 1 32 0) ∧ AV.int .i64 n_9 = AV.int .i64 (y_10.1 : Int) ∧ True))))) else ckQ (Nat.beq x_0.2.length 32 && true) (ckQ
 (Nat.beq ((x_0.2.drop 0).take 32).length 32 && oneL ((x_0.2.drop 0).take 32) && true) (ckQ (Nat.beq (setRange zL32 0 ((x_0.2.drop 0).take 32)).length 32 && true) ((old 0 (.agg (((setRange zL32 0 ((x_0.2.drop 0).take 32)).drop 0).take 32))
 && true) = true ∧ Q (.ret (.agg (((setRange zL32 0 ((x_0.2.drop 0).take 32)).drop 0).take 32))) [] {})))) := by kernel_rfl

def inv_140 (x k : Nat) (s : S) : List (List LInv) := match s.hp with
  | [b0, b1, ⟨kk, f, _⟩] => [[{ α := Nat × List AV, pre := fun c => Lf (c.1 + k ≤ 32 ∧ c.2 = movM x k c.1), st := fun c => ⟨mkT [(1, s.tm.get 1), (2, s.tm.get 2), (4, s.tm.get 4), (5, s.tm.get 5), (6, .int .i64 (c.1 : Nat))], [b0, b1, ⟨kk, f, c.2⟩]⟩, mu := fun c => 32 - c.1 }]]
  | _ => []
noncomputable def env_140 (hv : Nat → Option Pa) (hb : Nat → Option Bool) (x k : Nat) : Env := e18 sm0 (fun i => bif Nat.beq i 140000 then some (inv_140 x k) else none) hv hb
noncomputable def goal_140 (hv : Nat → Option Pa) (hb : Nat → Option Bool) (la : List AV) (x k : Nat) (Q : Out → List Blk → Gh → Prop) : Prop :=
  callx (env_140 hv hb x k) (wpx (env_140 hv hb x k) 1000) 140 [.agg la, .int .i64 (k : Nat)] [] {} Q
theorem vc_140 (la : List AV) (x : Nat) (k : Nat) (Q : Out → List Blk → Gh → Prop) : goal_140 (lookV [(573447, .int .i64), (573448, .int .i64), (573449, .int .i64), (573453, .int .i64), (573454, .int .i64), (573455, .int .i64), (573456,
 .int .i64), (573458, .bool), (573451, .int .i64), (573452, .int .i64)]) (lookB [(1573440000, true), (577534, true)]) la x k Q = ((∃ x_0 : Nat × List AV, Lf (x_0.1 + k ≤ 32 ∧ x_0.2 = movM x k x_0.1) ∧ ckQ (oldL 0 la == oldL 0 la) (la = la ∧
 zL32 = zL32 ∧ zL32 = x_0.2 ∧ eqqQ (AV.int .i64 (k : Int)) ∧ eqqQ (AV.ptr 2 32 0) ∧ eqqQ (AV.ptr 0 la.length 0) ∧ eqqQ (AV.ptr 1 32 0) ∧ AV.int .i64 0 = AV.int .i64 (x_0.1 : Int) ∧ True)) ∧ ∀ x_0 : Nat × List AV, Lf (x_0.1 + k ≤ 32 ∧ x_0.2
 = movM x k x_0.1) → exI .i64 (x_0.1 : Int) fun n_1 => exI .i64 (k : Int) fun n_2 => exW .i64 (n_1 + n_2) fun n_3 => bif decide (n_3 < 32) then exI .i64 (x_0.1 : Int) fun n_4 => exI .i64 (k : Int) fun n_5 => exW .i64 (n_4 + n_5) fun n_6 =>
 exI .i64 (x_0.1 : Int) fun n_7 => ckQ (decide (0 ≤ n_7) && Nat.blt n_7.toNat 32 && Nat.beq la.length la.length) (ckQ (Nat.beq la.length la.length && Nat.blt (0 + n_7.toNat * 1) la.length) (exB (((la.drop (0 + n_7.toNat * 1)).take 1).getD 0
 AV.undef) fun b_8 => ckQ (decide (0 ≤ n_6) && Nat.blt n_6.toNat 32 && Nat.beq x_0.2.length 32) (ckQ (Nat.beq x_0.2.length 32 && Nat.ble (0 + n_6.toNat * 1 + 1) 32 && true && true && true) (exI .i64 (x_0.1 : Int) fun n_9 => exW .i64 (n_9 +
 1) fun n_10 => ((oldL 0 la || oldL 3 la) && true) = true ∧ (True ∧ (0 : Nat) = (0 : Nat)) ∧ ∃ y_11 : Nat × List AV, Lf (y_11.1 + k ≤ 32 ∧ y_11.2 = movM x k y_11.1) ∧ 32 - y_11.1 < 32 - x_0.1 ∧ ckQ (oldL 0 la == oldL 0 la) (la = la ∧ zL32 =
 zL32 ∧ setRange x_0.2 (0 + n_6.toNat * 1) [.bool b_8] = y_11.2 ∧ eqqQ (AV.int .i64 (k : Int)) ∧ eqqQ (AV.ptr 2 32 0) ∧ eqqQ (AV.ptr 0 la.length 0) ∧ eqqQ (AV.ptr 1 32 0) ∧ AV.int .i64 n_10 = AV.int .i64 (y_11.1 : Int) ∧ True))))) else ckQ
 (Nat.beq x_0.2.length 32 && true) (ckQ (Nat.beq ((x_0.2.drop 0).take 32).length 32 && oneL ((x_0.2.drop 0).take 32) && true) (ckQ (Nat.beq (setRange zL32 0 ((x_0.2.drop 0).take 32)).length 32 && true) ((old 0 (.agg (((setRange zL32 0
 ((x_0.2.drop 0).take 32)).drop 0).take 32)) && true) = true ∧ Q (.ret (.agg (((setRange zL32 0 ((x_0.2.drop 0).take 32)).drop 0).take 32))) [] {})))) := by kernel_rfl

def inv_two (g : Nat → Bool) (s : S) : List (List LInv) := match s.hp with
  | [b0, b1, b2, ⟨kk, f, _⟩] => [[{ α := Nat × List AV, pre := fun c => Lf (c.1 ≤ 32 ∧ c.2 = partM g c.1), st := fun c => ⟨mkT [(2, s.tm.get 2), (3, s.tm.get 3), (4, s.tm.get 4), (5, s.tm.get 5), (6, .int .i64 (c.1 : Nat))], [b0, b1, b2, ⟨kk, f, c.2⟩]⟩, mu := fun c => 32 - c.1 }]]
  | _ => []
noncomputable def env_141 (hv : Nat → Option Pa) (hb : Nat → Option Bool) (g : Nat → Bool) : Env := e18 sm0 (fun i => bif Nat.beq i 141000 then some (inv_two g) else bif Nat.beq i 142000 then some (inv_two g) else none) hv hb
noncomputable def goal_141 (hv : Nat → Option Pa) (hb : Nat → Option Bool) (la lb : List AV) (g : Nat → Bool) (Q : Out → List Blk → Gh → Prop) : Prop :=
  callx (env_141 hv hb g) (wpx (env_141 hv hb g) 1000) 141 [.agg la, .agg lb] [] {} Q
abbrev q8DC_141_0 (lb : List AV) (la : List AV) (n_8 : Int) (y_9 : Nat × List AV) : Prop :=
eqqQ (AV.ptr 1 lb.length 0) ∧ eqqQ (AV.ptr 3 32 0) ∧ eqqQ (AV.ptr 0 la.length 0) ∧ eqqQ (AV.ptr 2 32 0) ∧ AV.int .i64 n_8 = AV.int .i64 (y_9.1 : Int) ∧ True
theorem vc_141 (la : List AV) (lb : List AV) (g : Nat → Bool) (Q : Out → List Blk → Gh → Prop) : goal_141 (lookV [(577543, .int .i64), (577547, .int .i64), (577548, .int .i64), (577550, .bool), (577551, .int .i64), (577553, .bool), (577545,
 .int .i64), (577546, .int .i64)]) (lookB [(1577536000, true), (581630, true)]) la lb g Q = ((∃ x_0 : Nat × List AV, Lf (x_0.1 ≤ 32 ∧ x_0.2 = partM g x_0.1) ∧ ckQ (oldL 0 la == oldL 0 la) (la = la ∧ ckQ (oldL 0 lb == oldL 0 lb) (lb = lb ∧
 zL32 = zL32 ∧ zL32 = x_0.2 ∧ eqqQ (AV.ptr 1 lb.length 0) ∧ eqqQ (AV.ptr 3 32 0) ∧ eqqQ (AV.ptr 0 la.length 0) ∧ eqqQ (AV.ptr 2 32 0) ∧ AV.int .i64 0 = AV.int .i64 (x_0.1 : Int) ∧ True))) ∧ ∀ x_0 : Nat × List AV, Lf (x_0.1 ≤ 32 ∧ x_0.2 =
 partM g x_0.1) → exI .i64 (x_0.1 : Int) (fun n_1 => bif decide (n_1 < 32) then exI .i64 (x_0.1 : Int) (fun n_2 => exI .i64 (x_0.1 : Int) (fun n_3 => ckQ (decide (0 ≤ n_3) && Nat.blt n_3.toNat 32 && Nat.beq la.length la.length) (ckQ
 (Nat.beq la.length la.length && Nat.blt (0 + n_3.toNat * 1) la.length) (exB (((la.drop (0 + n_3.toNat * 1)).take 1).getD 0 AV.undef) (fun b_4 => exI .i64 (x_0.1 : Int) (fun n_5 => ckQ (decide (0 ≤ n_5) && Nat.blt n_5.toNat 32 && Nat.beq
 lb.length lb.length) (ckQ (Nat.beq lb.length lb.length && Nat.blt (0 + n_5.toNat * 1) lb.length) (exB (((lb.drop (0 + n_5.toNat * 1)).take 1).getD 0 AV.undef) (fun b_6 => bif !b_4 == b_6 then ckQ (decide (0 ≤ n_2) && Nat.blt n_2.toNat 32
 && Nat.beq x_0.2.length 32) (ckQ (Nat.beq x_0.2.length 32 && Nat.ble (0 + n_2.toNat * 1 + 1) 32 && true && true && true) (exI .i64 (x_0.1 : Int) (fun n_7 => exW .i64 (n_7 + 1) (fun n_8 => ((oldL 0 la || oldL 4 la) && ((oldL 0 lb || oldL 4
 lb) && true)) = true ∧ (True ∧ (0 : Nat) = (0 : Nat)) ∧ ∃ y_9 : Nat × List AV, Lf (y_9.1 ≤ 32 ∧ y_9.2 = partM g y_9.1) ∧ 32 - y_9.1 < 32 - x_0.1 ∧ ckQ (oldL 0 la == oldL 0 la) (la = la ∧ ckQ (oldL 0 lb == oldL 0 lb) (lb = lb ∧ zL32 = zL32
 ∧ setRange x_0.2 (0 + n_2.toNat * 1) [.bool true] = y_9.2 ∧ q8DC_141_0 lb la n_8 y_9)))))) else ckQ (decide (0 ≤ n_2) && Nat.blt n_2.toNat 32 && Nat.beq x_0.2.length 32) (ckQ (Nat.beq x_0.2.length 32 && Nat.ble (0 + n_2.toNat * 1 + 1) 32
 && true && true && true) (exI .i64 (x_0.1 : Int) (fun n_7 => exW .i64 (n_7 + 1) (fun n_8 => ((oldL 0 la || oldL 4 la) && ((oldL 0 lb || oldL 4 lb) && true)) = true ∧ (True ∧ (0 : Nat) = (0 : Nat)) ∧ ∃ y_9 : Nat × List AV, Lf (y_9.1 ≤ 32 ∧
 y_9.2 = partM g y_9.1) ∧ 32 - y_9.1 < 32 - x_0.1 ∧ ckQ (oldL 0 la == oldL 0 la) (la = la ∧ ckQ (oldL 0 lb == oldL 0 lb) (lb = lb ∧ zL32 = zL32 ∧ setRange x_0.2 (0 + n_2.toNat * 1) [.bool false] = y_9.2 ∧ q8DC_141_0 lb la n_8
 y_9))))))))))))))) else ckQ (Nat.beq x_0.2.length 32 && true) (ckQ (Nat.beq ((x_0.2.drop 0).take 32).length 32 && oneL ((x_0.2.drop 0).take 32) && true) (ckQ (Nat.beq (setRange zL32 0 ((x_0.2.drop 0).take 32)).length 32 && true) ((old 0
 (.agg (((setRange zL32 0 ((x_0.2.drop 0).take 32)).drop 0).take 32)) && true) = true ∧ Q (.ret (.agg (((setRange zL32 0 ((x_0.2.drop 0).take 32)).drop 0).take 32))) [] {}))))) := by kernel_rfl

noncomputable def goal_142 (hv : Nat → Option Pa) (hb : Nat → Option Bool) (la lb : List AV) (g : Nat → Bool) (Q : Out → List Blk → Gh → Prop) : Prop :=
  callx (env_141 hv hb g) (wpx (env_141 hv hb g) 1000) 142 [.agg la, .agg lb] [] {} Q
abbrev q8DC_142_0 (n_2 : Int) (x_0 : Nat × List AV) (la : List AV) (lb : List AV) (g : Nat → Bool) : Prop :=
ckQ (decide (0 ≤ n_2) && Nat.blt n_2.toNat 32 && Nat.beq x_0.2.length 32) (ckQ (Nat.beq x_0.2.length 32 && Nat.ble (0 + n_2.toNat * 1 + 1) 32 && true && true && true) (exI .i64 (x_0.1 : Int) fun n_7 => exW .i64 (n_7 + 1) fun n_8 => ((oldL 0
 la || oldL 4 la) && ((oldL 0 lb || oldL 4 lb) && true)) = true ∧ (True ∧ (0 : Nat) = (0 : Nat)) ∧ ∃ y_9 : Nat × List AV, Lf (y_9.1 ≤ 32 ∧ y_9.2 = partM g y_9.1) ∧ 32 - y_9.1 < 32 - x_0.1 ∧ ckQ (oldL 0 la == oldL 0 la) (la = la ∧ ckQ (oldL
 0 lb == oldL 0 lb) (lb = lb ∧ zL32 = zL32 ∧ setRange x_0.2 (0 + n_2.toNat * 1) [.bool false] = y_9.2 ∧ eqqQ (AV.ptr 1 lb.length 0) ∧ eqqQ (AV.ptr 3 32 0) ∧ eqqQ (AV.ptr 0 la.length 0) ∧ eqqQ (AV.ptr 2 32 0) ∧ AV.int .i64 n_8 = AV.int .i64
 (y_9.1 : Int) ∧ True))))
theorem vc_142 (la : List AV) (lb : List AV) (g : Nat → Bool) (Q : Out → List Blk → Gh → Prop) : goal_142 (lookV [(581639, .int .i64), (581643, .int .i64), (581644, .int .i64), (581646, .bool), (581648, .int .i64), (581650, .bool), (581641,
 .int .i64), (581642, .int .i64)]) (lookB [(1581632000, true), (585726, true)]) la lb g Q = ((∃ x_0 : Nat × List AV, Lf (x_0.1 ≤ 32 ∧ x_0.2 = partM g x_0.1) ∧ ckQ (oldL 0 la == oldL 0 la) (la = la ∧ ckQ (oldL 0 lb == oldL 0 lb) (lb = lb ∧
 zL32 = zL32 ∧ zL32 = x_0.2 ∧ eqqQ (AV.ptr 1 lb.length 0) ∧ eqqQ (AV.ptr 3 32 0) ∧ eqqQ (AV.ptr 0 la.length 0) ∧ eqqQ (AV.ptr 2 32 0) ∧ AV.int .i64 0 = AV.int .i64 (x_0.1 : Int) ∧ True))) ∧ ∀ x_0 : Nat × List AV, Lf (x_0.1 ≤ 32 ∧ x_0.2 =
 partM g x_0.1) → exI .i64 (x_0.1 : Int) (fun n_1 => bif decide (n_1 < 32) then exI .i64 (x_0.1 : Int) (fun n_2 => exI .i64 (x_0.1 : Int) (fun n_3 => ckQ (decide (0 ≤ n_3) && Nat.blt n_3.toNat 32 && Nat.beq la.length la.length) (ckQ
 (Nat.beq la.length la.length && Nat.blt (0 + n_3.toNat * 1) la.length) (exB (((la.drop (0 + n_3.toNat * 1)).take 1).getD 0 AV.undef) (fun b_4 => bif b_4 then exI .i64 (x_0.1 : Int) (fun n_5 => ckQ (decide (0 ≤ n_5) && Nat.blt n_5.toNat 32
 && Nat.beq lb.length lb.length) (ckQ (Nat.beq lb.length lb.length && Nat.blt (0 + n_5.toNat * 1) lb.length) (exB (((lb.drop (0 + n_5.toNat * 1)).take 1).getD 0 AV.undef) (fun b_6 => bif b_6 then ckQ (decide (0 ≤ n_2) && Nat.blt n_2.toNat
 32 && Nat.beq x_0.2.length 32) (ckQ (Nat.beq x_0.2.length 32 && Nat.ble (0 + n_2.toNat * 1 + 1) 32 && true && true && true) (exI .i64 (x_0.1 : Int) (fun n_7 => exW .i64 (n_7 + 1) (fun n_8 => ((oldL 0 la || oldL 4 la) && ((oldL 0 lb || oldL
 4 lb) && true)) = true ∧ (True ∧ (0 : Nat) = (0 : Nat)) ∧ ∃ y_9 : Nat × List AV, Lf (y_9.1 ≤ 32 ∧ y_9.2 = partM g y_9.1) ∧ 32 - y_9.1 < 32 - x_0.1 ∧ ckQ (oldL 0 la == oldL 0 la) (la = la ∧ ckQ (oldL 0 lb == oldL 0 lb) (lb = lb ∧ zL32 =
 zL32 ∧ setRange x_0.2 (0 + n_2.toNat * 1) [.bool true] = y_9.2 ∧ eqqQ (AV.ptr 1 lb.length 0) ∧ eqqQ (AV.ptr 3 32 0) ∧ eqqQ (AV.ptr 0 la.length 0) ∧ eqqQ (AV.ptr 2 32 0) ∧ AV.int .i64 n_8 = AV.int .i64 (y_9.1 : Int) ∧ True)))))) else
 q8DC_142_0 n_2 x_0 la lb g)))) else q8DC_142_0 n_2 x_0 la lb g))))) else ckQ (Nat.beq x_0.2.length 32 && true) (ckQ (Nat.beq ((x_0.2.drop 0).take 32).length 32 && oneL ((x_0.2.drop 0).take 32) && true) (ckQ (Nat.beq (setRange zL32 0
 ((x_0.2.drop 0).take 32)).length 32 && true) ((old 0 (.agg (((setRange zL32 0 ((x_0.2.drop 0).take 32)).drop 0).take 32)) && true) = true ∧ Q (.ret (.agg (((setRange zL32 0 ((x_0.2.drop 0).take 32)).drop 0).take 32))) [] {}))))) := by
 kernel_rfl

def inv_143 (g : Nat → Bool) (s : S) : List (List LInv) := match s.hp with
  | [b0, b1, ⟨kk, f, _⟩] => [[{ α := Nat × List AV, pre := fun c => Lf (c.1 ≤ 32 ∧ c.2 = partM g c.1), st := fun c => ⟨mkT [(1, s.tm.get 1), (2, s.tm.get 2), (3, s.tm.get 3), (4, .int .i64 (c.1 : Nat))], [b0, b1, ⟨kk, f, c.2⟩]⟩, mu := fun c => 32 - c.1 }]]
  | _ => []
noncomputable def env_143 (hv : Nat → Option Pa) (hb : Nat → Option Bool) (g : Nat → Bool) : Env := e18 sm0 (fun i => bif Nat.beq i 143000 then some (inv_143 g) else none) hv hb
noncomputable def goal_143 (hv : Nat → Option Pa) (hb : Nat → Option Bool) (la : List AV) (g : Nat → Bool) (Q : Out → List Blk → Gh → Prop) : Prop :=
  callx (env_143 hv hb g) (wpx (env_143 hv hb g) 1000) 143 [.agg la] [] {} Q
theorem vc_143 (la : List AV) (g : Nat → Bool) (Q : Out → List Blk → Gh → Prop) : goal_143 (lookV [(585733, .int .i64), (585737, .int .i64), (585738, .int .i64), (585740, .bool), (585735, .int .i64), (585736, .int .i64)]) (lookB
 [(1585728000, true), (589822, true)]) la g Q = ((∃ x_0 : Nat × List AV, Lf (x_0.1 ≤ 32 ∧ x_0.2 = partM g x_0.1) ∧ ckQ (oldL 0 la == oldL 0 la) (la = la ∧ zL32 = zL32 ∧ zL32 = x_0.2 ∧ eqqQ (AV.ptr 0 la.length 0) ∧ eqqQ (AV.ptr 2 32 0) ∧
 eqqQ (AV.ptr 1 32 0) ∧ AV.int .i64 0 = AV.int .i64 (x_0.1 : Int) ∧ True)) ∧ ∀ x_0 : Nat × List AV, Lf (x_0.1 ≤ 32 ∧ x_0.2 = partM g x_0.1) → exI .i64 (x_0.1 : Int) fun n_1 => bif decide (n_1 < 32) then exI .i64 (x_0.1 : Int) fun n_2 => exI
 .i64 (x_0.1 : Int) fun n_3 => ckQ (decide (0 ≤ n_3) && Nat.blt n_3.toNat 32 && Nat.beq la.length la.length) (ckQ (Nat.beq la.length la.length && Nat.blt (0 + n_3.toNat * 1) la.length) (exB (((la.drop (0 + n_3.toNat * 1)).take 1).getD 0
 AV.undef) fun b_4 => bif !b_4 then ckQ (decide (0 ≤ n_2) && Nat.blt n_2.toNat 32 && Nat.beq x_0.2.length 32) (ckQ (Nat.beq x_0.2.length 32 && Nat.ble (0 + n_2.toNat * 1 + 1) 32 && true && true && true) (exI .i64 (x_0.1 : Int) fun n_5 =>
 exW .i64 (n_5 + 1) fun n_6 => ((oldL 0 la || oldL 3 la) && true) = true ∧ (True ∧ (0 : Nat) = (0 : Nat)) ∧ ∃ y_7 : Nat × List AV, Lf (y_7.1 ≤ 32 ∧ y_7.2 = partM g y_7.1) ∧ 32 - y_7.1 < 32 - x_0.1 ∧ ckQ (oldL 0 la == oldL 0 la) (la = la ∧
 zL32 = zL32 ∧ setRange x_0.2 (0 + n_2.toNat * 1) [.bool true] = y_7.2 ∧ eqqQ (AV.ptr 0 la.length 0) ∧ eqqQ (AV.ptr 2 32 0) ∧ eqqQ (AV.ptr 1 32 0) ∧ AV.int .i64 n_6 = AV.int .i64 (y_7.1 : Int) ∧ True))) else ckQ (decide (0 ≤ n_2) && Nat.blt
 n_2.toNat 32 && Nat.beq x_0.2.length 32) (ckQ (Nat.beq x_0.2.length 32 && Nat.ble (0 + n_2.toNat * 1 + 1) 32 && true && true && true) (exI .i64 (x_0.1 : Int) fun n_5 => exW .i64 (n_5 + 1) fun n_6 => ((oldL 0 la || oldL 3 la) && true) =
 true ∧ (True ∧ (0 : Nat) = (0 : Nat)) ∧ ∃ y_7 : Nat × List AV, Lf (y_7.1 ≤ 32 ∧ y_7.2 = partM g y_7.1) ∧ 32 - y_7.1 < 32 - x_0.1 ∧ ckQ (oldL 0 la == oldL 0 la) (la = la ∧ zL32 = zL32 ∧ setRange x_0.2 (0 + n_2.toNat * 1) [.bool false] =
 y_7.2 ∧ eqqQ (AV.ptr 0 la.length 0) ∧ eqqQ (AV.ptr 2 32 0) ∧ eqqQ (AV.ptr 1 32 0) ∧ AV.int .i64 n_6 = AV.int .i64 (y_7.1 : Int) ∧ True))))) else ckQ (Nat.beq x_0.2.length 32 && true) (ckQ (Nat.beq ((x_0.2.drop 0).take 32).length 32 && oneL
 ((x_0.2.drop 0).take 32) && true) (ckQ (Nat.beq (setRange zL32 0 ((x_0.2.drop 0).take 32)).length 32 && true) ((old 0 (.agg (((setRange zL32 0 ((x_0.2.drop 0).take 32)).drop 0).take 32)) && true) = true ∧ Q (.ret (.agg (((setRange zL32 0
 ((x_0.2.drop 0).take 32)).drop 0).take 32))) [] {})))) := by kernel_rfl

end Go.Proofs.YtifjpcdpmimccaaGreatDoor

set_option linter.unusedSimpArgs false
set_option linter.unusedVariables false
set_option linter.unusedSectionVars false
namespace Go.Proofs.YtifjpcdpmimccaaGreatDoor
open Go.RowKit
set_option maxRecDepth 1000000

theorem wrd_len (g : Nat → Bool) : (wrdM g).length = 32 := by rw [wrdM, List.length_map, List.length_range]
theorem wrd_get (g : Nat → Bool) {i : Nat} (hi : i < 32) : (wrdM g)[i]? = some (AV.bool (g i)) := by
  rw [wrdM, List.getElem?_map, List.getElem?_range hi]; rfl
theorem wrd_ext {g h : Nat → Bool} (e : ∀ j, j < 32 → g j = h j) : wrdM g = wrdM h := by
  unfold wrdM
  apply List.map_congr_left
  intro j hj
  rw [e j (List.mem_range.1 hj)]
theorem old_bools : ∀ l : List Nat, ∀ (a : Nat) (g : Nat → Bool), oldL a (l.map fun j => AV.bool (g j)) = true
  | [], _, _ => rfl
  | x :: l, a, g => by simp [oldL, old, old_bools l]
theorem noY_bools : ∀ l : List Nat, ∀ (g : Nat → Bool), noYL (l.map fun j => AV.bool (g j)) = true
  | [], _ => rfl
  | x :: l, g => by simp [noYL, noY, noY_bools l]
theorem one_bools : ∀ l : List Nat, ∀ (g : Nat → Bool), oneL (l.map fun j => AV.bool (g j)) = true
  | [], _ => rfl
  | x :: l, g => by simp [oneL, one, one_bools l]
theorem old_wrd (a : Nat) (g : Nat → Bool) : oldL a (wrdM g) = true := old_bools _ a g
theorem noY_wrd (g : Nat → Bool) : noYL (wrdM g) = true := noY_bools _ g
theorem one_wrd (g : Nat → Bool) : oneL (wrdM g) = true := one_bools _ g
theorem ldBw {la : List AV} {g : Nat → Bool} (hla : la = wrdM g) {i : Nat} {n : Int} (hn : n = i) (hi : i < 32) {K : Bool → Prop} (h : K (g i)) : ∃ b, List.getD (List.take 1 (List.drop (0 + n.toNat * 1) la)) 0 AV.undef = AV.bool b ∧ K b := by
  refine ⟨g i, ?_, h⟩
  subst hla; subst hn
  rw [List.getD_eq_getElem?_getD, List.getElem?_take_of_lt (by omega), List.getElem?_drop, show 0 + (i : Int).toNat * 1 + 0 = i by omega, wrd_get g hi]
  rfl
theorem set_wrd {l : List AV} {g : Nat → Bool} (hl : l = wrdM g) {i : Nat} {n : Int} (hn : n = i) (hi : i < 32) (b : Bool) : setRange l (0 + n.toNat * 1) [AV.bool b] = wrdM fun j => if j = i then b else g j := by
  subst hl; subst hn
  rw [show 0 + (i : Int).toNat * 1 = i by omega]
  apply List.ext_getElem?
  intro j
  unfold setRange
  rcases Nat.lt_or_ge j 32 with hj | hj
  · rw [wrd_get _ hj, List.append_assoc]
    rcases Nat.lt_trichotomy j i with h | h | h
    · rw [List.getElem?_append_left (by rw [List.length_take, wrd_len]; omega), List.getElem?_take_of_lt h, wrd_get _ hj, if_neg (by omega)]
    · subst h
      rw [List.getElem?_append_right (by rw [List.length_take, wrd_len]; omega), List.length_take, wrd_len, show j - min j 32 = 0 by omega, if_pos rfl]
      rfl
    · rw [List.getElem?_append_right (by rw [List.length_take, wrd_len]; omega), List.length_take, wrd_len, show j - min i 32 = (j - i - 1) + 1 by omega, List.singleton_append, List.getElem?_cons_succ, List.getElem?_drop, List.length_singleton, show i + 1 + (j - i - 1) = j by omega, wrd_get _ hj, if_neg (by omega)]
  · rw [List.getElem?_eq_none (by simp only [List.length_append, List.length_take, List.length_drop, wrd_len, List.length_singleton]; omega), List.getElem?_eq_none (by rw [wrd_len]; exact hj)]
theorem set_full {z l : List AV} (hz : z.length = l.length) : setRange z 0 l = l := by
  show z.take 0 ++ l ++ z.drop (0 + l.length) = l
  rw [List.take_zero, List.nil_append, Nat.zero_add, ← hz, List.drop_length, List.append_nil]
theorem take_all {l : List AV} (hl : l.length = 32) : List.take 32 (List.drop 0 l) = l := List.take_of_length_le (by rw [List.drop_zero]; omega)
theorem wrd_all {z l : List AV} (hz : z.length = 32) (hl : l.length = 32) : List.take 32 (List.drop 0 (setRange z 0 (List.take 32 (List.drop 0 l)))) = l := by
  rw [take_all hl, set_full (by omega), take_all hl]
theorem set_len {z l : List AV} (hz : z.length = 32) (hl : l.length = 32) : (setRange z 0 (List.take 32 (List.drop 0 l))).length = 32 := by
  rw [take_all hl, set_full (by omega), hl]
theorem zer_wrd : wrdM (fun _ => false) = List.replicate 32 (AV.bool false) := rfl
theorem part0 (g : Nat → Bool) : partM g 0 = List.replicate 32 (AV.bool false) := (wrd_ext fun j _ => by rw [decide_eq_false (by omega)]; rfl : wrdM _ = wrdM _).trans zer_wrd
theorem part_step (g : Nat → Bool) {l : List AV} {i : Nat} (hl : l = partM g i) {n : Int} (hn : n = i) (hi : i < 32) {b : Bool} (hb : b = g i) : setRange l (0 + n.toNat * 1) [AV.bool b] = partM g (i + 1) := by
  rw [set_wrd hl hn hi b]
  refine wrd_ext fun j hj => ?_
  by_cases h : j = i
  · subst h; rw [if_pos rfl, hb, decide_eq_true (by omega), Bool.true_and]
  · rw [if_neg h]
    by_cases h2 : j < i
    · rw [decide_eq_true h2, decide_eq_true (by omega)]
    · rw [decide_eq_false h2, decide_eq_false (by omega)]
theorem part_end (g : Nat → Bool) : partM g 32 = wrdM g := wrd_ext fun j hj => by rw [decide_eq_true hj, Bool.true_and]
end Go.Proofs.YtifjpcdpmimccaaGreatDoor

set_option linter.unusedSimpArgs false
set_option linter.unusedVariables false
set_option linter.unusedSectionVars false
namespace Go.Proofs.YtifjpcdpmimccaaGreatDoor
open Go.RowKit
set_option maxRecDepth 1000000

theorem exitW {z l : List AV} (hz : z.length = 32) (hl : l.length = 32) (h1 : oneL l = true) (ho : oldL 0 l = true) (K : List AV → Prop) (hK : K l) :
    bif Nat.beq l.length 32 && true then (bif Nat.beq (List.take 32 (List.drop 0 l)).length 32 && oneL (List.take 32 (List.drop 0 l)) && true then (bif Nat.beq (setRange z 0 (List.take 32 (List.drop 0 l))).length 32 && true then ((old 0 (.agg (List.take 32 (List.drop 0 (setRange z 0 (List.take 32 (List.drop 0 l)))))) && true) = true ∧ K (List.take 32 (List.drop 0 (setRange z 0 (List.take 32 (List.drop 0 l)))))) else False) else False) else False := by
  rw [set_len hz hl, wrd_all hz hl, take_all hl, hl, h1]
  exact ⟨by rw [old, ho]; rfl, hK⟩
theorem ldW {la : List AV} {g : Nat → Bool} (hla : la = wrdM g) {i : Nat} {n : Int} (hn : n = i) (hi : i < 32) {K : Bool → Prop} (h : K (g i)) :
    bif (decide (0 ≤ n) && Nat.blt n.toNat 32) && Nat.beq la.length la.length then (bif Nat.beq la.length la.length && Nat.blt (0 + n.toNat * 1) la.length then (∃ b, List.getD (List.take 1 (List.drop (0 + n.toNat * 1) la)) 0 AV.undef = AV.bool b ∧ K b) else False) else False := by
  have hl : la.length = 32 := by rw [hla]; exact wrd_len _
  refine ckI (by simp only [Bool.and_eq_true, decide_eq_true_eq, Nat.blt_eq, nbeq, and_true]; omega) (ckI (by simp only [Bool.and_eq_true, Nat.blt_eq, nbeq, true_and]; omega) (ldBw hla hn hi h))
theorem stW {l : List AV} {i : Nat} {n : Int} (hn : n = i) (hi : i < 32) (hl : l.length = 32) {A : Prop} (h : A) :
    bif (decide (0 ≤ n) && Nat.blt n.toNat 32) && Nat.beq l.length 32 then (bif (((Nat.beq l.length 32 && Nat.ble (0 + n.toNat * 1 + 1) 32) && true) && true) && true then A else False) else False := by
  refine ckI (by simp only [Bool.and_eq_true, decide_eq_true_eq, Nat.blt_eq, nbeq]; omega) (ckI (by simp only [Bool.and_true, Bool.and_eq_true, Nat.ble_eq, nbeq]; omega) h)
theorem splitBo {b : Bool} {A B : Prop} (h1 : b = true → A) (h2 : b = false → B) : bif b then A else B := by
  cases b
  · exact h2 rfl
  · exact h1 rfl
theorem not_run (la : List AV) (x : Nat) (hla : la = bitsM x) (Q : Out → List Blk → Gh → Prop) (hq : Q (.ret (.agg (wrdM (notG x)))) [] {}) : ∃ hv hb, goal_143 hv hb la (notG x) Q := by
  obtain ⟨hv', hb', e'⟩ : ∃ hv hb, goal_143 hv hb la (notG x) Q = _ := ⟨_, _, vc_143 la (notG x) Q⟩
  refine ⟨hv', hb', e'.mpr ?_⟩
  clear e'
  have ho : ∀ a, oldL a la = true := fun a => by rw [hla]; exact old_wrd a _
  refine ⟨⟨(0, partM (notG x) 0), ⟨Nat.zero_le _, rfl⟩, ckI (by simp) ⟨rfl, rfl, (part0 _).symm, rfl, rfl, rfl, rfl, trivial⟩⟩, ?_⟩
  rintro ⟨i, l⟩ ⟨h1, h2⟩
  dsimp only at h1 h2
  dsimp only
  have hll : l.length = 32 := by rw [h2]; exact wrd_len _
  refine ⟨_, rfl, splitD (fun h3 => ?_) (fun h3 => ?_)⟩
  · have hi : i < 32 := by omega
    refine ⟨_, rfl, _, rfl, ldW hla rfl hi (splitBo (fun hb => ?_) (fun hb => ?_))⟩
    all_goals
      refine stW rfl hi hll ⟨_, rfl, wrapI (by omega) (by omega) ⟨by rw [ho 0]; rfl, ⟨trivial, rfl⟩, (i + 1, _), ⟨hi, part_step _ h2 rfl hi hb.symm⟩, by show 32 - (i + 1) < 32 - i; omega, ckI (by simp) ⟨rfl, rfl, rfl, rfl, rfl, rfl, rfl, trivial⟩⟩⟩
  · obtain rfl : i = 32 := by omega
    rw [part_end] at h2
    refine exitW rfl hll (by rw [h2]; exact one_wrd _) (by rw [h2]; exact old_wrd 0 _) (fun r => Q (.ret (.agg r)) [] {}) ?_
    rw [h2]; exact hq
theorem two_run (two : Bool) (la lb : List AV) (x y : Nat) (hla : la = bitsM x) (hlb : lb = bitsM y) (Q : Out → List Blk → Gh → Prop) (hq : Q (.ret (.agg (wrdM (bif two then xorG x y else andG x y)))) [] {}) : ∃ hv hb, (bif two then goal_141 hv hb la lb (xorG x y) Q else goal_142 hv hb la lb (andG x y) Q) := by
  have ho : ∀ a, oldL a la = true := fun a => by rw [hla]; exact old_wrd a _
  have hp : ∀ a, oldL a lb = true := fun a => by rw [hlb]; exact old_wrd a _
  cases two with
  | true =>
    obtain ⟨hv', hb', e'⟩ : ∃ hv hb, goal_141 hv hb la lb (xorG x y) Q = _ := ⟨_, _, vc_141 la lb (xorG x y) Q⟩
    refine ⟨hv', hb', e'.mpr ?_⟩
    clear e'
    refine ⟨⟨(0, partM (xorG x y) 0), ⟨Nat.zero_le _, rfl⟩, ckI (by simp) ⟨rfl, ckI (by simp) ⟨rfl, rfl, (part0 _).symm, rfl, rfl, rfl, rfl, rfl, trivial⟩⟩⟩, ?_⟩
    rintro ⟨i, l⟩ ⟨h1, h2⟩
    dsimp only at h1 h2
    dsimp only
    have hll : l.length = 32 := by rw [h2]; exact wrd_len _
    refine ⟨_, rfl, splitD (fun h3 => ?_) (fun h3 => ?_)⟩
    · have hi : i < 32 := by omega
      refine ⟨_, rfl, _, rfl, ldW hla rfl hi ⟨_, rfl, ldW hlb rfl hi (splitBo (fun hb => ?_) (fun hb => ?_))⟩⟩
      all_goals
        refine stW rfl hi hll ⟨_, rfl, wrapI (by omega) (by omega) ⟨by rw [ho 0, hp 0]; rfl, ⟨trivial, rfl⟩, (i + 1, _), ⟨hi, part_step _ h2 rfl hi hb.symm⟩, by show 32 - (i + 1) < 32 - i; omega, ckI (by simp) ⟨rfl, ckI (by simp) ⟨rfl, rfl, rfl, rfl, rfl, rfl, rfl, rfl, trivial⟩⟩⟩⟩
    · obtain rfl : i = 32 := by omega
      rw [part_end] at h2
      refine exitW rfl hll (by rw [h2]; exact one_wrd _) (by rw [h2]; exact old_wrd 0 _) (fun r => Q (.ret (.agg r)) [] {}) ?_
      rw [h2]; exact hq
  | false =>
    obtain ⟨hv', hb', e'⟩ : ∃ hv hb, goal_142 hv hb la lb (andG x y) Q = _ := ⟨_, _, vc_142 la lb (andG x y) Q⟩
    refine ⟨hv', hb', e'.mpr ?_⟩
    clear e'
    refine ⟨⟨(0, partM (andG x y) 0), ⟨Nat.zero_le _, rfl⟩, ckI (by simp) ⟨rfl, ckI (by simp) ⟨rfl, rfl, (part0 _).symm, rfl, rfl, rfl, rfl, rfl, trivial⟩⟩⟩, ?_⟩
    rintro ⟨i, l⟩ ⟨h1, h2⟩
    dsimp only at h1 h2
    dsimp only
    have hll : l.length = 32 := by rw [h2]; exact wrd_len _
    refine ⟨_, rfl, splitD (fun h3 => ?_) (fun h3 => ?_)⟩
    · have hi : i < 32 := by omega
      refine ⟨_, rfl, _, rfl, ldW hla rfl hi (splitBo (fun hb => ⟨_, rfl, ldW hlb rfl hi (splitBo (fun hc => ?_) (fun hc => ?_))⟩) (fun hb => ?_))⟩
      · have e : true = andG x y i := by
          show true = (x.testBit (31 - i) && y.testBit (31 - i))
          have hb' : x.testBit (31 - i) = true := hb
          have hc' : y.testBit (31 - i) = true := hc
          rw [hb', hc']; rfl
        exact stW rfl hi hll ⟨_, rfl, wrapI (by omega) (by omega) ⟨by rw [ho 0, hp 0]; rfl, ⟨trivial, rfl⟩, (i + 1, _), ⟨hi, part_step _ h2 rfl hi e⟩, by show 32 - (i + 1) < 32 - i; omega, ckI (by simp) ⟨rfl, ckI (by simp) ⟨rfl, rfl, rfl, rfl, rfl, rfl, rfl, rfl, trivial⟩⟩⟩⟩
      · have e : false = andG x y i := by
          show false = (x.testBit (31 - i) && y.testBit (31 - i))
          have hc' : y.testBit (31 - i) = false := hc
          rw [hc', Bool.and_false]
        exact stW rfl hi hll ⟨_, rfl, wrapI (by omega) (by omega) ⟨by rw [ho 0, hp 0]; rfl, ⟨trivial, rfl⟩, (i + 1, _), ⟨hi, part_step _ h2 rfl hi e⟩, by show 32 - (i + 1) < 32 - i; omega, ckI (by simp) ⟨rfl, ckI (by simp) ⟨rfl, rfl, rfl, rfl, rfl, rfl, rfl, rfl, trivial⟩⟩⟩⟩
      · have e : false = andG x y i := by
          show false = (x.testBit (31 - i) && y.testBit (31 - i))
          have hb' : x.testBit (31 - i) = false := hb
          rw [hb', Bool.false_and]
        exact stW rfl hi hll ⟨_, rfl, wrapI (by omega) (by omega) ⟨by rw [ho 0, hp 0]; rfl, ⟨trivial, rfl⟩, (i + 1, _), ⟨hi, part_step _ h2 rfl hi e⟩, by show 32 - (i + 1) < 32 - i; omega, ckI (by simp) ⟨rfl, ckI (by simp) ⟨rfl, rfl, rfl, rfl, rfl, rfl, rfl, rfl, trivial⟩⟩⟩⟩
    · obtain rfl : i = 32 := by omega
      rw [part_end] at h2
      refine exitW rfl hll (by rw [h2]; exact one_wrd _) (by rw [h2]; exact old_wrd 0 _) (fun r => Q (.ret (.agg r)) [] {}) ?_
      rw [h2]; exact hq
theorem trn0 (x k : Nat) : trnM x k 0 = List.replicate 32 (AV.bool false) := (wrd_ext fun j _ => by rw [decide_eq_false (by omega)]; rfl : wrdM _ = wrdM _).trans zer_wrd
theorem trn_step {x k i : Nat} (hk : k < 32) (hi : i < 32) {l : List AV} (hl : l = trnM x k i) {n : Int} (hn : n = ((i + k) % 32 : Nat)) : setRange l (0 + n.toNat * 1) [AV.bool (x.testBit (31 - i))] = trnM x k (i + 1) := by
  rw [set_wrd hl hn (Nat.mod_lt _ (by decide))]
  refine wrd_ext fun j hj => ?_
  by_cases h : j = (i + k) % 32
  · have : (j + 32 - k) % 32 = i := by omega
    rw [if_pos h, this, decide_eq_true (by omega), Bool.true_and]
  · have : (j + 32 - k) % 32 ≠ i := by omega
    rw [if_neg h]
    by_cases h2 : (j + 32 - k) % 32 < i
    · rw [decide_eq_true h2, decide_eq_true (by omega)]
    · rw [decide_eq_false h2, decide_eq_false (by omega)]
theorem turned_run (la : List AV) (x k : Nat) (hla : la = bitsM x) (hk : k < 32) (Q : Out → List Blk → Gh → Prop) (hq : Q (.ret (.agg (trnM x k 32))) [] {}) : ∃ hv hb, goal_139 hv hb la x k Q := by
  obtain ⟨hv', hb', e'⟩ : ∃ hv hb, goal_139 hv hb la x k Q = _ := ⟨_, _, vc_139 la x k Q⟩
  refine ⟨hv', hb', e'.mpr ?_⟩
  clear e'
  have ho : ∀ a, oldL a la = true := fun a => by rw [hla]; exact old_wrd a _
  refine ⟨⟨(0, trnM x k 0), ⟨Nat.zero_le _, rfl⟩, ckI (by simp) ⟨rfl, rfl, (trn0 _ _).symm, rfl, rfl, rfl, rfl, rfl, trivial⟩⟩, ?_⟩
  rintro ⟨i, l⟩ ⟨h1, h2⟩
  dsimp only at h1 h2
  dsimp only
  have hll : l.length = 32 := by rw [h2]; exact wrd_len _
  refine ⟨_, rfl, splitD (fun h3 => ?_) (fun h3 => ?_)⟩
  · have hi : i < 32 := by omega
    have hm : (i + k) % 32 < 32 := Nat.mod_lt _ (by decide)
    refine ⟨_, rfl, _, rfl, wrapI (by omega) (by omega) ⟨(((i + k) % 32 : Nat) : Int), congrArg _ (by rw [Int.tmod_eq_emod_of_nonneg (by omega)]; omega), _, rfl, ldW hla rfl hi ?_⟩⟩
    exact stW rfl hm hll ⟨_, rfl, wrapI (by omega) (by omega) ⟨by rw [ho 0]; rfl, ⟨trivial, rfl⟩, (i + 1, _), ⟨hi, trn_step hk hi h2 rfl⟩, by show 32 - (i + 1) < 32 - i; omega, ckI (by simp) ⟨rfl, rfl, rfl, rfl, rfl, rfl, rfl, rfl, trivial⟩⟩⟩
  · obtain rfl : i = 32 := by omega
    refine exitW rfl hll (by rw [h2]; exact one_wrd _) (by rw [h2]; exact old_wrd 0 _) (fun r => Q (.ret (.agg r)) [] {}) ?_
    rw [h2]; exact hq
theorem mov0 (x k : Nat) : movM x k 0 = List.replicate 32 (AV.bool false) := (wrd_ext fun j _ => by rw [decide_eq_false (by omega)]; rfl : wrdM _ = wrdM _).trans zer_wrd
theorem mov_step {x k i : Nat} (hi : i + k < 32) {l : List AV} (hl : l = movM x k i) {n : Int} (hn : n = (i + k : Nat)) : setRange l (0 + n.toNat * 1) [AV.bool (x.testBit (31 - i))] = movM x k (i + 1) := by
  rw [set_wrd hl hn hi]
  refine wrd_ext fun j hj => ?_
  by_cases h : j = i + k
  · have : j - k = i := by omega
    rw [if_pos h, this, decide_eq_true (by omega), Bool.true_and]
  · rw [if_neg h]
    by_cases h2 : k ≤ j ∧ j - k < i
    · rw [decide_eq_true h2, decide_eq_true (by omega)]
    · rw [decide_eq_false h2, decide_eq_false (by omega)]
theorem moved_run (la : List AV) (x k : Nat) (hla : la = bitsM x) (hk : k < 32) (Q : Out → List Blk → Gh → Prop) (hq : Q (.ret (.agg (movM x k (32 - k)))) [] {}) : ∃ hv hb, goal_140 hv hb la x k Q := by
  obtain ⟨hv', hb', e'⟩ : ∃ hv hb, goal_140 hv hb la x k Q = _ := ⟨_, _, vc_140 la x k Q⟩
  refine ⟨hv', hb', e'.mpr ?_⟩
  clear e'
  have ho : ∀ a, oldL a la = true := fun a => by rw [hla]; exact old_wrd a _
  refine ⟨⟨(0, movM x k 0), ⟨by show 0 + k ≤ 32; omega, rfl⟩, ckI (by simp) ⟨rfl, rfl, (mov0 _ _).symm, rfl, rfl, rfl, rfl, rfl, trivial⟩⟩, ?_⟩
  rintro ⟨i, l⟩ ⟨h1, h2⟩
  dsimp only at h1 h2
  dsimp only
  have hll : l.length = 32 := by rw [h2]; exact wrd_len _
  refine ⟨_, rfl, _, rfl, wrapI (by omega) (by omega) (splitD (fun h3 => ?_) (fun h3 => ?_))⟩
  · have hi : i + k < 32 := by omega
    refine ⟨_, rfl, _, rfl, wrapI (by omega) (by omega) ⟨_, rfl, ldW hla rfl (by omega : i < 32) ?_⟩⟩
    exact stW (i := i + k) (by omega) hi hll ⟨_, rfl, wrapI (by omega) (by omega) ⟨by rw [ho 0]; rfl, ⟨trivial, rfl⟩, (i + 1, _), ⟨by show i + 1 + k ≤ 32; omega, mov_step hi h2 (by omega)⟩, by show 32 - (i + 1) < 32 - i; omega, ckI (by simp) ⟨rfl, rfl, rfl, rfl, rfl, rfl, rfl, rfl, trivial⟩⟩⟩
  · obtain rfl : i = 32 - k := by omega
    refine exitW rfl hll (by rw [h2]; exact one_wrd _) (by rw [h2]; exact old_wrd 0 _) (fun r => Q (.ret (.agg r)) [] {}) ?_
    rw [h2]; exact hq
theorem wd0 (x : Nat) : wdM x 0 = List.replicate 32 (AV.bool false) := (wrd_ext fun j _ => by rw [decide_eq_false (by omega)]; rfl : wrdM _ = wrdM _).trans zer_wrd
theorem wd_step {x c : Nat} (hc : c < 32) {l : List AV} (hl : l = wdM x c) {n : Int} (hn : n = (31 - c : Nat)) {b : Bool} (hb : b = x.testBit c) : setRange l (0 + n.toNat * 1) [AV.bool b] = wdM x (c + 1) := by
  rw [set_wrd hl hn (by omega)]
  refine wrd_ext fun j hj => ?_
  by_cases h : j = 31 - c
  · have : 31 - j = c := by omega
    rw [if_pos h, this, decide_eq_true (by omega), Bool.true_and, hb]
  · rw [if_neg h]
    by_cases h2 : 31 < j + c
    · rw [decide_eq_true h2, decide_eq_true (by omega)]
    · rw [decide_eq_false h2, decide_eq_false (by omega)]
theorem wd_end (x : Nat) : wdM x 32 = bitsM x := wrd_ext fun j hj => by rw [decide_eq_true (by omega), Bool.true_and]
theorem div_le (x c : Nat) : x / 2 ^ c ≤ x := Nat.div_le_self _ _
theorem word_run (x : Nat) (hx : x < 4294967296) (Q : Out → List Blk → Gh → Prop) (hq : Q (.ret (.agg (bitsM x))) [] {}) : ∃ hv hb, goal_135 hv hb x Q := by
  obtain ⟨hv', hb', e'⟩ : ∃ hv hb, goal_135 hv hb x Q = _ := ⟨_, _, vc_135 x Q⟩
  refine ⟨hv', hb', e'.mpr ?_⟩
  clear e'
  refine ⟨⟨(0, wdM x 0), ⟨Nat.zero_le _, rfl⟩, rfl, (wd0 _).symm, by simp, rfl, rfl, rfl, trivial⟩, ?_⟩
  rintro ⟨c, l⟩ ⟨h1, h2⟩
  dsimp only at h1 h2
  dsimp only
  have hll : l.length = 32 := by rw [h2]; exact wrd_len _
  refine ⟨_, rfl, splitD (fun h3 => ?_) (fun h3 => ?_)⟩
  · have hc : c < 32 := by omega
    have hd := div_le x c
    have he := Nat.testBit_eq_decide_div_mod_eq (x := x) (i := c)
    have hz : x / 2 ^ (c + 1) = x / 2 ^ c / 2 := by rw [Nat.pow_succ, Nat.div_div_eq_div_mul]
    have fin : ∀ z : Nat, x / 2 ^ (c + 1) = z → AV.int .i64 (z : Int) = AV.int .i64 ((x / 2 ^ (c + 1) : Nat) : Int) := fun z h => by rw [h]
    generalize x / 2 ^ c = y at *
    have tm : Int.tmod (y : Int) 2 = ((y % 2 : Nat) : Int) := by rw [Int.tmod_eq_emod_of_nonneg (by omega)]; omega
    have td : Int.tdiv (y : Int) 2 = ((y / 2 : Nat) : Int) := by rw [Int.tdiv_eq_ediv_of_nonneg (by omega)]; omega
    refine ⟨_, rfl, _, rfl, ((y % 2 : Nat) : Int), congrArg _ tm, splitBo (fun hb => ?_) (fun hb => ?_)⟩
    · have e : true = x.testBit c := by
        rw [he]
        rw [beq_iff_eq] at hb
        exact (decide_eq_true (by omega)).symm
      refine stW (i := 31 - c) (by omega) (by omega) hll ⟨_, rfl, ?_⟩
      try dsimp only
      rw [td]
      exact wrapI (by omega) (by omega) ⟨_, rfl, wrapI (by omega) (by omega) ⟨⟨trivial, rfl⟩, (c + 1, _), ⟨hc, wd_step hc h2 (by omega) e⟩, by show 32 - (c + 1) < 32 - c; omega, rfl, rfl, fin _ hz, rfl, rfl, congrArg _ (by show _ = 31 - ((c + 1 : Nat) : Int); omega), trivial⟩⟩
    · have e : false = x.testBit c := by
        rw [he]
        rw [beq_eq_false_iff_ne] at hb
        exact (decide_eq_false (by omega)).symm
      refine stW (i := 31 - c) (by omega) (by omega) hll ⟨_, rfl, ?_⟩
      try dsimp only
      rw [td]
      exact wrapI (by omega) (by omega) ⟨_, rfl, wrapI (by omega) (by omega) ⟨⟨trivial, rfl⟩, (c + 1, _), ⟨hc, wd_step hc h2 (by omega) e⟩, by show 32 - (c + 1) < 32 - c; omega, rfl, rfl, fin _ hz, rfl, rfl, congrArg _ (by show _ = 31 - ((c + 1 : Nat) : Int); omega), trivial⟩⟩
  · obtain rfl : c = 32 := by omega
    rw [wd_end] at h2
    refine exitW rfl hll (by rw [h2]; exact one_wrd _) (by rw [h2]; exact old_wrd 0 _) (fun r => Q (.ret (.agg r)) [] {}) ?_
    rw [h2]; exact hq
theorem value_run (la : List AV) (x : Nat) (hla : la = bitsM x) (hx : x < 4294967296) (Q : Out → List Blk → Gh → Prop) (hq : Q (.ret (.int .i64 (x : Nat))) [] {}) : ∃ hv hb, goal_137 hv hb la x Q := by
  obtain ⟨hv', hb', e'⟩ : ∃ hv hb, goal_137 hv hb la x Q = _ := ⟨_, _, vc_137 la x Q⟩
  refine ⟨hv', hb', e'.mpr ?_⟩
  clear e'
  have ho : ∀ a, oldL a la = true := fun a => by rw [hla]; exact old_wrd a _
  have hz : x / 2 ^ 32 = 0 := Nat.div_eq_of_lt hx
  refine ⟨⟨0, ⟨Nat.zero_le _⟩, ckI (by simp) ⟨rfl, rfl, congrArg _ (by rw [show 32 - 0 = 32 from rfl, hz]; rfl), rfl, trivial⟩⟩, ?_⟩
  rintro i ⟨h1⟩
  refine ⟨_, rfl, splitD (fun h3 => ?_) (fun h3 => ?_)⟩
  · have hi : i < 32 := by omega
    have hd2 := div_le x (31 - i)
    have hh : x / 2 ^ (32 - i) = x / 2 ^ (31 - i) / 2 := by rw [show 32 - i = (31 - i) + 1 by omega, Nat.pow_succ, Nat.div_div_eq_div_mul]
    have he := Nat.testBit_eq_decide_div_mod_eq (x := x) (i := 31 - i)
    have fin : ∀ z : Int, z = ((x / 2 ^ (31 - i) : Nat) : Int) → AV.int .i64 z = AV.int .i64 ((x / 2 ^ (32 - (i + 1)) : Nat) : Int) := fun z h => by rw [h, show 32 - (i + 1) = 31 - i by omega]
    rw [hh]
    generalize x / 2 ^ (31 - i) = y at *
    refine ⟨_, rfl, wrapI (by omega) (by omega) ⟨_, rfl, ldW hla rfl hi (splitBo (fun hb => ?_) (fun hb => ?_))⟩⟩
    · have e : x.testBit (31 - i) = true := hb
      rw [he, decide_eq_true_eq] at e
      exact wrapI (by omega) (by omega) ⟨_, rfl, wrapI (by omega) (by omega) ⟨by rw [ho 0]; rfl, ⟨trivial, rfl⟩, i + 1, ⟨hi⟩, by omega, ckI (by simp) ⟨rfl, rfl, fin _ (by omega), rfl, trivial⟩⟩⟩
    · have e : x.testBit (31 - i) = false := hb
      rw [he, decide_eq_false_iff_not] at e
      exact ⟨_, rfl, wrapI (by omega) (by omega) ⟨by rw [ho 0]; rfl, ⟨trivial, rfl⟩, i + 1, ⟨hi⟩, by omega, ckI (by simp) ⟨rfl, rfl, fin _ (by omega), rfl, trivial⟩⟩⟩
  · obtain rfl : i = 32 := by omega
    refine ⟨_, rfl, ?_⟩
    rw [show 32 - 32 = 0 from rfl, Nat.pow_zero, Nat.div_one]
    exact hq
end Go.Proofs.YtifjpcdpmimccaaGreatDoor

set_option linter.unusedSimpArgs false
set_option linter.unusedVariables false
set_option linter.unusedSectionVars false
namespace Go.Proofs.YtifjpcdpmimccaaGreatDoor
open Go.RowKit
set_option maxRecDepth 1000000

theorem tb_big {x i : Nat} (hx : x < 4294967296) (hi : 32 ≤ i) : x.testBit i = false :=
  Nat.testBit_lt_two_pow (Nat.lt_of_lt_of_le hx (by rw [show (4294967296 : Nat) = 2 ^ 32 from rfl]; exact Nat.pow_le_pow_right (by decide) hi))
theorem tb_mod (x : Nat) {i : Nat} (hi : i < 32) : (x % 4294967296).testBit i = x.testBit i := by
  rw [show (4294967296 : Nat) = 2 ^ 32 from rfl, Nat.testBit_mod_two_pow, decide_eq_true hi, Bool.true_and]
theorem turn_bits {x k : Nat} (hx : x < 4294967296) (h0 : 0 < k) (hk : k < 32) : trnM x k 32 = bitsM (rotW (32 - k) x) := wrd_ext fun j hj => by
  have hm : (j + 32 - k) % 32 < 32 := Nat.mod_lt _ (by decide)
  rw [decide_eq_true hm, Bool.true_and, rotW, Nat.testBit_or, tb_mod _ (by omega), tb_mod _ (by omega), Nat.testBit_mul_two_pow, show 32 - (32 - k) = k by omega, Nat.testBit_div_two_pow]
  by_cases h : 31 - j + k < 32
  · rw [decide_eq_false (by omega), Bool.false_and, Bool.false_or]
    congr 1
    omega
  · rw [decide_eq_true (by omega), Bool.true_and, tb_big hx (i := 31 - j + k) (by omega), Bool.or_false]
    congr 1
    omega
theorem mov_bits {x k : Nat} (hx : x < 4294967296) (hk : k < 32) : movM x k (32 - k) = bitsM (x / 2 ^ k) := wrd_ext fun j hj => by
  rw [Nat.testBit_div_two_pow]
  by_cases h : k ≤ j
  · rw [decide_eq_true (by omega), Bool.true_and]
    congr 1
    omega
  · rw [decide_eq_false (by omega), Bool.false_and, tb_big hx (by omega)]
theorem xor_bits (x y : Nat) : wrdM (xorG x y) = bitsM (xorW x y) := wrd_ext fun j hj => by
  rw [xorG, xorW, Nat.testBit_xor, tb_mod _ (by omega), tb_mod _ (by omega)]
theorem and_bits (x y : Nat) : wrdM (andG x y) = bitsM (andW x y) := wrd_ext fun j hj => by
  rw [andG, andW, Nat.testBit_and, tb_mod _ (by omega), tb_mod _ (by omega)]
theorem not_bits (x : Nat) : wrdM (notG x) = bitsM (notW x) := wrd_ext fun j hj => by
  rw [notG, notW, Nat.testBit_xor, tb_mod _ (by omega), show (4294967295 : Nat) = 2 ^ 32 - 1 from rfl, Nat.testBit_two_pow_sub_one, decide_eq_true (by omega)]
  cases x.testBit (31 - j) <;> rfl
theorem xor_run (la lb : List AV) (x y : Nat) (hla : la = bitsM x) (hlb : lb = bitsM y) (Q : Out → List Blk → Gh → Prop) (hq : Q (.ret (.agg (bitsM (xorW x y)))) [] {}) : ∃ hv hb, goal_141 hv hb la lb (xorG x y) Q := by
  have h := two_run true la lb x y hla hlb Q (by rw [cond_true, xor_bits]; exact hq)
  simpa only [cond_true] using h
theorem and_run (la lb : List AV) (x y : Nat) (hla : la = bitsM x) (hlb : lb = bitsM y) (Q : Out → List Blk → Gh → Prop) (hq : Q (.ret (.agg (bitsM (andW x y)))) [] {}) : ∃ hv hb, goal_142 hv hb la lb (andG x y) Q := by
  have h := two_run false la lb x y hla hlb Q (by rw [cond_false, and_bits]; exact hq)
  simpa only [cond_false] using h
def wbM (x i : Nat) : AV := AV.bool (x.testBit i)
def wL (x : Nat) : List AV := [wbM x 31, wbM x 30, wbM x 29, wbM x 28, wbM x 27, wbM x 26, wbM x 25, wbM x 24, wbM x 23, wbM x 22, wbM x 21, wbM x 20, wbM x 19, wbM x 18, wbM x 17, wbM x 16, wbM x 15, wbM x 14, wbM x 13, wbM x 12, wbM x 11, wbM x 10, wbM x 9, wbM x 8, wbM x 7, wbM x 6, wbM x 5, wbM x 4, wbM x 3, wbM x 2, wbM x 1, wbM x 0]
theorem old_wL (a x : Nat) : oldL a (wL x) = true := old_wrd a _
theorem noY_wL (x : Nat) : noYL (wL x) = true := noY_wrd _
def cWord : Con
  | [.int .i64 n], H, K => Lf (0 ≤ n ∧ n < 4294967296) ∧ ∀ x : Nat, Lf ((x : Int) = n) → K (.ret (.agg (wL x))) H
  | _, _, _ => False
def cValue : Con
  | [.agg l], H, K => ∃ x : Nat, Lf (l = wL x ∧ x < 4294967296) ∧ ∀ n, Lf (n = (x : Int)) → K (.ret (.int .i64 n)) H
  | _, _, _ => False
def cTurn : Con
  | [.agg l, .int .i64 k], H, K => ∃ x : Nat, Lf (l = wL x ∧ x < 4294967296 ∧ 0 < k ∧ k < 32) ∧ ∀ y : Nat, Lf (y = rotW (32 - k.toNat) x) → K (.ret (.agg (wL y))) H
  | _, _, _ => False
def cMove : Con
  | [.agg l, .int .i64 k], H, K => ∃ x : Nat, Lf (l = wL x ∧ x < 4294967296 ∧ 0 < k ∧ k < 32) ∧ ∀ y : Nat, Lf (y = x / 2 ^ k.toNat) → K (.ret (.agg (wL y))) H
  | _, _, _ => False
def cXorB : Con
  | [.agg l, .agg m], H, K => ∃ x y : Nat, Lf (l = wL x ∧ m = wL y) ∧ ∀ z : Nat, Lf (z = xorW x y) → K (.ret (.agg (wL z))) H
  | _, _, _ => False
def cAndB : Con
  | [.agg l, .agg m], H, K => ∃ x y : Nat, Lf (l = wL x ∧ m = wL y) ∧ ∀ z : Nat, Lf (z = andW x y) → K (.ret (.agg (wL z))) H
  | _, _, _ => False
def cNotB : Con
  | [.agg l], H, K => ∃ x : Nat, Lf (l = wL x) ∧ ∀ y : Nat, Lf (y = notW x) → K (.ret (.agg (wL y))) H
  | _, _, _ => False
theorem old_agg (l : List AV) (h : oldL 0 l = true) : old 0 (.agg l) = true := by rw [old]; exact h
theorem noY_agg (l : List AV) (h : noYL l = true) : noY (.agg l) = true := by rw [noY]; exact h
theorem old_1 (l : List AV) (h : oldL 0 l = true) : oldL 0 [.agg l] = true := by simp [oldL, old, h]
theorem noY_1 (l : List AV) (h : noYL l = true) : noYL [.agg l] = true := by simp [noYL, noY, h]
theorem word_ok : ValidF Tryz.prog gl0 135 cWord := by
  refine valid_flat (enters_of (by kernel_rfl)) gl0_noY fun args H Q hc => ?_
  unfold cWord at hc
  split at hc
  · rename_i n
    obtain ⟨⟨h0, h1⟩, hq⟩ := hc
    obtain ⟨x, rfl⟩ : ∃ x : Nat, n = x := ⟨n.toNat, by omega⟩
    obtain ⟨hv, hb', h⟩ := word_run x (by omega) (Q := fun o H' _ => H' = [] ∧ (∃ v, o = .ret v ∧ old 0 v = true ∧ noY v = true) ∧ Q o H) ⟨rfl, ⟨_, rfl, old_agg _ (old_wrd 0 _), noY_agg _ (noY_wrd _)⟩, hq _ ⟨rfl⟩⟩
    exact ⟨rfl, rfl, _, 1000, envFor18 sm0_ok _ _ _, rfl, h⟩
  · exact hc.elim
theorem value_ok : ValidF Tryz.prog gl0 137 cValue := by
  refine valid_flat (enters_of (by kernel_rfl)) gl0_noY fun args H Q hc => ?_
  unfold cValue at hc
  split at hc
  · rename_i l
    obtain ⟨x, ⟨h0, h1⟩, hq⟩ := hc
    obtain ⟨hv, hb', h⟩ := value_run l x h0 h1 (Q := fun o H' _ => H' = [] ∧ (∃ v, o = .ret v ∧ old 0 v = true ∧ noY v = true) ∧ Q o H) ⟨rfl, ⟨_, rfl, rfl, rfl⟩, hq _ ⟨rfl⟩⟩
    subst h0
    exact ⟨old_1 _ (old_wrd 0 _), noY_1 _ (noY_wrd _), _, 1000, envFor18 sm0_ok _ _ _, rfl, h⟩
  · exact hc.elim
theorem turn_ok : ValidF Tryz.prog gl0 139 cTurn := by
  refine valid_flat (enters_of (by kernel_rfl)) gl0_noY fun args H Q hc => ?_
  unfold cTurn at hc
  split at hc
  · rename_i l k
    obtain ⟨x, ⟨h0, h1, h2, h3⟩, hq⟩ := hc
    obtain ⟨k, rfl⟩ : ∃ n : Nat, k = n := ⟨k.toNat, by omega⟩
    have e := turn_bits (x := x) (k := k) h1 (by omega) (by omega)
    obtain ⟨hv, hb', h⟩ := turned_run l x k h0 (by omega) (Q := fun o H' _ => H' = [] ∧ (∃ v, o = .ret v ∧ old 0 v = true ∧ noY v = true) ∧ Q o H) ⟨rfl, ⟨_, rfl, old_agg _ (old_wrd 0 _), noY_agg _ (noY_wrd _)⟩, by rw [e]; exact hq _ ⟨rfl⟩⟩
    subst h0
    exact ⟨by simp [oldL, old, old_wL], by simp [noYL, noY, noY_wL], _, 1000, envFor18 sm0_ok _ _ _, rfl, h⟩
  · exact hc.elim
theorem move_ok : ValidF Tryz.prog gl0 140 cMove := by
  refine valid_flat (enters_of (by kernel_rfl)) gl0_noY fun args H Q hc => ?_
  unfold cMove at hc
  split at hc
  · rename_i l k
    obtain ⟨x, ⟨h0, h1, h2, h3⟩, hq⟩ := hc
    obtain ⟨k, rfl⟩ : ∃ n : Nat, k = n := ⟨k.toNat, by omega⟩
    have e := mov_bits (x := x) (k := k) h1 (by omega)
    obtain ⟨hv, hb', h⟩ := moved_run l x k h0 (by omega) (Q := fun o H' _ => H' = [] ∧ (∃ v, o = .ret v ∧ old 0 v = true ∧ noY v = true) ∧ Q o H) ⟨rfl, ⟨_, rfl, old_agg _ (old_wrd 0 _), noY_agg _ (noY_wrd _)⟩, by rw [e]; exact hq _ ⟨rfl⟩⟩
    subst h0
    exact ⟨by simp [oldL, old, old_wL], by simp [noYL, noY, noY_wL], _, 1000, envFor18 sm0_ok _ _ _, rfl, h⟩
  · exact hc.elim
theorem xorB_ok : ValidF Tryz.prog gl0 141 cXorB := by
  refine valid_flat (enters_of (by kernel_rfl)) gl0_noY fun args H Q hc => ?_
  unfold cXorB at hc
  split at hc
  · rename_i l m
    obtain ⟨x, y, ⟨h0, h1⟩, hq⟩ := hc
    obtain ⟨hv, hb', h⟩ := xor_run l m x y h0 h1 (Q := fun o H' _ => H' = [] ∧ (∃ v, o = .ret v ∧ old 0 v = true ∧ noY v = true) ∧ Q o H) ⟨rfl, ⟨_, rfl, old_agg _ (old_wrd 0 _), noY_agg _ (noY_wrd _)⟩, hq _ ⟨rfl⟩⟩
    subst h0; subst h1
    exact ⟨by simp [oldL, old, old_wL], by simp [noYL, noY, noY_wL], _, 1000, envFor18 sm0_ok _ _ _, rfl, h⟩
  · exact hc.elim
theorem andB_ok : ValidF Tryz.prog gl0 142 cAndB := by
  refine valid_flat (enters_of (by kernel_rfl)) gl0_noY fun args H Q hc => ?_
  unfold cAndB at hc
  split at hc
  · rename_i l m
    obtain ⟨x, y, ⟨h0, h1⟩, hq⟩ := hc
    obtain ⟨hv, hb', h⟩ := and_run l m x y h0 h1 (Q := fun o H' _ => H' = [] ∧ (∃ v, o = .ret v ∧ old 0 v = true ∧ noY v = true) ∧ Q o H) ⟨rfl, ⟨_, rfl, old_agg _ (old_wrd 0 _), noY_agg _ (noY_wrd _)⟩, hq _ ⟨rfl⟩⟩
    subst h0; subst h1
    exact ⟨by simp [oldL, old, old_wL], by simp [noYL, noY, noY_wL], _, 1000, envFor18 sm0_ok _ _ _, rfl, h⟩
  · exact hc.elim
theorem notB_ok : ValidF Tryz.prog gl0 143 cNotB := by
  refine valid_flat (enters_of (by kernel_rfl)) gl0_noY fun args H Q hc => ?_
  unfold cNotB at hc
  split at hc
  · rename_i l
    obtain ⟨x, ⟨h0⟩, hq⟩ := hc
    obtain ⟨hv, hb', h⟩ := not_run l x h0 (Q := fun o H' _ => H' = [] ∧ (∃ v, o = .ret v ∧ old 0 v = true ∧ noY v = true) ∧ Q o H) ⟨rfl, ⟨_, rfl, old_agg _ (old_wrd 0 _), noY_agg _ (noY_wrd _)⟩, by rw [not_bits]; exact hq _ ⟨rfl⟩⟩
    subst h0
    exact ⟨old_1 _ (old_wrd 0 _), noY_1 _ (noY_wrd _), _, 1000, envFor18 sm0_ok _ _ _, rfl, h⟩
  · exact hc.elim
end Go.Proofs.YtifjpcdpmimccaaGreatDoor

set_option linter.unusedSimpArgs false
set_option linter.unusedVariables false
set_option linter.unusedSectionVars false
namespace Go.Proofs.YtifjpcdpmimccaaGreatDoor
open Go.RowKit
set_option maxRecDepth 1000000

noncomputable def e18h (sm : SM) (hz : Nat → Bool) (inv : Nat → Option (S → List (List LInv))) (hv : Nat → Option Pa) (hb : Nat → Option Bool) : Env :=
  { fn := fun f => lookF f tabA, sm := sm, gl := gl0, inv := inv, hv := hv, hb := hb, hz := hz }
theorem envFor18h {sm : SM} (h : ∀ f g, sm f = some g → ValidF Tryz.prog gl0 f g) (hz : Nat → Bool) (inv : Nat → Option (S → List (List LInv))) (hv : Nat → Option Pa) (hb : Nat → Option Bool) : EnvFor Tryz.prog (e18h sm hz inv hv hb) :=
  ⟨mixed18, names18, tabA_ok, h⟩
def cells6M (l : List Nat) : List AV := l.map fun (n : Nat) => AV.int .i64 (n : Int)
def allP (l : List Nat) (p i : Nat) : Bool := (l.take i).all fun q => p % q != 0
def prK : Nat → List Nat
  | 0 => []
  | c + 1 => if allP (prK c) (c + 2) (prK c).length then prK c ++ [c + 2] else prK c
def inv_87a (s : S) : List (List LInv) := [[
    { α := Nat, pre := fun x => Lf (x = 0), st := fun _ => ⟨mkT [(0, s.tm.get 0), (3, .nils), (4, .int .i64 2)], []⟩, mu := fun _ => 1000 },
    { α := Nat × List Nat, pre := fun x => Lf (1 ≤ x.1 ∧ x.1 ≤ 310 ∧ x.2 = prK x.1), st := fun x => ⟨mkT [(0, s.tm.get 0), (3, .sl 0 x.2.length 0 x.2.length 1), (4, .int .i64 (x.1 + 2 : Nat))], [⟨.grow, true, cells6M x.2⟩]⟩, mu := fun x => 311 - x.1 }]]
def inv_87b (s : S) : List (List LInv) := match s.tm.get 3, s.tm.get 4, s.hp with
  | .sl id t o n z, .int k p, [⟨bk, f, cs⟩] => [[
    { α := Nat × Bool, pre := fun x => Lf (x.1 ≤ n ∧ x.2 = allP (wsM cs) p.toNat x.1), st := fun x => ⟨mkT [(0, s.tm.get 0), (3, .sl id t o n z), (4, .int k p), (5, .bool x.2), (6, .int .i64 (x.1 : Nat))], [⟨bk, f, cs⟩]⟩, mu := fun x => n - x.1 }]]
  | t3, t4, hp => [[{ α := Nat, pre := fun x => Lf (x = 0), st := fun _ => ⟨mkT [(0, s.tm.get 0), (3, t3), (4, t4), (5, .bool true), (6, .int .i64 0)], hp⟩, mu := fun _ => 0 }]]
noncomputable def env_87 (hv : Nat → Option Pa) (hb : Nat → Option Bool) : Env := e18h sm0 (fun k => Nat.beq k 356381) (fun i => bif Nat.beq i 87000 then some inv_87a else bif Nat.beq i 87002 then some inv_87b else none) hv hb
noncomputable def goal_87 (hv : Nat → Option Pa) (hb : Nat → Option Bool) (Q : Out → List Blk → Gh → Prop) : Prop :=
  callx (env_87 hv hb) (wpx (env_87 hv hb) 1000) 87 [.int .i64 64] [] {} Q
theorem vc_87 (Q : Out → List Blk → Gh → Prop) : goal_87 (lookV [(356360, .int .i64), (356365, .int .i64), (356367, .int .i64), (356371, .int .i64), (356373, .int .i64), (356375, .int .i64), (356376, .int .i64), (356369, .int .i64),
 (356370, .int .i64), (356380, .int .i64), (356363, .int .i64), (356364, .int .i64)]) (lookB []) Q = (((∃ x_0 : Nat, Lf (x_0 = 0) ∧ eqqQ (AV.int .i64 64) ∧ AV.nils = AV.nils ∧ eqqQ (AV.int .i64 2) ∧ True) ∨ ∃ x_0 : Nat × List Nat, Lf (1 ≤
 x_0.1 ∧ x_0.1 ≤ 310 ∧ x_0.2 = prK x_0.1) ∧ False) ∧ (∀ x_0 : Nat, Lf (x_0 = 0) → exI .i64 0 fun n_1 => bif decide (n_1 < 64) then (∃ x_2 : Nat, Lf (x_2 = 0) ∧ eqqQ (AV.int .i64 64) ∧ AV.nils = AV.nils ∧ eqqQ (AV.bool true) ∧ eqqQ (AV.int
 .i64 2) ∧ eqqQ (AV.int .i64 0) ∧ True) ∧ ∀ x_2 : Nat, Lf (x_2 = 0) → exI .i64 0 fun n_3 => exI .i64 0 fun n_4 => bif decide (n_3 < n_4) then exI .i64 2 fun n_5 => exI .i64 0 fun n_6 => False else exI .i64 2 fun n_5 => exI .i64 2 fun n_6 =>
 exW .i64 (n_6 + 1) fun n_7 => (True ∧ (0 : Nat) = (0 : Nat)) ∧ ((∃ y_8 : Nat, Lf (y_8 = 0) ∧ (1000 : Nat) < (1000 : Nat) ∧ False) ∨ ∃ y_8 : Nat × List Nat, Lf (1 ≤ y_8.1 ∧ y_8.1 ≤ 310 ∧ y_8.2 = prK y_8.1) ∧ 311 - y_8.1 < 1000 ∧ [AV.int
 .i64 n_5] = cells6M y_8.2 ∧ eqqQ (AV.int .i64 64) ∧ AV.sl 0 1 0 1 1 = AV.sl 0 y_8.2.length 0 y_8.2.length 1 ∧ AV.int .i64 n_7 = AV.int .i64 ((y_8.1 + 2 : Nat) : Int) ∧ True) else Q (.ret .nils) [] {}) ∧ ∀ x_0 : Nat × List Nat, Lf (1 ≤
 x_0.1 ∧ x_0.1 ≤ 310 ∧ x_0.2 = prK x_0.1) → ckQ (Nat.beq (cells6M x_0.2).length x_0.2.length) (exI .i64 (x_0.2.length : Int) fun n_1 => bif decide (n_1 < 64) then (∃ x_2 : Nat × Bool, Lf (x_2.1 ≤ x_0.2.length ∧ x_2.2 = allP (wsM (cells6M
 x_0.2)) ((x_0.1 + 2 : Nat) : Int).toNat x_2.1) ∧ eqqQ (cells6M x_0.2) ∧ eqqQ (AV.int .i64 64) ∧ eqqQ (AV.sl 0 x_0.2.length 0 x_0.2.length 1) ∧ AV.bool true = AV.bool x_2.2 ∧ eqqQ (AV.int .i64 ((x_0.1 + 2 : Nat) : Int)) ∧ AV.int .i64 0 =
 AV.int .i64 (x_2.1 : Int) ∧ True) ∧ ∀ x_2 : Nat × Bool, Lf (x_2.1 ≤ x_0.2.length ∧ x_2.2 = allP (wsM (cells6M x_0.2)) ((x_0.1 + 2 : Nat) : Int).toNat x_2.1) → exI .i64 (x_2.1 : Int) fun n_3 => ckQ (Nat.beq (cells6M x_0.2).length
 x_0.2.length) (exI .i64 (x_0.2.length : Int) fun n_4 => bif decide (n_3 < n_4) then exI .i64 ((x_0.1 + 2 : Nat) : Int) fun n_5 => exI .i64 (x_2.1 : Int) fun n_6 => ckQ (decide (0 ≤ n_6) && Nat.blt n_6.toNat x_0.2.length && Nat.beq (cells6M
 x_0.2).length x_0.2.length && true) (ckQ (Nat.beq (cells6M x_0.2).length x_0.2.length && Nat.blt (0 + n_6.toNat * 1) x_0.2.length) (exV .i64 ((((cells6M x_0.2).drop (0 + n_6.toNat * 1)).take 1).getD 0 AV.undef) fun n_7 => ckQ (n_7 != 0 &&
 true) (exI .i64 (n_5.tmod n_7) fun n_8 => bif n_8 == 0 then exI .i64 (x_2.1 : Int) fun n_9 => exW .i64 (n_9 + 1) fun n_10 => (True ∧ (0 : Nat) = (0 : Nat)) ∧ ∃ y_11 : Nat × Bool, Lf (y_11.1 ≤ x_0.2.length ∧ y_11.2 = allP (wsM (cells6M
 x_0.2)) ((x_0.1 + 2 : Nat) : Int).toNat y_11.1) ∧ x_0.2.length - y_11.1 < x_0.2.length - x_2.1 ∧ eqqQ (cells6M x_0.2) ∧ eqqQ (AV.int .i64 64) ∧ eqqQ (AV.sl 0 x_0.2.length 0 x_0.2.length 1) ∧ AV.bool false = AV.bool y_11.2 ∧ eqqQ (AV.int
 .i64 ((x_0.1 + 2 : Nat) : Int)) ∧ AV.int .i64 n_10 = AV.int .i64 (y_11.1 : Int) ∧ True else exI .i64 (x_2.1 : Int) fun n_9 => exW .i64 (n_9 + 1) fun n_10 => (True ∧ (0 : Nat) = (0 : Nat)) ∧ ∃ y_11 : Nat × Bool, Lf (y_11.1 ≤ x_0.2.length ∧
 y_11.2 = allP (wsM (cells6M x_0.2)) ((x_0.1 + 2 : Nat) : Int).toNat y_11.1) ∧ x_0.2.length - y_11.1 < x_0.2.length - x_2.1 ∧ eqqQ (cells6M x_0.2) ∧ eqqQ (AV.int .i64 64) ∧ eqqQ (AV.sl 0 x_0.2.length 0 x_0.2.length 1) ∧ AV.bool x_2.2 =
 AV.bool y_11.2 ∧ eqqQ (AV.int .i64 ((x_0.1 + 2 : Nat) : Int)) ∧ AV.int .i64 n_10 = AV.int .i64 (y_11.1 : Int) ∧ True))) else bif x_2.2 then exI .i64 ((x_0.1 + 2 : Nat) : Int) fun n_5 => ckQ (Nat.beq (cells6M x_0.2).length x_0.2.length &&
 true && Nat.beq (0 + x_0.2.length * 1) x_0.2.length && Nat.ble (x_0.2.length + 1) 1099511627776 && Nat.ble ((x_0.2.length + 1) * 8) 1099511627776) (exI .i64 ((x_0.1 + 2 : Nat) : Int) fun n_6 => exW .i64 (n_6 + 1) fun n_7 => (True ∧ (0 :
 Nat) = (0 : Nat)) ∧ ((∃ y_8 : Nat, Lf (y_8 = 0) ∧ 1000 < 311 - x_0.1 ∧ False) ∨ ∃ y_8 : Nat × List Nat, Lf (1 ≤ y_8.1 ∧ y_8.1 ≤ 310 ∧ y_8.2 = prK y_8.1) ∧ 311 - y_8.1 < 311 - x_0.1 ∧ cells6M x_0.2 ++ [AV.int .i64 n_5] = cells6M y_8.2 ∧
 eqqQ (AV.int .i64 64) ∧ AV.sl 0 (x_0.2.length + 1) 0 (x_0.2.length + 1) 1 = AV.sl 0 y_8.2.length 0 y_8.2.length 1 ∧ AV.int .i64 n_7 = AV.int .i64 ((y_8.1 + 2 : Nat) : Int) ∧ True)) else exI .i64 ((x_0.1 + 2 : Nat) : Int) fun n_5 => exW
 .i64 (n_5 + 1) fun n_6 => (True ∧ (0 : Nat) = (0 : Nat)) ∧ ((∃ y_7 : Nat, Lf (y_7 = 0) ∧ 1000 < 311 - x_0.1 ∧ False) ∨ ∃ y_7 : Nat × List Nat, Lf (1 ≤ y_7.1 ∧ y_7.1 ≤ 310 ∧ y_7.2 = prK y_7.1) ∧ 311 - y_7.1 < 311 - x_0.1 ∧ cells6M x_0.2 =
 cells6M y_7.2 ∧ eqqQ (AV.int .i64 64) ∧ AV.sl 0 x_0.2.length 0 x_0.2.length 1 = AV.sl 0 y_7.2.length 0 y_7.2.length 1 ∧ AV.int .i64 n_6 = AV.int .i64 ((y_7.1 + 2 : Nat) : Int) ∧ True)) else Q (.ret (.sl 0 x_0.2.length 0 x_0.2.length 1))
 [Blk.mk BK.grow true (cells6M x_0.2)] {})) := by kernel_rfl

end Go.Proofs.YtifjpcdpmimccaaGreatDoor

set_option linter.unusedSimpArgs false
set_option linter.unusedVariables false
set_option linter.unusedSectionVars false
namespace Go.Proofs.YtifjpcdpmimccaaGreatDoor
open Go.RowKit
set_option maxRecDepth 1000000

theorem c6_len (l : List Nat) : (cells6M l).length = l.length := by rw [cells6M, List.length_map]
theorem c6_app (l r : List Nat) : cells6M l ++ cells6M r = cells6M (l ++ r) := by rw [cells6M, cells6M, cells6M, List.map_append]
theorem c6_snoc (l : List Nat) (x : Nat) : cells6M l ++ [AV.int .i64 (x : Int)] = cells6M (l ++ [x]) := c6_app l [x]
theorem eq_c6 : ∀ l : List Nat, eqAVL (cells6M l) (cells6M l) = true
  | [] => rfl
  | x :: l => by
    have := eq_c6 l
    rw [cells6M] at this
    simp [cells6M, eqAVL, eqAV, this]
theorem c6_sub (l : List Nat) (k n : Nat) : List.take n (List.drop k (cells6M l)) = cells6M (List.take n (List.drop k l)) := by
  rw [cells6M, cells6M, List.map_take, List.map_drop]
theorem ws_c6 : ∀ l : List Nat, wsM (cells6M l) = l
  | [] => rfl
  | x :: l => by
    have := ws_c6 l
    rw [wsM, cells6M, List.map_cons, List.map_cons]
    rw [wsM, cells6M] at this
    rw [this]
    rfl
theorem ld6B {w : List Nat} {n : Int} {j : Nat} (hn : n = j) (hj : j < w.length) {K : Int → Prop} (h : K (w.getD j 0 : Nat)) :
    ∃ m, List.getD (List.take 1 (List.drop (0 + n.toNat * 1) (cells6M w))) 0 AV.undef = AV.int .i64 m ∧ K m := by
  refine ⟨_, ?_, h⟩
  subst hn
  rw [show 0 + (j : Int).toNat * 1 = j by omega, List.getD_eq_getElem?_getD, List.getElem?_take_of_lt (by omega), List.getElem?_drop, cells6M, List.getElem?_map, Nat.add_zero, List.getElem?_eq_getElem hj]
  rw [List.getD_eq_getElem?_getD, List.getElem?_eq_getElem hj]
  rfl
theorem ld6 {w : List Nat} {n : Int} {j m : Nat} (hm : m = w.length) (hn : n = j) (hj : j < w.length) {K : Int → Prop} (h : K (w.getD j 0 : Nat)) :
    bif ((decide (0 ≤ n) && Nat.blt n.toNat m) && Nat.beq (cells6M w).length m) && true then (bif Nat.beq (cells6M w).length m && Nat.blt (0 + n.toNat * 1) m then (∃ m, List.getD (List.take 1 (List.drop (0 + n.toNat * 1) (cells6M w))) 0 AV.undef = AV.int .i64 m ∧ K m) else False) else False := by
  subst hm
  refine ckI (by rw [c6_len]; simp; omega) (ckI (by rw [c6_len]; simp; omega) (ld6B hn hj h))
theorem pr_mono : ∀ {a b : Nat}, a ≤ b → (prK a).length ≤ (prK b).length
  | a, 0, h => by rw [show a = 0 by omega]; exact Nat.le_refl _
  | a, b + 1, h => by
    rcases Nat.lt_or_ge a (b + 1) with g | g
    · refine Nat.le_trans (pr_mono (show a ≤ b by omega)) ?_
      rw [prK]
      split
      · rw [List.length_append]; omega
      · exact Nat.le_refl _
    · rw [show a = b + 1 by omega]; exact Nat.le_refl _
def primL : List Nat := [2, 3, 5, 7, 11, 13, 17, 19, 23, 29, 31, 37, 41, 43, 47, 53, 59, 61, 67, 71, 73, 79, 83, 89, 97, 101, 103, 107, 109, 113, 127, 131, 137, 139, 149, 151, 157, 163, 167, 173, 179, 181, 191, 193, 197, 199, 211, 223, 227, 229, 233, 239, 241, 251, 257, 263, 269, 271, 277, 281, 283, 293, 307, 311]
theorem pr310 : prK 310 = primL := by decide +kernel
theorem pr309 : (prK 309).length = 63 := by decide +kernel
theorem pr_two : ∀ c : Nat, ∀ q ∈ prK c, 2 ≤ q
  | 0, q, h => by cases h
  | c + 1, q, h => by
    rw [prK] at h
    split at h
    · rw [List.mem_append, List.mem_singleton] at h
      rcases h with h | rfl
      · exact pr_two c q h
      · omega
    · exact pr_two c q h
theorem all_succ {l : List Nat} {p i : Nat} (hi : i < l.length) : allP l p (i + 1) = (allP l p i && (p % l.getD i 0 != 0)) := by
  rw [allP, List.take_add_one, List.getElem?_eq_getElem hi, List.all_append, List.getD_eq_getElem?_getD, List.getElem?_eq_getElem hi]
  simp [allP]
theorem primes_run (Q : Out → List Blk → Gh → Prop) (hq : Q (.ret (.sl 0 64 0 64 1)) [⟨.grow, true, cells6M primL⟩] {}) : ∃ hv hb, goal_87 hv hb Q := by
  obtain ⟨hv', hb', e'⟩ : ∃ hv hb, goal_87 hv hb Q = _ := ⟨_, _, vc_87 Q⟩
  refine ⟨hv', hb', e'.mpr ?_⟩
  clear e'
  refine ⟨.inl ⟨0, ⟨rfl⟩, rfl, rfl, rfl, trivial⟩, ?_, ?_⟩
  · rintro _ ⟨rfl⟩
    refine ⟨_, rfl, splitD (fun _ => ⟨⟨0, ⟨rfl⟩, rfl, rfl, rfl, rfl, rfl, trivial⟩, ?_⟩) (fun h => absurd (show (0 : Int) < 64 by decide) h)⟩
    rintro _ ⟨rfl⟩
    refine ⟨_, rfl, _, rfl, splitD (fun h => absurd h (by decide)) (fun _ => ⟨_, rfl, _, rfl, wrapI (by decide) (by decide) ⟨⟨trivial, rfl⟩, .inr ⟨(1, [2]), ⟨Nat.le_refl _, by decide, by decide⟩, by decide, rfl, rfl, rfl, rfl, trivial⟩⟩⟩)⟩
  rintro ⟨c, l⟩ ⟨h1, h2, h3⟩
  dsimp only at h1 h2 h3
  dsimp only
  have hl : (cells6M l).length = l.length := c6_len l
  refine ckI (by rw [hl, nbeq]) ⟨_, rfl, splitD (fun h4 => ?_) (fun h4 => ?_)⟩
  · have hc : c < 310 := by
      rcases Nat.lt_or_ge c 310 with g | g
      · exact g
      · rw [show c = 310 by omega, pr310] at h3
        rw [h3] at h4
        exact absurd h4 (by decide)
    have el : l = prK c := h3
    rw [ws_c6, Int.toNat_natCast]
    refine ⟨⟨(0, true), ⟨Nat.zero_le _, by simp [allP]⟩, rfl, rfl, rfl, rfl, rfl, rfl, trivial⟩, ?_⟩
    rintro ⟨i, b⟩ ⟨h5, h6⟩
    dsimp only at h5 h6
    dsimp only
    refine ⟨_, rfl, ckI (by rw [hl, nbeq]) ⟨_, rfl, splitD (fun h7 => ?_) (fun h7 => ?_)⟩⟩
    · have hi : i < l.length := by omega
      have hq2 : 2 ≤ l.getD i 0 := by
        rw [List.getD_eq_getElem?_getD, List.getElem?_eq_getElem hi]
        exact pr_two c _ (by rw [← el]; exact List.getElem_mem hi)
      have ha := all_succ (l := l) (p := c + 2) hi
      refine ⟨_, rfl, _, rfl, ld6 rfl rfl hi ?_⟩
      generalize l.getD i 0 = q at hq2 ha
      have tm : Int.tmod ((c + 2 : Nat) : Int) (q : Int) = (((c + 2) % q : Nat) : Int) := by rw [Int.tmod_eq_emod_of_nonneg (by omega)]; exact (Int.natCast_emod _ _).symm
      refine ckI (by rw [Bool.and_true, bne_iff_ne]; omega) ⟨_, congrArg _ tm, splitE (fun h8 => ?_) (fun h8 => ?_)⟩
      · have h9 : (c + 2) % q = 0 := by omega
        exact ⟨_, rfl, wrapI (by omega) (by omega) ⟨⟨trivial, rfl⟩, (i + 1, false), ⟨hi, by rw [ha, h9]; simp⟩, by show l.length - (i + 1) < l.length - i; omega, rfl, rfl, rfl, rfl, rfl, rfl, trivial⟩⟩
      · have h9 : (c + 2) % q ≠ 0 := by omega
        exact ⟨_, rfl, wrapI (by omega) (by omega) ⟨⟨trivial, rfl⟩, (i + 1, b), ⟨hi, by show b = _; rw [ha, h6]; simp [h9]⟩, by show l.length - (i + 1) < l.length - i; omega, rfl, rfl, rfl, rfl, rfl, rfl, trivial⟩⟩
    · have hi : i = l.length := by omega
      subst hi
      cases hb : b with
      | true =>
        have hp : prK (c + 1) = l ++ [c + 2] := by rw [prK, ← el, ← h6, hb]; rfl
        refine ⟨_, rfl, ckI (by rw [hl]; simp; omega) ⟨_, rfl, wrapI (by omega) (by omega) ⟨⟨trivial, rfl⟩, .inr ⟨(c + 1, l ++ [c + 2]), ⟨by show 1 ≤ c + 1; omega, hc, hp.symm⟩, by show 311 - (c + 1) < 311 - c; omega, c6_snoc l (c + 2), rfl, by rw [List.length_append]; rfl, congrArg _ (by show ((c + 2 : Nat) : Int) + 1 = ((c + 1 + 2 : Nat) : Int); omega), trivial⟩⟩⟩⟩
      | false =>
        have hp : prK (c + 1) = l := by rw [prK, ← el, ← h6, hb]; rfl
        refine ⟨_, rfl, wrapI (by omega) (by omega) ⟨⟨trivial, rfl⟩, .inr ⟨(c + 1, l), ⟨by show 1 ≤ c + 1; omega, hc, hp.symm⟩, by show 311 - (c + 1) < 311 - c; omega, rfl, rfl, rfl, congrArg _ (by show ((c + 2 : Nat) : Int) + 1 = ((c + 1 + 2 : Nat) : Int); omega), trivial⟩⟩⟩
  · have hc : c = 310 := by
      rcases Nat.lt_or_ge c 310 with g | g
      · have := pr_mono (show c ≤ 309 by omega)
        rw [pr309, ← h3] at this
        omega
      · omega
    rw [hc, pr310] at h3
    rw [h3]
    exact hq
def cPrim : Con
  | [.int .i64 n], H, K => Lf (n = 64) ∧ K (.ret (.lst 0 (cells6M primL) 64 1)) H
  | _, _, _ => False
theorem prim_ok : ValidF Tryz.prog gl0 87 cPrim := by
  refine valid_frz (enters_of (by kernel_rfl)) gl0_noY 9 id (fun a => wk_refl a) fun args H Q hc => ?_
  unfold cPrim at hc
  split at hc
  · obtain ⟨⟨rfl⟩, hq⟩ := hc
    obtain ⟨hv, hb', h⟩ := primes_run (Q := fun o H' _ => ∃ v, o = .ret v ∧ Q (.ret (id (frzV 0 H' 9 v))) H) ⟨_, rfl, hq⟩
    exact ⟨rfl, rfl, _, 1000, envFor18h sm0_ok _ _ _ _, rfl, h⟩
  · exact hc.elim
abbrev cel6 (v : W8) : List AV := [.int .i64 (v.a : Int), .int .i64 (v.b : Int), .int .i64 (v.c : Int), .int .i64 (v.d : Int), .int .i64 (v.e : Int), .int .i64 (v.f : Int), .int .i64 (v.g : Int), .int .i64 (v.h : Int)]
end Go.Proofs.YtifjpcdpmimccaaGreatDoor

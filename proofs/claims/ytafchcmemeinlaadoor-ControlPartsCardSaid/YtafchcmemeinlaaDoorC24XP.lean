/-
  Chapter 24: read, of the numbers of a Nack.
-/
import Derived.Test.YtafchcmemeinlaaDoorC24XO
set_option linter.unusedSimpArgs false
set_option linter.unusedVariables false
set_option linter.unusedSectionVars false
namespace Go.Proofs.YtafchcmemeinlaaDoor
open Go.RowKit
set_option maxRecDepth 1000000

def mbM (base mask : Int) : Nat → List Int
 | 0 => []
 | k + 1 => mbM base mask k ++ (if mask / 2 ^ k % 2 = 1 then [(base + 1 + (k : Int)) % 65536] else [])
def nkRdM : Nat → List UInt8 → Bool → List Int × List UInt8 × Bool
 | 0, l, b => ([], l, b)
 | n + 1, l, b => if l.length > 0 ∧ b = false then
   (((tkM 2 l b).1 :: mbM (tkM 2 l b).1 (tkM 2 (tkM 2 l b).2.1 (tkM 2 l b).2.2).1 16) ++ (nkRdM n (tkM 2 (tkM 2 l b).2.1 (tkM 2 l b).2.2).2.1 (tkM 2 (tkM 2 l b).2.1 (tkM 2 l b).2.2).2.2).1, (nkRdM n (tkM 2 (tkM 2 l b).2.1 (tkM 2 l b).2.2).2.1 (tkM 2 (tkM 2 l b).2.1 (tkM 2 l b).2.2).2.2).2)
  else ([], l, b)
def ngoM (l0 : List UInt8) (b0 : Bool) (acc : List Int) (l : List UInt8) (b : Bool) : Prop := acc.length + 17 * l.length ≤ 17 * l0.length ∧ ∃ f, l.length ≤ f ∧ nkRdM l0.length l0 b0 = (acc ++ (nkRdM f l b).1, (nkRdM f l b).2)
def inv_60 (s : S) : List (List LInv) := match s.hp with
 | [⟨_, _, z⟩, ⟨_, _, [c0, c1, c2, c3, c4, c5, c6, c7, c8, _, c10, c11, c12, .str l0, .bool b0]⟩] => [[
  { α := Nat, pre := fun i => Lf (i = 0), st := fun i => ⟨mkT [(0, .ptr 1 15 0)], s.hp⟩, mu := fun i => l0.length + 1 },
  { α := List Int × List UInt8 × Bool, pre := fun x => Lf (1 ≤ x.1.length ∧ ngoM l0 b0 x.1 x.2.1 x.2.2), st := fun x => ⟨mkT [(0, .ptr 1 15 0)], [⟨.exact, true, z⟩, ⟨.exact, false, [c0, c1, c2, c3, c4, c5, c6, c7, c8, .sl 2 x.1.length 0 x.1.length 1, c10, c11, c12, .str x.2.1, .bool x.2.2]⟩, ⟨.grow, true, cellsI x.1⟩]⟩, mu := fun x => x.2.1.length }]]
 | _ => []
def inv_60i (s : S) : List (List LInv) := match s.tm.get 2, s.tm.get 3, s.hp with
 | .int _ base, .int _ mask, [⟨_, _, z⟩, ⟨_, _, [c0, c1, c2, c3, c4, c5, c6, c7, c8, .sl _ tot _ _ _, c10, c11, c12, .str l0, .bool b0]⟩, ⟨_, _, g⟩] => [[
  { α := Nat, pre := fun i => Lf (i ≤ 16), st := fun i => ⟨mkT [(0, .ptr 1 15 0), (2, .int .i64 base), (3, .int .i64 mask), (34, .int .i64 (i : Nat))], [⟨.exact, true, z⟩, ⟨.exact, false, [c0, c1, c2, c3, c4, c5, c6, c7, c8, .sl 2 (tot + (mbM base mask i).length) 0 (tot + (mbM base mask i).length) 1, c10, c11, c12, .str l0, .bool b0]⟩, ⟨.grow, true, g ++ cellsI (mbM base mask i)⟩]⟩, mu := fun i => 16 - i }]]
 | _, _, _ => []
noncomputable def env_38e (hv : Nat → Option Pa) (hb : Nat → Option Bool) : Env := e24 sm38 (fun i => bif Nat.beq i 60000 then some inv_60 else bif Nat.beq i 60002 then some inv_60i else none) hv hb
noncomputable def goal_38e (hv : Nat → Option Pa) (hb : Nat → Option Bool) (s : List UInt8) (Q : Out → List Blk → Gh → Prop) : Prop :=
 callx (env_38e hv hb) (wpx (env_38e hv hb) 1000) 38 [.int .i64 205, .int .i64 1, .str s] [] {} Q
def vc_38e_1 : Prop := (
((((AV.int .i64 (0 : Int)) :: ((AV.int .i64 (0 : Int)) :: ((AV.int .i64 (0 : Int)) :: ((AV.int .i64 (0 : Int)) :: ((AV.int .i64 (0 : Int)) :: ((AV.int .i64 (0 : Int)) :: ((AV.int .i64 (0 : Int)) :: ((AV.int .i64 (0 : Int)) :: (AV.nils :: (AV.nils :: ((AV.int .i64 (0 : Int)) :: ((AV.int .i64 (0 : Int)) :: (AV.nils :: []))))))))))))) = ((AV.int .i64 (0 : Int)) :: ((AV.int .i64 (0 : Int)) :: ((AV.int .i64 (0 : Int)) :: ((AV.int .i64 (0 : Int)) :: ((AV.int .i64 (0 : Int)) :: ((AV.int .i64 (0 : Int)) :: ((AV.int .i64 (0 : Int)) :: ((AV.int .i64 (0 : Int)) :: (AV.nils :: (AV.nils :: ((AV.int .i64 (0 : Int)) :: ((AV.int .i64 (0 : Int)) :: (AV.nils :: [])))))))))))))) ∧
 False))
abbrev q4XP_38e_0 (x_6 : List Int × List UInt8 × Bool) (Q : Out → List Blk → Gh → Prop) (n_0 : Int) (n_3 : Int) : Prop :=
bif x_6.2.2 then Q (.ret (.tup [.agg [.int .i64 4, .int .i64 n_0, .int .i64 n_3, .int .i64 0, .int .i64 0, .int .i64 0, .int .i64 0, .int .i64 0, .nils, .sl 2 x_6.1.length 0 x_6.1.length 1, .int .i64 0, .int .i64 0, .nils], .bool false]))
 [Blk.mk BK.exact false [.int .i64 4, .int .i64 n_0, .int .i64 n_3, .int .i64 0, .int .i64 0, .int .i64 0, .int .i64 0, .int .i64 0, .nils, .sl 2 x_6.1.length 0 x_6.1.length 1, .int .i64 0, .int .i64 0, .nils], Blk.mk BK.exact false [.int
 .i64 4, .int .i64 n_0, .int .i64 n_3, .int .i64 0, .int .i64 0, .int .i64 0, .int .i64 0, .int .i64 0, .nils, .sl 2 x_6.1.length 0 x_6.1.length 1, .int .i64 0, .int .i64 0, .nils, .str x_6.2.1, .bool x_6.2.2], Blk.mk BK.grow true (cellsI
 x_6.1)] {} else bif eqB x_6.2.1 [] then ckQ (eqAVL [.str x_6.2.1] [.str x_6.2.1] && true) (Q (.ret (.tup [.agg [.int .i64 4, .int .i64 n_0, .int .i64 n_3, .int .i64 0, .int .i64 0, .int .i64 0, .int .i64 0, .int .i64 0, .nils, .sl 2
 x_6.1.length 0 x_6.1.length 1, .int .i64 0, .int .i64 0, .nils], .bool true])) [Blk.mk BK.exact false [.int .i64 4, .int .i64 n_0, .int .i64 n_3, .int .i64 0, .int .i64 0, .int .i64 0, .int .i64 0, .int .i64 0, .nils, .sl 2 x_6.1.length 0
 x_6.1.length 1, .int .i64 0, .int .i64 0, .nils], Blk.mk BK.exact false [.int .i64 4, .int .i64 n_0, .int .i64 n_3, .int .i64 0, .int .i64 0, .int .i64 0, .int .i64 0, .int .i64 0, .nils, .sl 2 x_6.1.length 0 x_6.1.length 1, .int .i64 0,
 .int .i64 0, .nils, .str x_6.2.1, .bool x_6.2.2], Blk.mk BK.grow true (cellsI x_6.1)] {}) else ckQ (eqAVL [.str x_6.2.1] [.str x_6.2.1] && true) (Q (.ret (.tup [.agg [.int .i64 4, .int .i64 n_0, .int .i64 n_3, .int .i64 0, .int .i64 0,
 .int .i64 0, .int .i64 0, .int .i64 0, .nils, .sl 2 x_6.1.length 0 x_6.1.length 1, .int .i64 0, .int .i64 0, .nils], .bool false])) [Blk.mk BK.exact false [.int .i64 4, .int .i64 n_0, .int .i64 n_3, .int .i64 0, .int .i64 0, .int .i64 0,
 .int .i64 0, .int .i64 0, .nils, .sl 2 x_6.1.length 0 x_6.1.length 1, .int .i64 0, .int .i64 0, .nils], Blk.mk BK.exact false [.int .i64 4, .int .i64 n_0, .int .i64 n_3, .int .i64 0, .int .i64 0, .int .i64 0, .int .i64 0, .int .i64 0,
 .nils, .sl 2 x_6.1.length 0 x_6.1.length 1, .int .i64 0, .int .i64 0, .nils, .str x_6.2.1, .bool x_6.2.2], Blk.mk BK.grow true (cellsI x_6.1)] {})
abbrev q4XP_38e_1 (b'_5 : Bool) (Q : Out → List Blk → Gh → Prop) (n_0 : Int) (n_3 : Int) (l'_4 : List UInt8) : Prop :=
bif b'_5 then Q (.ret (.tup [.agg [.int .i64 4, .int .i64 n_0, .int .i64 n_3, .int .i64 0, .int .i64 0, .int .i64 0, .int .i64 0, .int .i64 0, .nils, .nils, .int .i64 0, .int .i64 0, .nils], .bool false])) [] {} else bif eqB l'_4 [] then
 ckQ (eqAVL [.str l'_4] [.str l'_4] && true) (Q (.ret (.tup [.agg [.int .i64 4, .int .i64 n_0, .int .i64 n_3, .int .i64 0, .int .i64 0, .int .i64 0, .int .i64 0, .int .i64 0, .nils, .nils, .int .i64 0, .int .i64 0, .nils], .bool true])) []
 {}) else ckQ (eqAVL [.str l'_4] [.str l'_4] && true) (Q (.ret (.tup [.agg [.int .i64 4, .int .i64 n_0, .int .i64 n_3, .int .i64 0, .int .i64 0, .int .i64 0, .int .i64 0, .int .i64 0, .nils, .nils, .int .i64 0, .int .i64 0, .nils], .bool
 false])) [] {})
abbrev q4XP_38e_2 (n_0 : Int) (n_3 : Int) (l'_4 : List UInt8) (b'_5 : Bool) : Prop :=
Lf ((0 : Int) ≤ (2 : Int) ∧ (2 : Int) ≤ (4 : Int) ∧ okH [Blk.mk BK.exact true [.int .i64 0, .int .i64 0, .int .i64 0, .int .i64 0, .int .i64 0, .int .i64 0, .int .i64 0, .int .i64 0, .nils, .nils, .int .i64 0, .int .i64 0, .nils], Blk.mk
 BK.exact true [.int .i64 4, .int .i64 n_0, .int .i64 n_3, .int .i64 0, .int .i64 0, .int .i64 0, .int .i64 0, .int .i64 0, .nils, .nils, .int .i64 0, .int .i64 0, .nils, .str l'_4, .bool b'_5]])
theorem vc_38e (s : List UInt8) (Q : Out → List Blk → Gh → Prop) : goal_38e (lookV [(245769, .int .i64), (245799, .int .i64), (245800, .int .i64), (245809, .int .i64), (245811, .int .i64), (245812, .int .i64), (245818, .int .i64)]) (lookB
 []) s Q = (Lf ((0 : Int) ≤ (4 : Int) ∧ (4 : Int) ≤ (4 : Int) ∧ okH [Blk.mk BK.exact true [.int .i64 0, .int .i64 0, .int .i64 0, .int .i64 0, .int .i64 0, .int .i64 0, .int .i64 0, .int .i64 0, .nils, .nils, .int .i64 0, .int .i64 0,
 .nils], Blk.mk BK.exact true [.int .i64 0, .int .i64 0, .int .i64 0, .int .i64 0, .int .i64 0, .int .i64 0, .int .i64 0, .int .i64 0, .nils, .nils, .int .i64 0, .int .i64 0, .nils, .str s, .bool false]]) ∧ ∀ n_0 : Int, ∀ l'_1 : List UInt8,
 ∀ b'_2 : Bool, Lf (tkM (Int.toNat 4) s false = Prod.mk n_0 (Prod.mk l'_1 b'_2)) → Lf ((0 : Int) ≤ (4 : Int) ∧ (4 : Int) ≤ (4 : Int) ∧ okH [Blk.mk BK.exact true [.int .i64 0, .int .i64 0, .int .i64 0, .int .i64 0, .int .i64 0, .int .i64 0,
 .int .i64 0, .int .i64 0, .nils, .nils, .int .i64 0, .int .i64 0, .nils], Blk.mk BK.exact true [.int .i64 0, .int .i64 n_0, .int .i64 0, .int .i64 0, .int .i64 0, .int .i64 0, .int .i64 0, .int .i64 0, .nils, .nils, .int .i64 0, .int .i64
 0, .nils, .str l'_1, .bool b'_2]]) ∧ ∀ n_3 : Int, ∀ l'_4 : List UInt8, ∀ b'_5 : Bool, Lf (tkM (Int.toNat 4) l'_1 b'_2 = Prod.mk n_3 (Prod.mk l'_4 b'_5)) → ((∃ x_6 : Nat, Lf (x_6 = 0) ∧ eqqQ [AV.int .i64 0, .int .i64 0, .int .i64 0, .int
 .i64 0, .int .i64 0, .int .i64 0, .int .i64 0, .int .i64 0, .nils, .nils, .int .i64 0, .int .i64 0, .nils] ∧ eqqQ [AV.int .i64 4, .int .i64 n_0, .int .i64 n_3, .int .i64 0, .int .i64 0, .int .i64 0, .int .i64 0, .int .i64 0, .nils, .nils,
 .int .i64 0, .int .i64 0, .nils, .str l'_4, .bool b'_5] ∧ eqqQ (AV.ptr 1 15 0) ∧ True) ∨ ∃ x_6 : List Int × List UInt8 × Bool, Lf (1 ≤ x_6.1.length ∧ ngoM l'_4 b'_5 x_6.1 x_6.2.1 x_6.2.2) ∧ vc_38e_1) ∧ (∀ x_6 : Nat, Lf (x_6 = 0) → exI .i64
 (l'_4.length : Int) (fun n_7 => bif decide (n_7 > 0) then bif b'_5 then q4XP_38e_1 b'_5 Q n_0 n_3 l'_4 else q4XP_38e_2 n_0 n_3 l'_4 b'_5 ∧ ∀ n_8 : Int, ∀ l'_9 : List UInt8, ∀ b'_10 : Bool, Lf (tkM (Int.toNat 2) l'_4 b'_5 = Prod.mk n_8
 (Prod.mk l'_9 b'_10)) → q4XP_38e_2 n_0 n_3 l'_9 b'_10 ∧ ∀ n_11 : Int, ∀ l'_12 : List UInt8, ∀ b'_13 : Bool, Lf (tkM (Int.toNat 2) l'_9 b'_10 = Prod.mk n_11 (Prod.mk l'_12 b'_13)) → (∃ x_14 : Nat, Lf (x_14 ≤ 16) ∧ eqqQ [AV.int .i64 0, .int
 .i64 0, .int .i64 0, .int .i64 0, .int .i64 0, .int .i64 0, .int .i64 0, .int .i64 0, .nils, .nils, .int .i64 0, .int .i64 0, .nils] ∧ [AV.int .i64 4, .int .i64 n_0, .int .i64 n_3, .int .i64 0, .int .i64 0, .int .i64 0, .int .i64 0, .int
 .i64 0, .nils, .sl 2 1 0 1 1, .int .i64 0, .int .i64 0, .nils, .str l'_12, .bool b'_13] = [AV.int .i64 4, .int .i64 n_0, .int .i64 n_3, .int .i64 0, .int .i64 0, .int .i64 0, .int .i64 0, .int .i64 0, .nils, .sl 2 (1 + (mbM n_8 n_11
 x_14).length) 0 (1 + (mbM n_8 n_11 x_14).length) 1, .int .i64 0, .int .i64 0, .nils, .str l'_12, .bool b'_13] ∧ [AV.int .i64 n_8] = [AV.int .i64 n_8] ++ cellsI (mbM n_8 n_11 x_14) ∧ eqqQ (AV.ptr 1 15 0) ∧ eqqQ (AV.int .i64 n_11) ∧ eqqQ
 (AV.int .i64 n_8) ∧ AV.int .i64 0 = AV.int .i64 (x_14 : Int) ∧ True) ∧ ∀ x_14 : Nat, Lf (x_14 ≤ 16) → bif decide ((x_14 : Int) < 16) then exI .i64 (Int.fdiv n_11 ((2 : Int) ^ Min.min (x_14 : Int).toNat 64)) (fun n_15 => exW .i64 (((n_15 %
 18446744073709551616).toNat &&& 1 : Nat) : Int) (fun n_16 => bif n_16 == 1 then exW .i64 (n_8 + 1) (fun n_17 => exW .i64 (n_17 + (x_14 : Int)) (fun n_18 => exW .i64 (((n_18 % 18446744073709551616).toNat &&& 65535 : Nat) : Int) (fun n_19 =>
 ckQ (Nat.beq ([AV.int .i64 n_8] ++ cellsI (mbM n_8 n_11 x_14)).length (1 + (mbM n_8 n_11 x_14).length) && true && Nat.beq (0 + (1 + (mbM n_8 n_11 x_14).length) * 1) (1 + (mbM n_8 n_11 x_14).length) && Nat.ble (1 + (mbM n_8 n_11
 x_14).length + 1) 1099511627776 && Nat.ble ((1 + (mbM n_8 n_11 x_14).length + 1) * 8) 1099511627776) (exW .i64 ((x_14 : Int) + 1) (fun n_20 => (True ∧ (0 : Nat) = (0 : Nat)) ∧ ∃ y_21 : Nat, Lf (y_21 ≤ 16) ∧ 16 - y_21 < 16 - x_14 ∧ eqqQ
 [AV.int .i64 0, .int .i64 0, .int .i64 0, .int .i64 0, .int .i64 0, .int .i64 0, .int .i64 0, .int .i64 0, .nils, .nils, .int .i64 0, .int .i64 0, .nils] ∧ [AV.int .i64 4, .int .i64 n_0, .int .i64 n_3, .int .i64 0, .int .i64 0, .int .i64
 0, .int .i64 0, .int .i64 0, .nils, .sl 2 (1 + (mbM n_8 n_11 x_14).length + 1) 0 (1 + (mbM n_8 n_11 x_14).length + 1) 1, .int .i64 0, .int .i64 0, .nils, .str l'_12, .bool b'_13] = [AV.int .i64 4, .int .i64 n_0, .int .i64 n_3, .int .i64 0,
 .int .i64 0, .int .i64 0, .int .i64 0, .int .i64 0, .nils, .sl 2 (1 + (mbM n_8 n_11 y_21).length) 0 (1 + (mbM n_8 n_11 y_21).length) 1, .int .i64 0, .int .i64 0, .nils, .str l'_12, .bool b'_13] ∧ [AV.int .i64 n_8] ++ cellsI (mbM n_8 n_11
 x_14) ++ [AV.int .i64 n_19] = [AV.int .i64 n_8] ++ cellsI (mbM n_8 n_11 y_21) ∧ eqqQ (AV.ptr 1 15 0) ∧ eqqQ (AV.int .i64 n_11) ∧ eqqQ (AV.int .i64 n_8) ∧ AV.int .i64 n_20 = AV.int .i64 (y_21 : Int) ∧ True))))) else exW .i64 ((x_14 : Int) +
 1) (fun n_17 => (True ∧ (0 : Nat) = (0 : Nat)) ∧ ∃ y_18 : Nat, Lf (y_18 ≤ 16) ∧ 16 - y_18 < 16 - x_14 ∧ eqqQ [AV.int .i64 0, .int .i64 0, .int .i64 0, .int .i64 0, .int .i64 0, .int .i64 0, .int .i64 0, .int .i64 0, .nils, .nils, .int .i64
 0, .int .i64 0, .nils] ∧ [AV.int .i64 4, .int .i64 n_0, .int .i64 n_3, .int .i64 0, .int .i64 0, .int .i64 0, .int .i64 0, .int .i64 0, .nils, .sl 2 (1 + (mbM n_8 n_11 x_14).length) 0 (1 + (mbM n_8 n_11 x_14).length) 1, .int .i64 0, .int
 .i64 0, .nils, .str l'_12, .bool b'_13] = [AV.int .i64 4, .int .i64 n_0, .int .i64 n_3, .int .i64 0, .int .i64 0, .int .i64 0, .int .i64 0, .int .i64 0, .nils, .sl 2 (1 + (mbM n_8 n_11 y_18).length) 0 (1 + (mbM n_8 n_11 y_18).length) 1,
 .int .i64 0, .int .i64 0, .nils, .str l'_12, .bool b'_13] ∧ [AV.int .i64 n_8] ++ cellsI (mbM n_8 n_11 x_14) = [AV.int .i64 n_8] ++ cellsI (mbM n_8 n_11 y_18) ∧ eqqQ (AV.ptr 1 15 0) ∧ eqqQ (AV.int .i64 n_11) ∧ eqqQ (AV.int .i64 n_8) ∧
 AV.int .i64 n_17 = AV.int .i64 (y_18 : Int) ∧ True))) else (True ∧ (0 : Nat) = (0 : Nat)) ∧ ((∃ y_15 : Nat, Lf (y_15 = 0) ∧ l'_4.length + 1 < l'_4.length + 1 ∧ vc_38e_1) ∨ ∃ y_15 : List Int × List UInt8 × Bool, Lf (1 ≤ y_15.1.length ∧ ngoM
 l'_4 b'_5 y_15.1 y_15.2.1 y_15.2.2) ∧ y_15.2.1.length < l'_4.length + 1 ∧ eqqQ [AV.int .i64 0, .int .i64 0, .int .i64 0, .int .i64 0, .int .i64 0, .int .i64 0, .int .i64 0, .int .i64 0, .nils, .nils, .int .i64 0, .int .i64 0, .nils] ∧
 [AV.int .i64 4, .int .i64 n_0, .int .i64 n_3, .int .i64 0, .int .i64 0, .int .i64 0, .int .i64 0, .int .i64 0, .nils, .sl 2 (1 + (mbM n_8 n_11 x_14).length) 0 (1 + (mbM n_8 n_11 x_14).length) 1, .int .i64 0, .int .i64 0, .nils, .str l'_12,
 .bool b'_13] = [AV.int .i64 4, .int .i64 n_0, .int .i64 n_3, .int .i64 0, .int .i64 0, .int .i64 0, .int .i64 0, .int .i64 0, .nils, .sl 2 y_15.1.length 0 y_15.1.length 1, .int .i64 0, .int .i64 0, .nils, .str y_15.2.1, .bool y_15.2.2] ∧
 [AV.int .i64 n_8] ++ cellsI (mbM n_8 n_11 x_14) = cellsI y_15.1 ∧ eqqQ (AV.ptr 1 15 0) ∧ True) else q4XP_38e_1 b'_5 Q n_0 n_3 l'_4)) ∧ ∀ x_6 : List Int × List UInt8 × Bool, Lf (1 ≤ x_6.1.length ∧ ngoM l'_4 b'_5 x_6.1 x_6.2.1 x_6.2.2) → exI
 .i64 (x_6.2.1.length : Int) (fun n_7 => bif decide (n_7 > 0) then bif x_6.2.2 then q4XP_38e_0 x_6 Q n_0 n_3 else Lf ((0 : Int) ≤ (2 : Int) ∧ (2 : Int) ≤ (4 : Int) ∧ okH [Blk.mk BK.exact true [.int .i64 0, .int .i64 0, .int .i64 0, .int
 .i64 0, .int .i64 0, .int .i64 0, .int .i64 0, .int .i64 0, .nils, .nils, .int .i64 0, .int .i64 0, .nils], Blk.mk BK.exact false [.int .i64 4, .int .i64 n_0, .int .i64 n_3, .int .i64 0, .int .i64 0, .int .i64 0, .int .i64 0, .int .i64 0,
 .nils, .sl 2 x_6.1.length 0 x_6.1.length 1, .int .i64 0, .int .i64 0, .nils, .str x_6.2.1, .bool x_6.2.2], Blk.mk BK.grow true (cellsI x_6.1)]) ∧ ∀ n_8 : Int, ∀ l'_9 : List UInt8, ∀ b'_10 : Bool, Lf (tkM (Int.toNat 2) x_6.2.1 x_6.2.2 =
 Prod.mk n_8 (Prod.mk l'_9 b'_10)) → Lf ((0 : Int) ≤ (2 : Int) ∧ (2 : Int) ≤ (4 : Int) ∧ okH [Blk.mk BK.exact true [.int .i64 0, .int .i64 0, .int .i64 0, .int .i64 0, .int .i64 0, .int .i64 0, .int .i64 0, .int .i64 0, .nils, .nils, .int
 .i64 0, .int .i64 0, .nils], Blk.mk BK.exact false [.int .i64 4, .int .i64 n_0, .int .i64 n_3, .int .i64 0, .int .i64 0, .int .i64 0, .int .i64 0, .int .i64 0, .nils, .sl 2 x_6.1.length 0 x_6.1.length 1, .int .i64 0, .int .i64 0, .nils,
 .str l'_9, .bool b'_10], Blk.mk BK.grow true (cellsI x_6.1)]) ∧ ∀ n_11 : Int, ∀ l'_12 : List UInt8, ∀ b'_13 : Bool, Lf (tkM (Int.toNat 2) l'_9 b'_10 = Prod.mk n_11 (Prod.mk l'_12 b'_13)) → ckQ (Nat.beq (cellsI x_6.1).length x_6.1.length &&
 true && Nat.beq (0 + x_6.1.length * 1) x_6.1.length && Nat.ble (x_6.1.length + 1) 1099511627776 && Nat.ble ((x_6.1.length + 1) * 8) 1099511627776) ((∃ x_14 : Nat, Lf (x_14 ≤ 16) ∧ eqqQ [AV.int .i64 0, .int .i64 0, .int .i64 0, .int .i64 0,
 .int .i64 0, .int .i64 0, .int .i64 0, .int .i64 0, .nils, .nils, .int .i64 0, .int .i64 0, .nils] ∧ [AV.int .i64 4, .int .i64 n_0, .int .i64 n_3, .int .i64 0, .int .i64 0, .int .i64 0, .int .i64 0, .int .i64 0, .nils, .sl 2 (x_6.1.length
 + 1) 0 (x_6.1.length + 1) 1, .int .i64 0, .int .i64 0, .nils, .str l'_12, .bool b'_13] = [AV.int .i64 4, .int .i64 n_0, .int .i64 n_3, .int .i64 0, .int .i64 0, .int .i64 0, .int .i64 0, .int .i64 0, .nils, .sl 2 (x_6.1.length + 1 + (mbM
 n_8 n_11 x_14).length) 0 (x_6.1.length + 1 + (mbM n_8 n_11 x_14).length) 1, .int .i64 0, .int .i64 0, .nils, .str l'_12, .bool b'_13] ∧ cellsI x_6.1 ++ [AV.int .i64 n_8] = cellsI x_6.1 ++ [AV.int .i64 n_8] ++ cellsI (mbM n_8 n_11 x_14) ∧
 eqqQ (AV.ptr 1 15 0) ∧ eqqQ (AV.int .i64 n_11) ∧ eqqQ (AV.int .i64 n_8) ∧ AV.int .i64 0 = AV.int .i64 (x_14 : Int) ∧ True) ∧ ∀ x_14 : Nat, Lf (x_14 ≤ 16) → bif decide ((x_14 : Int) < 16) then exI .i64 (Int.fdiv n_11 ((2 : Int) ^ Min.min
 (x_14 : Int).toNat 64)) (fun n_15 => exW .i64 (((n_15 % 18446744073709551616).toNat &&& 1 : Nat) : Int) (fun n_16 => bif n_16 == 1 then exW .i64 (n_8 + 1) (fun n_17 => exW .i64 (n_17 + (x_14 : Int)) (fun n_18 => exW .i64 (((n_18 %
 18446744073709551616).toNat &&& 65535 : Nat) : Int) (fun n_19 => ckQ (Nat.beq (cellsI x_6.1 ++ [AV.int .i64 n_8] ++ cellsI (mbM n_8 n_11 x_14)).length (x_6.1.length + 1 + (mbM n_8 n_11 x_14).length) && true && Nat.beq (0 + (x_6.1.length +
 1 + (mbM n_8 n_11 x_14).length) * 1) (x_6.1.length + 1 + (mbM n_8 n_11 x_14).length) && Nat.ble (x_6.1.length + 1 + (mbM n_8 n_11 x_14).length + 1) 1099511627776 && Nat.ble ((x_6.1.length + 1 + (mbM n_8 n_11 x_14).length + 1) * 8)
 1099511627776) (exW .i64 ((x_14 : Int) + 1) (fun n_20 => (True ∧ (0 : Nat) = (0 : Nat)) ∧ ∃ y_21 : Nat, Lf (y_21 ≤ 16) ∧ 16 - y_21 < 16 - x_14 ∧ eqqQ [AV.int .i64 0, .int .i64 0, .int .i64 0, .int .i64 0, .int .i64 0, .int .i64 0, .int
 .i64 0, .int .i64 0, .nils, .nils, .int .i64 0, .int .i64 0, .nils] ∧ [AV.int .i64 4, .int .i64 n_0, .int .i64 n_3, .int .i64 0, .int .i64 0, .int .i64 0, .int .i64 0, .int .i64 0, .nils, .sl 2 (x_6.1.length + 1 + (mbM n_8 n_11
 x_14).length + 1) 0 (x_6.1.length + 1 + (mbM n_8 n_11 x_14).length + 1) 1, .int .i64 0, .int .i64 0, .nils, .str l'_12, .bool b'_13] = [AV.int .i64 4, .int .i64 n_0, .int .i64 n_3, .int .i64 0, .int .i64 0, .int .i64 0, .int .i64 0, .int
 .i64 0, .nils, .sl 2 (x_6.1.length + 1 + (mbM n_8 n_11 y_21).length) 0 (x_6.1.length + 1 + (mbM n_8 n_11 y_21).length) 1, .int .i64 0, .int .i64 0, .nils, .str l'_12, .bool b'_13] ∧ cellsI x_6.1 ++ [AV.int .i64 n_8] ++ cellsI (mbM n_8 n_11
 x_14) ++ [AV.int .i64 n_19] = cellsI x_6.1 ++ [AV.int .i64 n_8] ++ cellsI (mbM n_8 n_11 y_21) ∧ eqqQ (AV.ptr 1 15 0) ∧ eqqQ (AV.int .i64 n_11) ∧ eqqQ (AV.int .i64 n_8) ∧ AV.int .i64 n_20 = AV.int .i64 (y_21 : Int) ∧ True))))) else exW .i64
 ((x_14 : Int) + 1) (fun n_17 => (True ∧ (0 : Nat) = (0 : Nat)) ∧ ∃ y_18 : Nat, Lf (y_18 ≤ 16) ∧ 16 - y_18 < 16 - x_14 ∧ eqqQ [AV.int .i64 0, .int .i64 0, .int .i64 0, .int .i64 0, .int .i64 0, .int .i64 0, .int .i64 0, .int .i64 0, .nils,
 .nils, .int .i64 0, .int .i64 0, .nils] ∧ [AV.int .i64 4, .int .i64 n_0, .int .i64 n_3, .int .i64 0, .int .i64 0, .int .i64 0, .int .i64 0, .int .i64 0, .nils, .sl 2 (x_6.1.length + 1 + (mbM n_8 n_11 x_14).length) 0 (x_6.1.length + 1 +
 (mbM n_8 n_11 x_14).length) 1, .int .i64 0, .int .i64 0, .nils, .str l'_12, .bool b'_13] = [AV.int .i64 4, .int .i64 n_0, .int .i64 n_3, .int .i64 0, .int .i64 0, .int .i64 0, .int .i64 0, .int .i64 0, .nils, .sl 2 (x_6.1.length + 1 + (mbM
 n_8 n_11 y_18).length) 0 (x_6.1.length + 1 + (mbM n_8 n_11 y_18).length) 1, .int .i64 0, .int .i64 0, .nils, .str l'_12, .bool b'_13] ∧ cellsI x_6.1 ++ [AV.int .i64 n_8] ++ cellsI (mbM n_8 n_11 x_14) = cellsI x_6.1 ++ [AV.int .i64 n_8] ++
 cellsI (mbM n_8 n_11 y_18) ∧ eqqQ (AV.ptr 1 15 0) ∧ eqqQ (AV.int .i64 n_11) ∧ eqqQ (AV.int .i64 n_8) ∧ AV.int .i64 n_17 = AV.int .i64 (y_18 : Int) ∧ True))) else (True ∧ (0 : Nat) = (0 : Nat)) ∧ ((∃ y_15 : Nat, Lf (y_15 = 0) ∧ l'_4.length
 + 1 < x_6.2.1.length ∧ vc_38e_1) ∨ ∃ y_15 : List Int × List UInt8 × Bool, Lf (1 ≤ y_15.1.length ∧ ngoM l'_4 b'_5 y_15.1 y_15.2.1 y_15.2.2) ∧ y_15.2.1.length < x_6.2.1.length ∧ eqqQ [AV.int .i64 0, .int .i64 0, .int .i64 0, .int .i64 0,
 .int .i64 0, .int .i64 0, .int .i64 0, .int .i64 0, .nils, .nils, .int .i64 0, .int .i64 0, .nils] ∧ [AV.int .i64 4, .int .i64 n_0, .int .i64 n_3, .int .i64 0, .int .i64 0, .int .i64 0, .int .i64 0, .int .i64 0, .nils, .sl 2 (x_6.1.length
 + 1 + (mbM n_8 n_11 x_14).length) 0 (x_6.1.length + 1 + (mbM n_8 n_11 x_14).length) 1, .int .i64 0, .int .i64 0, .nils, .str l'_12, .bool b'_13] = [AV.int .i64 4, .int .i64 n_0, .int .i64 n_3, .int .i64 0, .int .i64 0, .int .i64 0, .int
 .i64 0, .int .i64 0, .nils, .sl 2 y_15.1.length 0 y_15.1.length 1, .int .i64 0, .int .i64 0, .nils, .str y_15.2.1, .bool y_15.2.2] ∧ cellsI x_6.1 ++ [AV.int .i64 n_8] ++ cellsI (mbM n_8 n_11 x_14) = cellsI y_15.1 ∧ eqqQ (AV.ptr 1 15 0) ∧
 True)) else q4XP_38e_0 x_6 Q n_0 n_3)) := by kernel_rfl

theorem mb_len (x y : Int) : ∀ k, (mbM x y k).length ≤ k
 | 0 => Nat.le_refl _
 | k + 1 => by
  have := mb_len x y k
  rw [mbM, List.length_append]
  split <;> simp <;> omega
theorem tk_len {k : Nat} {l l' : List UInt8} {b b' : Bool} {n : Int} (h : tkM k l b = (n, l', b')) (hk : 1 ≤ k) : l'.length ≤ l.length ∧ (0 < l.length → l'.length < l.length) := by
 unfold tkM at h
 split at h
 ·simp only [Prod.mk.injEq] at h; obtain ⟨_, rfl, _⟩ := h; simp
 ·simp only [Prod.mk.injEq] at h; obtain ⟨_, rfl, _⟩ := h; simp; omega
theorem tk_bd2 {l l' : List UInt8} {b b' : Bool} {n : Int} (h : tkM 2 l b = (n, l', b')) : 0 ≤ n ∧ n < 65536 := by
 unfold tkM at h
 split at h
 ·simp only [Prod.mk.injEq] at h; omega
 ·simp only [Prod.mk.injEq] at h
  have h1 := num_lt (l.take 2)
  have h2 : (256 : Int) ^ (l.take 2).length ≤ 65536 := by
   have : (l.take 2).length ≤ 2 := by rw [List.length_take]; omega
   generalize (l.take 2).length = m at this
   obtain rfl | rfl | rfl : m = 0 ∨ m = 1 ∨ m = 2 := by omega
   all_goals decide
  omega
theorem nk_step {f : Nat} {l la lb : List UInt8} {b ba bb : Bool} {x y : Int} (h : l.length > 0 ∧ b = false) (e1 : tkM 2 l b = (x, la, ba)) (e2 : tkM 2 la ba = (y, lb, bb)) :
  nkRdM (f + 1) l b = ((x :: mbM x y 16) ++ (nkRdM f lb bb).1, (nkRdM f lb bb).2) := by
 rw [nkRdM, if_pos h, e1]
 simp only [e2]
theorem nk_end {f : Nat} {l : List UInt8} {b : Bool} (h : ¬ (l.length > 0 ∧ b = false)) : nkRdM f l b = ([], l, b) := by
 cases f with
 | zero => rfl
 | succ f => rw [nkRdM, if_neg h]
theorem ngo_step {l0 l la lb : List UInt8} {b0 b ba bb : Bool} {acc : List Int} {x y : Int} (g : ngoM l0 b0 acc l b) (h : l.length > 0 ∧ b = false) (e1 : tkM 2 l b = (x, la, ba)) (e2 : tkM 2 la ba = (y, lb, bb)) : ngoM l0 b0 (acc ++ (x :: mbM x y 16)) lb bb := by
 obtain ⟨g1, f, g2, g3⟩ := g
 have t1 := tk_len e1 (by omega)
 have t2 := tk_len e2 (by omega)
 have t3 := mb_len x y 16
 have t4 := t1.2 h.1
 obtain ⟨f, rfl⟩ : ∃ m, f = m + 1 := ⟨f - 1, by omega⟩
 refine ⟨by simp only [List.length_append, List.length_cons]; omega, f, by omega, ?_⟩
 rw [g3, nk_step h e1 e2]
 simp
theorem ngo_zero (l0 : List UInt8) (b0 : Bool) : ngoM l0 b0 [] l0 b0 := ⟨by simp, _, Nat.le_refl _, by simp⟩
theorem ngo_end {l0 l : List UInt8} {b0 b : Bool} {acc : List Int} (g : ngoM l0 b0 acc l b) (h : ¬ (l.length > 0 ∧ b = false)) : nkRdM l0.length l0 b0 = (acc, l, b) := by
 obtain ⟨_, f, _, g3⟩ := g
 rw [g3, nk_end h]
 simp
theorem maskBit {m : Int} {k : Nat} (hm : 0 ≤ m ∧ m < 65536) (hk : k < 16) {K : Int → Prop} (h : K (m / 2 ^ k % 2)) :
  ∃ n15, AV.int .i64 (Int.fdiv m (2 ^ min (Int.toNat (k : Int)) 64)) = AV.int .i64 n15 ∧ ∃ n16, AV.int .i64 (IntKind.wrap .i64 (((n15 % 18446744073709551616).toNat &&& 1 : Nat) : Int)) = AV.int .i64 n16 ∧ K n16 := by
 have e1 : min (Int.toNat (k : Int)) 64 = k := by omega
 have e3 : (0 : Int) ≤ 2 ^ k := Int.pow_nonneg (by decide)
 refine ⟨_, rfl, ?_⟩
 rw [e1, Int.fdiv_eq_ediv_of_nonneg _ e3]
 have h1 : 0 ≤ m / 2 ^ k := Int.ediv_nonneg hm.1 e3
 have h2 : m / 2 ^ k ≤ m := Int.ediv_le_self _ hm.1
 generalize m / 2 ^ k = q at h h1 h2 ⊢
 have e4 : (q % 18446744073709551616).toNat &&& 1 = (q % 2).toNat := by
  rw [show (1 : Nat) = 2 ^ 1 - 1 from rfl, Nat.and_two_pow_sub_one_eq_mod]
  omega
 rw [e4]
 exact wrapI (by omega) (by omega) (by rwa [show (((q % 2).toNat : Nat) : Int) = q % 2 by omega])
theorem plain_I (l : List Int) : flatL (cellsI l) := ⟨oldL_cI 0 l, (noY_cellsI l).1⟩
theorem out_I {H : List Blk} {k f a : Int} {acc : List Int} {fl : Bool} (hH : H[2]? = some ⟨.grow, true, cellsI acc⟩) :
  outM (.tup [.agg [.int .i64 k, .int .i64 f, .int .i64 a, .int .i64 0, .int .i64 0, .int .i64 0, .int .i64 0, .int .i64 0, .nils, .sl 2 acc.length 0 acc.length 1, .int .i64 0, .int .i64 0, .nils], .bool fl]) H = .tup [.agg (ctC ⟨k, f, a, 0, 0, 0, 0, 0, [], acc, 0, 0, []⟩), .bool fl] := by
 have e : frzV 0 H 7 (.sl 2 acc.length 0 acc.length 1) = .lst 0 (cellsI acc) acc.length 1 :=
  frz_sl (d := 5) hH (cellsI_len acc) (by omega) (by simp) (by rw [List.drop_zero]; exact List.take_of_length_le (by rw [cellsI_len]; omega)) (plain_cellsI acc)
 show ctK (.tup [.agg [.int .i64 k, .int .i64 f, .int .i64 a, .int .i64 0, .int .i64 0, .int .i64 0, .int .i64 0, .int .i64 0, .nils, frzV 0 H 7 (.sl 2 acc.length 0 acc.length 1), .int .i64 0, .int .i64 0, .nils], .bool fl]) = _
 rw [e]
 rfl
theorem rd_e (s : List UInt8) (hs : s.length ≤ 10000) (Q : Out → List Blk → Gh → Prop) (hq : ∀ n l b n1 l1 b1 lo l2 b2, (tkM 4 s false = (n, l, b) ∧ tkM 4 l b = (n1, l1, b1)) → nkRdM l1.length l1 b1 = (lo, l2, b2) → ∀ v H, outM v H = .tup [.agg (ctC ⟨4, n, n1, 0, 0, 0, 0, 0, [], lo, 0, 0, []⟩), .bool (finM l2 b2)] → Q (.ret v) H {}) : ∃ hv hb, goal_38e hv hb s Q := by
 obtain ⟨hv, hb', e⟩ : ∃ hv hb, goal_38e hv hb s Q = _ := ⟨_, _, vc_38e s Q⟩
 refine ⟨hv, hb', e.mpr ?_⟩
 unfold q4XP_38e_0 q4XP_38e_1 q4XP_38e_2
 clear e
 refine ⟨⟨by omega, by omega, okH_a ⟨rfl, rfl⟩ ⟨rfl, rfl⟩⟩, ?_⟩
 rintro n l b ⟨e⟩
 refine ⟨⟨by omega, by omega, okH_a ⟨rfl, rfl⟩ ⟨rfl, rfl⟩⟩, ?_⟩
 rintro n1 l1 b1 ⟨e1⟩
 refine ⟨.inl ⟨0, ⟨rfl⟩, rfl, rfl, rfl, trivial⟩, ?_, ?_⟩
 ·rintro i ⟨hi⟩
  subst hi
  refine ⟨_, rfl, splitD (fun h => splitB (fun hb => ?_) (fun hb => ?_)) (fun h => ?_)⟩
  ·refine finI (P := fun f => Q (.ret (.tup [.agg _, .bool f])) [] {}) ?_
   exact hq n l b n1 l1 b1 [] _ _ ⟨e, e1⟩ (nk_end (by simp [hb])) _ _ rfl
  ·refine ⟨⟨by omega, by omega, okH_a ⟨rfl, rfl⟩ ⟨rfl, rfl⟩⟩, ?_⟩
   rintro x la ba ⟨d1⟩
   refine ⟨⟨by omega, by omega, okH_a ⟨rfl, rfl⟩ ⟨rfl, rfl⟩⟩, ?_⟩
   rintro y lb bb ⟨d2⟩
   have hx := tk_bd2 d1
   have hy := tk_bd2 d2
   skip
   refine ⟨⟨0, ⟨by omega⟩, rfl, rfl, rfl, rfl, rfl, rfl, rfl, trivial⟩, ?_⟩
   rintro k ⟨hk⟩
   have hml := mb_len x y k
   refine splitD (fun h16 => ?_) (fun h16 => ?_)
   ·refine maskBit hy (by omega) (splitE (fun h1 => ?_) (fun h1 => ?_))
    ·have hm : mbM x y (k + 1) = mbM x y k ++ [(x + 1 + (k : Int)) % 65536] := by rw [mbM, if_pos h1]
     refine wrapI (by omega) (by omega) (wrapI (by omega) (by omega) (maskI (ckI (by simp [cellsI_len]; omega) (wrapI (by omega) (by omega) ⟨⟨trivial, rfl⟩, k + 1, ⟨by omega⟩, by omega, rfl, by rw [hm]; simp; try omega, by rw [hm]; simp [cellsI], rfl, rfl, rfl, rfl, trivial⟩))))
    ·have hm : mbM x y (k + 1) = mbM x y k := by rw [mbM, if_neg h1, List.append_nil]
     refine wrapI (by omega) (by omega) ⟨⟨trivial, rfl⟩, k + 1, ⟨by omega⟩, by omega, rfl, by rw [hm], by rw [hm], rfl, rfl, rfl, rfl, trivial⟩
   ·obtain rfl : k = 16 := by omega
    have t1 := tk_len d1 (by omega)
    have t2 := tk_len d2 (by omega)
    have t3 := t1.2 (by omega)
    refine ⟨⟨trivial, rfl⟩, .inr ⟨(x :: mbM x y 16, lb, bb), ⟨by first | (simp; done) | (simp; omega), ngo_step (ngo_zero l1 b1) ⟨by omega, hb⟩ d1 d2⟩, by dsimp only; omega, rfl, by simp; try omega, by simp [cellsI], rfl, trivial⟩⟩
  ·refine finI (P := fun f => Q (.ret (.tup [.agg _, .bool f])) [] {}) ?_
   exact hq n l b n1 l1 b1 [] _ _ ⟨e, e1⟩ (nk_end (by omega)) _ _ rfl
 ·rintro ⟨acc, l', b'⟩ ⟨g1, g2⟩
  dsimp only at g1 g2 ⊢
  have ga := g2.1
  have hl1 : l1.length ≤ s.length := Nat.le_trans (tk_len e1 (by decide)).1 (tk_len e (by decide)).1
  refine ⟨_, rfl, splitD (fun h => splitB (fun hb => ?_) (fun hb => ?_)) (fun h => ?_)⟩
  ·exact finI (P := fun f => Q (.ret (.tup [.agg _, .bool f])) _ {}) (hq n l b n1 l1 b1 acc _ _ ⟨e, e1⟩ (ngo_end g2 (by simp [hb])) _ _ (out_I rfl))
  ·refine ⟨⟨by omega, by omega, okH_c ⟨rfl, rfl⟩ ⟨rfl, rfl⟩ (plain_I _)⟩, ?_⟩
   rintro x la ba ⟨d1⟩
   refine ⟨⟨by omega, by omega, okH_c ⟨rfl, rfl⟩ ⟨rfl, rfl⟩ (plain_I _)⟩, ?_⟩
   rintro y lb bb ⟨d2⟩
   have hx := tk_bd2 d1
   have hy := tk_bd2 d2
   refine ckI (by simp [cellsI_len]; omega) ?_
   refine ⟨⟨0, ⟨by omega⟩, rfl, rfl, by simp [mbM, cellsI], rfl, rfl, rfl, rfl, trivial⟩, ?_⟩
   rintro k ⟨hk⟩
   have hml := mb_len x y k
   refine splitD (fun h16 => ?_) (fun h16 => ?_)
   ·refine maskBit hy (by omega) (splitE (fun h1 => ?_) (fun h1 => ?_))
    ·have hm : mbM x y (k + 1) = mbM x y k ++ [(x + 1 + (k : Int)) % 65536] := by rw [mbM, if_pos h1]
     refine wrapI (by omega) (by omega) (wrapI (by omega) (by omega) (maskI (ckI (by simp [cellsI_len]; omega) (wrapI (by omega) (by omega) ⟨⟨trivial, rfl⟩, k + 1, ⟨by omega⟩, by omega, rfl, by rw [hm]; simp; try omega, by rw [hm]; simp [cellsI], rfl, rfl, rfl, rfl, trivial⟩))))
    ·have hm : mbM x y (k + 1) = mbM x y k := by rw [mbM, if_neg h1, List.append_nil]
     refine wrapI (by omega) (by omega) ⟨⟨trivial, rfl⟩, k + 1, ⟨by omega⟩, by omega, rfl, by rw [hm], by rw [hm], rfl, rfl, rfl, rfl, trivial⟩
   ·obtain rfl : k = 16 := by omega
    have t1 := tk_len d1 (by omega)
    have t2 := tk_len d2 (by omega)
    have t3 := t1.2 (by omega)
    refine ⟨⟨trivial, rfl⟩, .inr ⟨(acc ++ x :: mbM x y 16, lb, bb), ⟨by first | (simp; done) | (simp; omega), ngo_step g2 ⟨by omega, hb⟩ d1 d2⟩, by dsimp only; omega, rfl, by simp; try omega, by simp [cellsI], rfl, trivial⟩⟩
  ·exact finI (P := fun f => Q (.ret (.tup [.agg _, .bool f])) _ {}) (hq n l b n1 l1 b1 acc _ _ ⟨e, e1⟩ (ngo_end g2 (by omega)) _ _ (out_I rfl))
end Go.Proofs.YtafchcmemeinlaaDoor

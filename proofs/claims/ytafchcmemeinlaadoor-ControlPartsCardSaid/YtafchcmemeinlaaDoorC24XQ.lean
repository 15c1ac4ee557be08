/-
  Chapter 24: read, of times of arrival.
-/
import Derived.Test.YtafchcmemeinlaaDoorC24XP
set_option linter.unusedSimpArgs false
set_option linter.unusedVariables false
set_option linter.unusedSectionVars false
namespace Go.Proofs.YtafchcmemeinlaaDoor
open Go.RowKit
set_option maxRecDepth 1000000

def sg7M (x : Int) : List Int := [x / 4096 % 4, x / 1024 % 4, x / 256 % 4, x / 64 % 4, x / 16 % 4, x / 4 % 4, x % 4]
def sgRdM : Nat → Int → List Int → List UInt8 → Bool → List Int × List UInt8 × Bool
 | 0, _, acc, l, b => (acc, l, b)
 | n + 1, c, acc, l, b => if (acc.length : Int) < c ∧ b = false then sgRdM n c (acc ++ sg7M (tkM 2 l b).1) (tkM 2 l b).2.1 (tkM 2 l b).2.2 else (acc, l, b)
def sxM (x : Int) : Int := if 32768 ≤ x then x - 65536 else x
def tmRdM (sg : List Int) : Nat → Nat → Int → List UInt8 → Bool → List Int → List Int × Bool
 | 0, _, _, _, b, acc => (acc, b)
 | n + 1, i, last, l, b, acc =>
  if b = true ∨ sg.getD i 0 = 3 then (acc, true)
  else if sg.getD i 0 = 0 then tmRdM sg n (i + 1) last l b (acc ++ [-1])
  else if sg.getD i 0 = 1 then tmRdM sg n (i + 1) (last + (tkM 1 l b).1) (tkM 1 l b).2.1 (tkM 1 l b).2.2 (acc ++ [last + (tkM 1 l b).1])
  else tmRdM sg n (i + 1) (last + sxM (tkM 2 l b).1) (tkM 2 l b).2.1 (tkM 2 l b).2.2 (acc ++ [last + sxM (tkM 2 l b).1])
def sgoM (c : Int) (l0 : List UInt8) (b0 : Bool) (acc : List Int) (l : List UInt8) (b : Bool) : Prop := ∃ f : Nat, c ≤ acc.length + f ∧ sgRdM c.toNat c [] l0 b0 = sgRdM f c acc l b
def inv_61 (s : S) : List (List LInv) := match s.tm.get 2, s.tm.get 3, s.hp with
 | .int _ c, .int _ rf, [⟨_, _, z⟩, ⟨_, _, [c0, c1, c2, c3, c4, c5, c6, c7, c8, c9, c10, c11, c12, .str l0, .bool b0]⟩] => [[
  { α := Nat, pre := fun i => Lf (i = 0), st := fun i => ⟨mkT [(0, .ptr 1 15 0), (2, .int .i64 c), (3, .int .i64 rf), (4, .nils)], s.hp⟩, mu := fun i => c.toNat + 1 },
  { α := List Int × List UInt8 × Bool, pre := fun x => Lf (1 ≤ x.1.length ∧ x.1.length ≤ c.toNat + 7 ∧ sgoM c l0 b0 x.1 x.2.1 x.2.2), st := fun x => ⟨mkT [(0, .ptr 1 15 0), (2, .int .i64 c), (3, .int .i64 rf), (4, .sl 2 x.1.length 0 x.1.length 1)], [⟨.exact, true, z⟩, ⟨.exact, true, [c0, c1, c2, c3, c4, c5, c6, c7, c8, c9, c10, c11, c12, .str x.2.1, .bool x.2.2]⟩, ⟨.grow, true, cellsI x.1⟩]⟩, mu := fun x => c.toNat - x.1.length }]]
 | _, _, _ => []
def unI : AV → Int
 | .int _ n => n
 | _ => 0
def tgoM (sg : List Int) (c la0 : Int) (l0 : List UInt8) (b0 : Bool) (i : Nat) (la : Int) (l : List UInt8) (b : Bool) (acc : List Int) : Prop :=
 (i : Int) ≤ c ∧ acc.length = i ∧ (b = false → b0 = false) ∧ -(65536 * (i : Int)) ≤ la ∧ la ≤ 4294967296 + 65536 * (i : Int) ∧ tmRdM sg c.toNat 0 la0 l0 b0 [] = tmRdM sg (c.toNat - i) i la l b acc
def inv_61t (s : S) : List (List LInv) := match s.tm.get 4, s.tm.get 7, s.tm.get 51, s.hp with
 | .nils, .int _ la, .int _ c, [⟨_, _, z⟩, ⟨_, _, [c0, c1, c2, c3, c4, c5, c6, c7, c8, c9, c10, c11, c12, .str l0, .bool b0]⟩] => [[
  { α := Nat, pre := fun i => Lf (i = 0 ∧ (c ≤ 0 ∨ b0 = true)), st := fun i => ⟨mkT [(0, .ptr 1 15 0), (4, .nils), (7, .int .i64 la), (51, .int .i64 c), (52, .int .i64 (i : Nat))], s.hp⟩, mu := fun i => 0 }]]
 | .sl _ tot _ _ _, .int _ la, .int _ c, [⟨_, _, z⟩, ⟨_, _, [c0, c1, c2, c3, c4, c5, c6, c7, c8, c9, c10, c11, c12, .str l0, .bool b0]⟩, ⟨_, _, g⟩] => [[
  { α := List Int, pre := fun sg => Lf (g = cellsI sg ∧ tot = sg.length ∧ (b0 = false → c ≤ sg.length) ∧ 0 ≤ la ∧ la ≤ 4294967296), st := fun sg => ⟨mkT [(0, .ptr 1 15 0), (4, .sl 2 sg.length 0 sg.length 1), (7, .int .i64 la), (51, .int .i64 c), (52, .int .i64 0)], [⟨.exact, true, z⟩, ⟨.exact, true, [c0, c1, c2, c3, c4, c5, c6, c7, c8, c9, c10, c11, c12, .str l0, .bool b0]⟩, ⟨.grow, true, cellsI sg⟩]⟩, mu := fun _ => c.toNat + 1 },
  { α := List Int × Nat × Int × List UInt8 × Bool × List Int, pre := fun x => Lf (g = cellsI x.1 ∧ tot = x.1.length ∧ (b0 = false → c ≤ x.1.length) ∧ 1 ≤ x.2.1 ∧ tgoM x.1 c la l0 b0 x.2.1 x.2.2.1 x.2.2.2.1 x.2.2.2.2.1 x.2.2.2.2.2), st := fun x => ⟨mkT [(0, .ptr 1 15 0), (4, .sl 2 x.1.length 0 x.1.length 1), (7, .int .i64 x.2.2.1), (51, .int .i64 c), (52, .int .i64 (x.2.1 : Nat))], [⟨.exact, true, z⟩, ⟨.exact, false, [c0, c1, c2, c3, c4, c5, c6, c7, c8, c9, c10, c11, .sl 3 x.2.2.2.2.2.length 0 x.2.2.2.2.2.length 1, .str x.2.2.2.1, .bool x.2.2.2.2.1]⟩, ⟨.grow, true, cellsI x.1⟩, ⟨.grow, true, cellsI x.2.2.2.2.2⟩]⟩, mu := fun x => c.toNat - x.2.1 }]]
 | _, _, _, _ => []
noncomputable def env_38f (hv : Nat → Option Pa) (hb : Nat → Option Bool) : Env := e24 sm38 (fun i => bif Nat.beq i 61000 then some inv_61 else bif Nat.beq i 61004 then some inv_61t else none) hv hb
noncomputable def goal_38f (hv : Nat → Option Pa) (hb : Nat → Option Bool) (s : List UInt8) (Q : Out → List Blk → Gh → Prop) : Prop :=
 callx (env_38f hv hb) (wpx (env_38f hv hb) 1000) 38 [.int .i64 205, .int .i64 15, .str s] [] {} Q
def vc_38f_1 : Prop := (
((((AV.int .i64 (0 : Int)) :: ((AV.int .i64 (0 : Int)) :: ((AV.int .i64 (0 : Int)) :: ((AV.int .i64 (0 : Int)) :: ((AV.int .i64 (0 : Int)) :: ((AV.int .i64 (0 : Int)) :: ((AV.int .i64 (0 : Int)) :: ((AV.int .i64 (0 : Int)) :: (AV.nils :: (AV.nils :: ((AV.int .i64 (0 : Int)) :: ((AV.int .i64 (0 : Int)) :: (AV.nils :: []))))))))))))) = ((AV.int .i64 (0 : Int)) :: ((AV.int .i64 (0 : Int)) :: ((AV.int .i64 (0 : Int)) :: ((AV.int .i64 (0 : Int)) :: ((AV.int .i64 (0 : Int)) :: ((AV.int .i64 (0 : Int)) :: ((AV.int .i64 (0 : Int)) :: ((AV.int .i64 (0 : Int)) :: (AV.nils :: (AV.nils :: ((AV.int .i64 (0 : Int)) :: ((AV.int .i64 (0 : Int)) :: (AV.nils :: [])))))))))))))) ∧
 False))
def tloopK (x_18 : List Int × List UInt8 × Bool) (n_9 : Int) (n_20 : Int) (n_0 : Int) (n_3 : Int) (n_6 : Int) (n_15 : Int) (Q : Out → List Blk → Gh → Prop) : Prop :=
((∃ x_21 : List Int, Lf (cellsI x_18.1 = cellsI x_21 ∧ x_18.1.length = x_21.length ∧ (x_18.2.2 = false → n_9 ≤ (x_21.length : Int)) ∧ 0 ≤ n_20 ∧ n_20 ≤ 4294967296) ∧ eqqQ [AV.int .i64 0, .int .i64 0, .int .i64 0, .int
 IntKind.i64 0, .int .i64 0, .int .i64 0, .int .i64 0, .int .i64 0, .nils, .nils, .int .i64 0, .int .i64 0, .nils] ∧ eqqQ [AV.int .i64 6, .int .i64 n_0, .int .i64 n_3, .int .i64
 0, .int .i64 0, .int .i64 0, .int .i64 0, .int .i64 0, .nils, .nils, .int .i64 n_6, .int .i64 n_15, .nils, .str x_18.2.1, .bool x_18.2.2] ∧ cellsI x_18.1 = cellsI x_21 ∧ eqqQ (AV.ptr 1 15 0) ∧ eqqQ
 (AV.int .i64 n_20) ∧ eqqQ (AV.int .i64 n_9) ∧ AV.sl 2 x_18.1.length 0 x_18.1.length 1 = AV.sl 2 x_21.length 0 x_21.length 1 ∧ eqqQ (AV.int .i64 0) ∧ True) ∨ ∃ x_21 : List Int × Nat × Int × List UInt8 × Bool × List Int, Lf (cellsI x_18.1 =
 cellsI x_21.1 ∧ x_18.1.length = x_21.1.length ∧ (x_18.2.2 = false → n_9 ≤ (x_21.1.length : Int)) ∧ 1 ≤ x_21.2.1 ∧ tgoM x_21.1 n_9 n_20 x_18.2.1 x_18.2.2 x_21.2.1 x_21.2.2.1 x_21.2.2.2.1 x_21.2.2.2.2.1 x_21.2.2.2.2.2) ∧ vc_38f_1) ∧ (∀ x_21
 : List Int, Lf (cellsI x_18.1 = cellsI x_21 ∧ x_18.1.length = x_21.length ∧ (x_18.2.2 = false → n_9 ≤ (x_21.length : Int)) ∧ 0 ≤ n_20 ∧ n_20 ≤ 4294967296) → bif decide (0 < n_9) then bif x_18.2.2 then Q (.ret (.tup [.agg [.int .i64
 6, .int .i64 n_0, .int .i64 n_3, .int .i64 0, .int .i64 0, .int .i64 0, .int .i64 0, .int .i64 0, .nils, .nils, .int .i64 n_6, .int .i64 n_15, .nils], .bool false])) [] {} else
 ckQ (Nat.blt 0 x_21.length && Nat.beq (cellsI x_21).length x_21.length && true) (ckQ (Nat.beq (cellsI x_21).length x_21.length && Nat.blt 0 x_21.length) (exV IntKind.i64 ((((cellsI x_21).drop 0).take 1).getD 0 AV.undef) (fun n_22 => bif
 n_22 == 3 then Q (.ret (.tup [.agg [.int .i64 6, .int .i64 n_0, .int .i64 n_3, .int .i64 0, .int .i64 0, .int .i64 0, .int .i64 0, .int .i64 0, .nils, .nils, .int .i64 n_6,
 .int .i64 n_15, .nils], .bool false])) [] {} else ckQ (Nat.blt 0 x_21.length && Nat.beq (cellsI x_21).length x_21.length && true) (ckQ (Nat.beq (cellsI x_21).length x_21.length && Nat.blt 0 x_21.length) (exV IntKind.i64 ((((cellsI
 x_21).drop 0).take 1).getD 0 AV.undef) (fun n_23 => bif n_23 == 0 then exI .i64 1 (fun n_24 => (True ∧ (0 : Nat) = (0 : Nat)) ∧ ((∃ y_25 : List Int, Lf (cellsI x_18.1 = cellsI y_25 ∧ x_18.1.length = y_25.length ∧ (x_18.2.2 = false →
 n_9 ≤ (y_25.length : Int)) ∧ 0 ≤ n_20 ∧ n_20 ≤ 4294967296) ∧ n_9.toNat + 1 < n_9.toNat + 1 ∧ vc_38f_1) ∨ ∃ y_25 : List Int × Nat × Int × List UInt8 × Bool × List Int, Lf (cellsI x_18.1 = cellsI y_25.1 ∧ x_18.1.length = y_25.1.length ∧
 (x_18.2.2 = false → n_9 ≤ (y_25.1.length : Int)) ∧ 1 ≤ y_25.2.1 ∧ tgoM y_25.1 n_9 n_20 x_18.2.1 x_18.2.2 y_25.2.1 y_25.2.2.1 y_25.2.2.2.1 y_25.2.2.2.2.1 y_25.2.2.2.2.2) ∧ n_9.toNat - y_25.2.1 < n_9.toNat + 1 ∧ eqqQ [AV.int .i64 0, .int
 IntKind.i64 0, .int .i64 0, .int .i64 0, .int .i64 0, .int .i64 0, .int .i64 0, .int .i64 0, .nils, .nils, .int .i64 0, .int .i64 0, .nils] ∧ [AV.int .i64 6, .int .i64 n_0,
 .int .i64 n_3, .int .i64 0, .int .i64 0, .int .i64 0, .int .i64 0, .int .i64 0, .nils, .nils, .int .i64 n_6, .int .i64 n_15, .sl 3 1 0 1 1, .str x_18.2.1, .bool x_18.2.2] = [AV.int
 .i64 6, .int .i64 n_0, .int .i64 n_3, .int .i64 0, .int .i64 0, .int .i64 0, .int .i64 0, .int .i64 0, .nils, .nils, .int .i64 n_6, .int .i64 n_15, .sl 3 y_25.2.2.2.2.2.length
 0 y_25.2.2.2.2.2.length 1, .str y_25.2.2.2.1, .bool y_25.2.2.2.2.1] ∧ cellsI x_21 = cellsI y_25.1 ∧ [AV.int .i64 (-1)] = cellsI y_25.2.2.2.2.2 ∧ eqqQ (AV.ptr 1 15 0) ∧ AV.int .i64 n_20 = AV.int .i64 y_25.2.2.1 ∧ eqqQ (AV.int .i64
 n_9) ∧ AV.sl 2 x_21.length 0 x_21.length 1 = AV.sl 2 y_25.1.length 0 y_25.1.length 1 ∧ AV.int .i64 n_24 = AV.int .i64 (y_25.2.1 : Int) ∧ True)) else ckQ (Nat.blt 0 x_21.length && Nat.beq (cellsI x_21).length x_21.length && true) (ckQ
 (Nat.beq (cellsI x_21).length x_21.length && Nat.blt 0 x_21.length) (exV IntKind.i64 ((((cellsI x_21).drop 0).take 1).getD 0 AV.undef) (fun n_24 => bif n_24 == 1 then Lf ((0 : Int) ≤ (1 : Int) ∧ (1 : Int) ≤ (4 : Int) ∧ okH [Blk.mk BK.exact
 true [.int .i64 0, .int .i64 0, .int .i64 0, .int .i64 0, .int .i64 0, .int .i64 0, .int .i64 0, .int .i64 0, .nils, .nils, .int .i64 0, .int .i64 0, .nils], Blk.mk
 BK.exact true [.int .i64 6, .int .i64 n_0, .int .i64 n_3, .int .i64 0, .int .i64 0, .int .i64 0, .int .i64 0, .int .i64 0, .nils, .nils, .int .i64 n_6, .int .i64 n_15,
 .nils, .str x_18.2.1, .bool x_18.2.2], Blk.mk BK.grow true (cellsI x_21)]) ∧ ∀ n_25 : Int, ∀ l'_26 : List UInt8, ∀ b'_27 : Bool, Lf (tkM (Int.toNat 1) x_18.2.1 x_18.2.2 = Prod.mk n_25 (Prod.mk l'_26 b'_27)) → exW .i64 (n_20 + n_25)
 (fun n_28 => exI .i64 1 (fun n_29 => (True ∧ (0 : Nat) = (0 : Nat)) ∧ ((∃ y_30 : List Int, Lf (cellsI x_18.1 = cellsI y_30 ∧ x_18.1.length = y_30.length ∧ (x_18.2.2 = false → n_9 ≤ (y_30.length : Int)) ∧ 0 ≤ n_20 ∧ n_20 ≤
 4294967296) ∧ n_9.toNat + 1 < n_9.toNat + 1 ∧ vc_38f_1) ∨ ∃ y_30 : List Int × Nat × Int × List UInt8 × Bool × List Int, Lf (cellsI x_18.1 = cellsI y_30.1 ∧ x_18.1.length = y_30.1.length ∧ (x_18.2.2 = false → n_9 ≤ (y_30.1.length : Int)) ∧
 1 ≤ y_30.2.1 ∧ tgoM y_30.1 n_9 n_20 x_18.2.1 x_18.2.2 y_30.2.1 y_30.2.2.1 y_30.2.2.2.1 y_30.2.2.2.2.1 y_30.2.2.2.2.2) ∧ n_9.toNat - y_30.2.1 < n_9.toNat + 1 ∧ eqqQ [AV.int .i64 0, .int .i64 0, .int .i64 0, .int .i64 0,
 .int .i64 0, .int .i64 0, .int .i64 0, .int .i64 0, .nils, .nils, .int .i64 0, .int .i64 0, .nils] ∧ [AV.int .i64 6, .int .i64 n_0, .int .i64 n_3, .int .i64 0, .int .i64
 0, .int .i64 0, .int .i64 0, .int .i64 0, .nils, .nils, .int .i64 n_6, .int .i64 n_15, .sl 3 1 0 1 1, .str l'_26, .bool b'_27] = [AV.int .i64 6, .int .i64 n_0, .int .i64 n_3, .int
 IntKind.i64 0, .int .i64 0, .int .i64 0, .int .i64 0, .int .i64 0, .nils, .nils, .int .i64 n_6, .int .i64 n_15, .sl 3 y_30.2.2.2.2.2.length 0 y_30.2.2.2.2.2.length 1, .str y_30.2.2.2.1, .bool
 y_30.2.2.2.2.1] ∧ cellsI x_21 = cellsI y_30.1 ∧ [AV.int .i64 n_28] = cellsI y_30.2.2.2.2.2 ∧ eqqQ (AV.ptr 1 15 0) ∧ AV.int .i64 n_28 = AV.int .i64 y_30.2.2.1 ∧ eqqQ (AV.int .i64 n_9) ∧ AV.sl 2 x_21.length 0 x_21.length 1 = AV.sl 2
 y_30.1.length 0 y_30.1.length 1 ∧ AV.int .i64 n_29 = AV.int .i64 (y_30.2.1 : Int) ∧ True))) else Lf ((0 : Int) ≤ (2 : Int) ∧ (2 : Int) ≤ (4 : Int) ∧ okH [Blk.mk BK.exact true [.int .i64 0, .int .i64 0, .int .i64 0,
 .int .i64 0, .int .i64 0, .int .i64 0, .int .i64 0, .int .i64 0, .nils, .nils, .int .i64 0, .int .i64 0, .nils], Blk.mk BK.exact true [.int .i64 6, .int .i64 n_0, .int
 IntKind.i64 n_3, .int .i64 0, .int .i64 0, .int .i64 0, .int .i64 0, .int .i64 0, .nils, .nils, .int .i64 n_6, .int .i64 n_15, .nils, .str x_18.2.1, .bool x_18.2.2], Blk.mk BK.grow true
 (cellsI x_21)]) ∧ ∀ n_25 : Int, ∀ l'_26 : List UInt8, ∀ b'_27 : Bool, Lf (tkM (Int.toNat 2) x_18.2.1 x_18.2.2 = Prod.mk n_25 (Prod.mk l'_26 b'_27)) → exW .i16 n_25 (fun n_28 => exW .i64 n_28 (fun n_29 => exW .i64 (n_20
 + n_29) (fun n_30 => exI .i64 1 (fun n_31 => (True ∧ (0 : Nat) = (0 : Nat)) ∧ ((∃ y_32 : List Int, Lf (cellsI x_18.1 = cellsI y_32 ∧ x_18.1.length = y_32.length ∧ (x_18.2.2 = false → n_9 ≤ (y_32.length : Int)) ∧ 0 ≤ n_20 ∧ n_20 ≤
 4294967296) ∧ n_9.toNat + 1 < n_9.toNat + 1 ∧ vc_38f_1) ∨ ∃ y_32 : List Int × Nat × Int × List UInt8 × Bool × List Int, Lf (cellsI x_18.1 = cellsI y_32.1 ∧ x_18.1.length = y_32.1.length ∧ (x_18.2.2 = false → n_9 ≤ (y_32.1.length : Int)) ∧
 1 ≤ y_32.2.1 ∧ tgoM y_32.1 n_9 n_20 x_18.2.1 x_18.2.2 y_32.2.1 y_32.2.2.1 y_32.2.2.2.1 y_32.2.2.2.2.1 y_32.2.2.2.2.2) ∧ n_9.toNat - y_32.2.1 < n_9.toNat + 1 ∧ eqqQ [AV.int .i64 0, .int .i64 0, .int .i64 0, .int .i64 0,
 .int .i64 0, .int .i64 0, .int .i64 0, .int .i64 0, .nils, .nils, .int .i64 0, .int .i64 0, .nils] ∧ [AV.int .i64 6, .int .i64 n_0, .int .i64 n_3, .int .i64 0, .int .i64
 0, .int .i64 0, .int .i64 0, .int .i64 0, .nils, .nils, .int .i64 n_6, .int .i64 n_15, .sl 3 1 0 1 1, .str l'_26, .bool b'_27] = [AV.int .i64 6, .int .i64 n_0, .int .i64 n_3, .int
 IntKind.i64 0, .int .i64 0, .int .i64 0, .int .i64 0, .int .i64 0, .nils, .nils, .int .i64 n_6, .int .i64 n_15, .sl 3 y_32.2.2.2.2.2.length 0 y_32.2.2.2.2.2.length 1, .str y_32.2.2.2.1, .bool
 y_32.2.2.2.2.1] ∧ cellsI x_21 = cellsI y_32.1 ∧ [AV.int .i64 n_30] = cellsI y_32.2.2.2.2.2 ∧ eqqQ (AV.ptr 1 15 0) ∧ AV.int .i64 n_30 = AV.int .i64 y_32.2.2.1 ∧ eqqQ (AV.int .i64 n_9) ∧ AV.sl 2 x_21.length 0 x_21.length 1 = AV.sl 2
 y_32.1.length 0 y_32.1.length 1 ∧ AV.int .i64 n_31 = AV.int .i64 (y_32.2.1 : Int) ∧ True)))))))))))))) else bif x_18.2.2 then Q (.ret (.tup [.agg [.int .i64 6, .int .i64 n_0, .int .i64 n_3, .int .i64 0, .int
 IntKind.i64 0, .int .i64 0, .int .i64 0, .int .i64 0, .nils, .nils, .int .i64 n_6, .int .i64 n_15, .nils], .bool false])) [] {} else Q (.ret (.tup [.agg [.int .i64 6, .int .i64 n_0, .int
 IntKind.i64 n_3, .int .i64 0, .int .i64 0, .int .i64 0, .int .i64 0, .int .i64 0, .nils, .nils, .int .i64 n_6, .int .i64 n_15, .nils], .bool true])) [] {}) ∧ ∀ x_21 : List Int × Nat × Int ×
 List UInt8 × Bool × List Int, Lf (cellsI x_18.1 = cellsI x_21.1 ∧ x_18.1.length = x_21.1.length ∧ (x_18.2.2 = false → n_9 ≤ (x_21.1.length : Int)) ∧ 1 ≤ x_21.2.1 ∧ tgoM x_21.1 n_9 n_20 x_18.2.1 x_18.2.2 x_21.2.1 x_21.2.2.1 x_21.2.2.2.1
 x_21.2.2.2.2.1 x_21.2.2.2.2.2) → bif decide ((x_21.2.1 : Int) < n_9) then bif x_21.2.2.2.2.1 then Q (.ret (.tup [.agg [.int .i64 6, .int .i64 n_0, .int .i64 n_3, .int .i64 0, .int .i64 0, .int .i64
 0, .int .i64 0, .int .i64 0, .nils, .nils, .int .i64 n_6, .int .i64 n_15, .sl 3 x_21.2.2.2.2.2.length 0 x_21.2.2.2.2.2.length 1], .bool false])) [Blk.mk BK.exact false [.int .i64 6, .int .i64 n_0,
 .int .i64 n_3, .int .i64 0, .int .i64 0, .int .i64 0, .int .i64 0, .int .i64 0, .nils, .nils, .int .i64 n_6, .int .i64 n_15, .sl 3 x_21.2.2.2.2.2.length 0 x_21.2.2.2.2.2.length 1],
 Blk.mk BK.exact false [.int .i64 6, .int .i64 n_0, .int .i64 n_3, .int .i64 0, .int .i64 0, .int .i64 0, .int .i64 0, .int .i64 0, .nils, .nils, .int .i64 n_6, .int .i64
 n_15, .sl 3 x_21.2.2.2.2.2.length 0 x_21.2.2.2.2.2.length 1, .str [], .bool true], Blk.mk BK.grow true (cellsI x_21.1), Blk.mk BK.grow true (cellsI x_21.2.2.2.2.2)] {} else ckQ (Nat.blt (x_21.2.1 : Int).toNat x_21.1.length && Nat.beq
 (cellsI x_21.1).length x_21.1.length && true) (ckQ (Nat.beq (cellsI x_21.1).length x_21.1.length && Nat.blt (0 + (x_21.2.1 : Int).toNat * 1) x_21.1.length) (exV IntKind.i64 ((((cellsI x_21.1).drop (0 + (x_21.2.1 : Int).toNat * 1)).take
 1).getD 0 AV.undef) (fun n_22 => bif n_22 == 3 then Q (.ret (.tup [.agg [.int .i64 6, .int .i64 n_0, .int .i64 n_3, .int .i64 0, .int .i64 0, .int .i64 0, .int .i64 0, .int .i64 0,
 .nils, .nils, .int .i64 n_6, .int .i64 n_15, .sl 3 x_21.2.2.2.2.2.length 0 x_21.2.2.2.2.2.length 1], .bool false])) [Blk.mk BK.exact false [.int .i64 6, .int .i64 n_0, .int .i64 n_3, .int .i64 0,
 .int .i64 0, .int .i64 0, .int .i64 0, .int .i64 0, .nils, .nils, .int .i64 n_6, .int .i64 n_15, .sl 3 x_21.2.2.2.2.2.length 0 x_21.2.2.2.2.2.length 1], Blk.mk BK.exact false [.int .i64 6,
 .int .i64 n_0, .int .i64 n_3, .int .i64 0, .int .i64 0, .int .i64 0, .int .i64 0, .int .i64 0, .nils, .nils, .int .i64 n_6, .int .i64 n_15, .sl 3 x_21.2.2.2.2.2.length 0
 x_21.2.2.2.2.2.length 1, .str [], .bool true], Blk.mk BK.grow true (cellsI x_21.1), Blk.mk BK.grow true (cellsI x_21.2.2.2.2.2)] {} else ckQ (Nat.blt (x_21.2.1 : Int).toNat x_21.1.length && Nat.beq (cellsI x_21.1).length x_21.1.length &&
 true) (ckQ (Nat.beq (cellsI x_21.1).length x_21.1.length && Nat.blt (0 + (x_21.2.1 : Int).toNat * 1) x_21.1.length) (exV IntKind.i64 ((((cellsI x_21.1).drop (0 + (x_21.2.1 : Int).toNat * 1)).take 1).getD 0 AV.undef) (fun n_23 => bif n_23
 == 0 then ckQ (Nat.beq (cellsI x_21.2.2.2.2.2).length x_21.2.2.2.2.2.length && true && Nat.beq (0 + x_21.2.2.2.2.2.length * 1) x_21.2.2.2.2.2.length && Nat.ble (x_21.2.2.2.2.2.length + 1) 1099511627776 && Nat.ble ((x_21.2.2.2.2.2.length +
 1) * 8) 1099511627776) (exW .i64 ((x_21.2.1 : Int) + 1) (fun n_24 => (True ∧ (0 : Nat) = (0 : Nat)) ∧ ((∃ y_25 : List Int, Lf (cellsI x_18.1 = cellsI y_25 ∧ x_18.1.length = y_25.length ∧ (x_18.2.2 = false → n_9 ≤ (y_25.length :
 Int)) ∧ 0 ≤ n_20 ∧ n_20 ≤ 4294967296) ∧ n_9.toNat + 1 < n_9.toNat - x_21.2.1 ∧ vc_38f_1) ∨ ∃ y_25 : List Int × Nat × Int × List UInt8 × Bool × List Int, Lf (cellsI x_18.1 = cellsI y_25.1 ∧ x_18.1.length = y_25.1.length ∧ (x_18.2.2 = false
 → n_9 ≤ (y_25.1.length : Int)) ∧ 1 ≤ y_25.2.1 ∧ tgoM y_25.1 n_9 n_20 x_18.2.1 x_18.2.2 y_25.2.1 y_25.2.2.1 y_25.2.2.2.1 y_25.2.2.2.2.1 y_25.2.2.2.2.2) ∧ n_9.toNat - y_25.2.1 < n_9.toNat - x_21.2.1 ∧ eqqQ [AV.int .i64 0, .int .i64 0,
 .int .i64 0, .int .i64 0, .int .i64 0, .int .i64 0, .int .i64 0, .int .i64 0, .nils, .nils, .int .i64 0, .int .i64 0, .nils] ∧ [AV.int .i64 6, .int .i64 n_0, .int .i64
 n_3, .int .i64 0, .int .i64 0, .int .i64 0, .int .i64 0, .int .i64 0, .nils, .nils, .int .i64 n_6, .int .i64 n_15, .sl 3 (x_21.2.2.2.2.2.length + 1) 0 (x_21.2.2.2.2.2.length + 1) 1, .str
 x_21.2.2.2.1, .bool x_21.2.2.2.2.1] = [AV.int .i64 6, .int .i64 n_0, .int .i64 n_3, .int .i64 0, .int .i64 0, .int .i64 0, .int .i64 0, .int .i64 0, .nils, .nils, .int .i64 n_6, .int
 IntKind.i64 n_15, .sl 3 y_25.2.2.2.2.2.length 0 y_25.2.2.2.2.2.length 1, .str y_25.2.2.2.1, .bool y_25.2.2.2.2.1] ∧ cellsI x_21.1 = cellsI y_25.1 ∧ cellsI x_21.2.2.2.2.2 ++ [AV.int .i64 (-1)] = cellsI y_25.2.2.2.2.2 ∧ eqqQ (AV.ptr 1 15 0)
 ∧ AV.int .i64 x_21.2.2.1 = AV.int .i64 y_25.2.2.1 ∧ eqqQ (AV.int .i64 n_9) ∧ AV.sl 2 x_21.1.length 0 x_21.1.length 1 = AV.sl 2 y_25.1.length 0 y_25.1.length 1 ∧ AV.int .i64 n_24 = AV.int .i64 (y_25.2.1 : Int) ∧ True))) else ckQ (Nat.blt
 (x_21.2.1 : Int).toNat x_21.1.length && Nat.beq (cellsI x_21.1).length x_21.1.length && true) (ckQ (Nat.beq (cellsI x_21.1).length x_21.1.length && Nat.blt (0 + (x_21.2.1 : Int).toNat * 1) x_21.1.length) (exV IntKind.i64 ((((cellsI
 x_21.1).drop (0 + (x_21.2.1 : Int).toNat * 1)).take 1).getD 0 AV.undef) (fun n_24 => bif n_24 == 1 then Lf ((0 : Int) ≤ (1 : Int) ∧ (1 : Int) ≤ (4 : Int) ∧ okH [Blk.mk BK.exact true [.int .i64 0, .int .i64 0, .int .i64
 0, .int .i64 0, .int .i64 0, .int .i64 0, .int .i64 0, .int .i64 0, .nils, .nils, .int .i64 0, .int .i64 0, .nils], Blk.mk BK.exact false [.int .i64 6, .int .i64 n_0, .int
 IntKind.i64 n_3, .int .i64 0, .int .i64 0, .int .i64 0, .int .i64 0, .int .i64 0, .nils, .nils, .int .i64 n_6, .int .i64 n_15, .sl 3 x_21.2.2.2.2.2.length 0 x_21.2.2.2.2.2.length 1, .str
 x_21.2.2.2.1, .bool x_21.2.2.2.2.1], Blk.mk BK.grow true (cellsI x_21.1), Blk.mk BK.grow true (cellsI x_21.2.2.2.2.2)]) ∧ ∀ n_25 : Int, ∀ l'_26 : List UInt8, ∀ b'_27 : Bool, Lf (tkM (Int.toNat 1) x_21.2.2.2.1 x_21.2.2.2.2.1 = Prod.mk n_25
 (Prod.mk l'_26 b'_27)) → exW .i64 (x_21.2.2.1 + n_25) (fun n_28 => ckQ (Nat.beq (cellsI x_21.2.2.2.2.2).length x_21.2.2.2.2.2.length && true && Nat.beq (0 + x_21.2.2.2.2.2.length * 1) x_21.2.2.2.2.2.length && Nat.ble
 (x_21.2.2.2.2.2.length + 1) 1099511627776 && Nat.ble ((x_21.2.2.2.2.2.length + 1) * 8) 1099511627776) (exW .i64 ((x_21.2.1 : Int) + 1) (fun n_29 => (True ∧ (0 : Nat) = (0 : Nat)) ∧ ((∃ y_30 : List Int, Lf (cellsI x_18.1 = cellsI
 y_30 ∧ x_18.1.length = y_30.length ∧ (x_18.2.2 = false → n_9 ≤ (y_30.length : Int)) ∧ 0 ≤ n_20 ∧ n_20 ≤ 4294967296) ∧ n_9.toNat + 1 < n_9.toNat - x_21.2.1 ∧ vc_38f_1) ∨ ∃ y_30 : List Int × Nat × Int × List UInt8 × Bool × List Int, Lf
 (cellsI x_18.1 = cellsI y_30.1 ∧ x_18.1.length = y_30.1.length ∧ (x_18.2.2 = false → n_9 ≤ (y_30.1.length : Int)) ∧ 1 ≤ y_30.2.1 ∧ tgoM y_30.1 n_9 n_20 x_18.2.1 x_18.2.2 y_30.2.1 y_30.2.2.1 y_30.2.2.2.1 y_30.2.2.2.2.1 y_30.2.2.2.2.2) ∧
 n_9.toNat - y_30.2.1 < n_9.toNat - x_21.2.1 ∧ eqqQ [AV.int .i64 0, .int .i64 0, .int .i64 0, .int .i64 0, .int .i64 0, .int .i64 0, .int .i64 0, .int .i64 0, .nils, .nils, .int .i64
 0, .int .i64 0, .nils] ∧ [AV.int .i64 6, .int .i64 n_0, .int .i64 n_3, .int .i64 0, .int .i64 0, .int .i64 0, .int .i64 0, .int .i64 0, .nils, .nils, .int .i64 n_6, .int
 IntKind.i64 n_15, .sl 3 (x_21.2.2.2.2.2.length + 1) 0 (x_21.2.2.2.2.2.length + 1) 1, .str l'_26, .bool b'_27] = [AV.int .i64 6, .int .i64 n_0, .int .i64 n_3, .int .i64 0, .int .i64 0, .int .i64 0, .int
 IntKind.i64 0, .int .i64 0, .nils, .nils, .int .i64 n_6, .int .i64 n_15, .sl 3 y_30.2.2.2.2.2.length 0 y_30.2.2.2.2.2.length 1, .str y_30.2.2.2.1, .bool y_30.2.2.2.2.1] ∧ cellsI x_21.1 = cellsI y_30.1 ∧ cellsI
 x_21.2.2.2.2.2 ++ [AV.int .i64 n_28] = cellsI y_30.2.2.2.2.2 ∧ eqqQ (AV.ptr 1 15 0) ∧ AV.int .i64 n_28 = AV.int .i64 y_30.2.2.1 ∧ eqqQ (AV.int .i64 n_9) ∧ AV.sl 2 x_21.1.length 0 x_21.1.length 1 = AV.sl 2 y_30.1.length 0
 y_30.1.length 1 ∧ AV.int .i64 n_29 = AV.int .i64 (y_30.2.1 : Int) ∧ True)))) else Lf ((0 : Int) ≤ (2 : Int) ∧ (2 : Int) ≤ (4 : Int) ∧ okH [Blk.mk BK.exact true [.int .i64 0, .int .i64 0, .int .i64 0, .int .i64
 0, .int .i64 0, .int .i64 0, .int .i64 0, .int .i64 0, .nils, .nils, .int .i64 0, .int .i64 0, .nils], Blk.mk BK.exact false [.int .i64 6, .int .i64 n_0, .int .i64 n_3, .int
 IntKind.i64 0, .int .i64 0, .int .i64 0, .int .i64 0, .int .i64 0, .nils, .nils, .int .i64 n_6, .int .i64 n_15, .sl 3 x_21.2.2.2.2.2.length 0 x_21.2.2.2.2.2.length 1, .str x_21.2.2.2.1, .bool
 x_21.2.2.2.2.1], Blk.mk BK.grow true (cellsI x_21.1), Blk.mk BK.grow true (cellsI x_21.2.2.2.2.2)]) ∧ ∀ n_25 : Int, ∀ l'_26 : List UInt8, ∀ b'_27 : Bool, Lf (tkM (Int.toNat 2) x_21.2.2.2.1 x_21.2.2.2.2.1 = Prod.mk n_25 (Prod.mk l'_26
 b'_27)) → exW .i16 n_25 (fun n_28 => exW .i64 n_28 (fun n_29 => exW .i64 (x_21.2.2.1 + n_29) (fun n_30 => ckQ (Nat.beq (cellsI x_21.2.2.2.2.2).length x_21.2.2.2.2.2.length && true && Nat.beq (0 + x_21.2.2.2.2.2.length
 * 1) x_21.2.2.2.2.2.length && Nat.ble (x_21.2.2.2.2.2.length + 1) 1099511627776 && Nat.ble ((x_21.2.2.2.2.2.length + 1) * 8) 1099511627776) (exW .i64 ((x_21.2.1 : Int) + 1) (fun n_31 => (True ∧ (0 : Nat) = (0 : Nat)) ∧ ((∃ y_32 :
 List Int, Lf (cellsI x_18.1 = cellsI y_32 ∧ x_18.1.length = y_32.length ∧ (x_18.2.2 = false → n_9 ≤ (y_32.length : Int)) ∧ 0 ≤ n_20 ∧ n_20 ≤ 4294967296) ∧ n_9.toNat + 1 < n_9.toNat - x_21.2.1 ∧ vc_38f_1) ∨ ∃ y_32 : List Int × Nat × Int ×
 List UInt8 × Bool × List Int, Lf (cellsI x_18.1 = cellsI y_32.1 ∧ x_18.1.length = y_32.1.length ∧ (x_18.2.2 = false → n_9 ≤ (y_32.1.length : Int)) ∧ 1 ≤ y_32.2.1 ∧ tgoM y_32.1 n_9 n_20 x_18.2.1 x_18.2.2 y_32.2.1 y_32.2.2.1 y_32.2.2.2.1
 y_32.2.2.2.2.1 y_32.2.2.2.2.2) ∧ n_9.toNat - y_32.2.1 < n_9.toNat - x_21.2.1 ∧ eqqQ [AV.int .i64 0, .int .i64 0, .int .i64 0, .int .i64 0, .int .i64 0, .int .i64 0, .int .i64 0, .int .i64 0,
 .nils, .nils, .int .i64 0, .int .i64 0, .nils] ∧ [AV.int .i64 6, .int .i64 n_0, .int .i64 n_3, .int .i64 0, .int .i64 0, .int .i64 0, .int .i64 0, .int .i64 0, .nils, .nils,
 .int .i64 n_6, .int .i64 n_15, .sl 3 (x_21.2.2.2.2.2.length + 1) 0 (x_21.2.2.2.2.2.length + 1) 1, .str l'_26, .bool b'_27] = [AV.int .i64 6, .int .i64 n_0, .int .i64 n_3, .int .i64 0, .int .i64 0,
 .int .i64 0, .int .i64 0, .int .i64 0, .nils, .nils, .int .i64 n_6, .int .i64 n_15, .sl 3 y_32.2.2.2.2.2.length 0 y_32.2.2.2.2.2.length 1, .str y_32.2.2.2.1, .bool y_32.2.2.2.2.1] ∧ cellsI x_21.1 = cellsI
 y_32.1 ∧ cellsI x_21.2.2.2.2.2 ++ [AV.int .i64 n_30] = cellsI y_32.2.2.2.2.2 ∧ eqqQ (AV.ptr 1 15 0) ∧ AV.int .i64 n_30 = AV.int .i64 y_32.2.2.1 ∧ eqqQ (AV.int .i64 n_9) ∧ AV.sl 2 x_21.1.length 0 x_21.1.length 1 = AV.sl 2 y_32.1.length 0
 y_32.1.length 1 ∧ AV.int .i64 n_31 = AV.int .i64 (y_32.2.1 : Int) ∧ True))))))))))))))) else bif x_21.2.2.2.2.1 then Q (.ret (.tup [.agg [.int .i64 6, .int .i64 n_0, .int .i64 n_3, .int .i64 0, .int .i64
 0, .int .i64 0, .int .i64 0, .int .i64 0, .nils, .nils, .int .i64 n_6, .int .i64 n_15, .sl 3 x_21.2.2.2.2.2.length 0 x_21.2.2.2.2.2.length 1], .bool false])) [Blk.mk BK.exact false [.int .i64 6,
 .int .i64 n_0, .int .i64 n_3, .int .i64 0, .int .i64 0, .int .i64 0, .int .i64 0, .int .i64 0, .nils, .nils, .int .i64 n_6, .int .i64 n_15, .sl 3 x_21.2.2.2.2.2.length 0
 x_21.2.2.2.2.2.length 1], Blk.mk BK.exact false [.int .i64 6, .int .i64 n_0, .int .i64 n_3, .int .i64 0, .int .i64 0, .int .i64 0, .int .i64 0, .int .i64 0, .nils, .nils, .int
 IntKind.i64 n_6, .int .i64 n_15, .sl 3 x_21.2.2.2.2.2.length 0 x_21.2.2.2.2.2.length 1, .str [], .bool x_21.2.2.2.2.1], Blk.mk BK.grow true (cellsI x_21.1), Blk.mk BK.grow true (cellsI x_21.2.2.2.2.2)] {} else Q (.ret (.tup [.agg
 [.int .i64 6, .int .i64 n_0, .int .i64 n_3, .int .i64 0, .int .i64 0, .int .i64 0, .int .i64 0, .int .i64 0, .nils, .nils, .int .i64 n_6, .int .i64 n_15, .sl 3
 x_21.2.2.2.2.2.length 0 x_21.2.2.2.2.2.length 1], .bool true])) [Blk.mk BK.exact false [.int .i64 6, .int .i64 n_0, .int .i64 n_3, .int .i64 0, .int .i64 0, .int .i64 0, .int .i64 0, .int
 IntKind.i64 0, .nils, .nils, .int .i64 n_6, .int .i64 n_15, .sl 3 x_21.2.2.2.2.2.length 0 x_21.2.2.2.2.2.length 1], Blk.mk BK.exact false [.int .i64 6, .int .i64 n_0, .int .i64 n_3, .int .i64 0,
 .int .i64 0, .int .i64 0, .int .i64 0, .int .i64 0, .nils, .nils, .int .i64 n_6, .int .i64 n_15, .sl 3 x_21.2.2.2.2.2.length 0 x_21.2.2.2.2.2.length 1, .str [], .bool x_21.2.2.2.2.1], Blk.mk
 BK.grow true (cellsI x_21.1), Blk.mk BK.grow true (cellsI x_21.2.2.2.2.2)] {}
abbrev q4XQ_38f_0 (n_12 : Int) (n_9 : Int) (b'_17 : Bool) (n_0 : Int) (n_3 : Int) (n_6 : Int) (n_15 : Int) (l'_16 : List UInt8) (Q : Out → List Blk → Gh → Prop) : Prop :=
exW .i64 (n_12 * 256) (fun n_20 => (∃ x_21 : Nat, Lf (x_21 = 0 ∧ (n_9 ≤ 0 ∨ b'_17 = true)) ∧ eqqQ [AV.int .i64 0, .int .i64 0, .int .i64 0, .int .i64 0, .int .i64 0, .int .i64 0, .int .i64 0,
 .int .i64 0, .nils, .nils, .int .i64 0, .int .i64 0, .nils] ∧ eqqQ [AV.int .i64 6, .int .i64 n_0, .int .i64 n_3, .int .i64 0, .int .i64 0, .int .i64 0, .int .i64 0, .int
 IntKind.i64 0, .nils, .nils, .int .i64 n_6, .int .i64 n_15, .nils, .str l'_16, .bool b'_17] ∧ eqqQ (AV.ptr 1 15 0) ∧ eqqQ (AV.int .i64 n_20) ∧ eqqQ (AV.int .i64 n_9) ∧ AV.nils = AV.nils ∧ AV.int .i64 0 = AV.int .i64 (x_21 :
 Int) ∧ True) ∧ ∀ x_21 : Nat, Lf (x_21 = 0 ∧ (n_9 ≤ 0 ∨ b'_17 = true)) → bif decide ((x_21 : Int) < n_9) then ckQ b'_17 (Q (.ret (.tup [.agg [.int .i64 6, .int .i64 n_0, .int .i64 n_3, .int .i64 0, .int
 IntKind.i64 0, .int .i64 0, .int .i64 0, .int .i64 0, .nils, .nils, .int .i64 n_6, .int .i64 n_15, .nils], .bool false])) [] {}) else bif b'_17 then Q (.ret (.tup [.agg [.int .i64 6, .int
 IntKind.i64 n_0, .int .i64 n_3, .int .i64 0, .int .i64 0, .int .i64 0, .int .i64 0, .int .i64 0, .nils, .nils, .int .i64 n_6, .int .i64 n_15, .nils], .bool false])) [] {} else Q (.ret
 (.tup [.agg [.int .i64 6, .int .i64 n_0, .int .i64 n_3, .int .i64 0, .int .i64 0, .int .i64 0, .int .i64 0, .int .i64 0, .nils, .nils, .int .i64 n_6, .int .i64 n_15,
 .nils], .bool true])) [] {})
abbrev q4XQ_38f_1 (n_0 : Int) (n_3 : Int) (n_6 : Int) (n_15 : Int) (l'_21 : List UInt8) (b'_22 : Bool) (l'_16 : List UInt8) (b'_17 : Bool) : Prop :=
eqqQ [AV.int .i64 0, .int .i64 0, .int .i64 0, .int .i64 0, .int .i64 0, .int .i64 0, .int .i64 0, .int .i64 0, .nils, .nils, .int .i64 0, .int .i64 0, .nils] ∧ [AV.int .i64 6,
 .int .i64 n_0, .int .i64 n_3, .int .i64 0, .int .i64 0, .int .i64 0, .int .i64 0, .int .i64 0, .nils, .nils, .int .i64 n_6, .int .i64 n_15, .nils, .str l'_21, .bool b'_22] =
 [AV.int .i64 6, .int .i64 n_0, .int .i64 n_3, .int .i64 0, .int .i64 0, .int .i64 0, .int .i64 0, .int .i64 0, .nils, .nils, .int .i64 n_6, .int .i64 n_15, .nils, .str l'_16,
 .bool b'_17] ∧ False
abbrev q4XQ_38f_2 (n_0 : Int) (n_3 : Int) (n_6 : Int) (n_15 : Int) (l'_16 : List UInt8) (b'_17 : Bool) (x_18 : List Int × List UInt8 × Bool) : Prop :=
[AV.int .i64 6, .int .i64 n_0, .int .i64 n_3, .int .i64 0, .int .i64 0, .int .i64 0, .int .i64 0, .int .i64 0, .nils, .nils, .int .i64 n_6, .int .i64 n_15, .nils, .str l'_16,
 .bool b'_17] = [AV.int .i64 6, .int .i64 n_0, .int .i64 n_3, .int .i64 0, .int .i64 0, .int .i64 0, .int .i64 0, .int .i64 0, .nils, .nils, .int .i64 n_6, .int .i64 n_15,
 .nils, .str x_18.2.1, .bool x_18.2.2]
theorem vc_38f (s : List UInt8) (Q : Out → List Blk → Gh → Prop) : goal_38f (lookV [(249906, .int .i64), (249901, .int .i64), (249902, .int .i64), (249882, .int .i64), (249926, .int .i64), (249936, .int .i64), (249953, .int .i64), (249958,
 .int .i64), (249914, .int .i16), (249915, .int .i64), (249916, .int .i64), (249971, .int .i64)]) (lookB []) s Q = (Lf ((0 : Int) ≤ (4 : Int) ∧ (4 : Int) ≤ (4 : Int) ∧ okH [Blk.mk BK.exact true [.int .i64 0, .int .i64 0, .int
 IntKind.i64 0, .int .i64 0, .int .i64 0, .int .i64 0, .int .i64 0, .int .i64 0, .nils, .nils, .int .i64 0, .int .i64 0, .nils], Blk.mk BK.exact true [.int .i64 0, .int .i64 0,
 .int .i64 0, .int .i64 0, .int .i64 0, .int .i64 0, .int .i64 0, .int .i64 0, .nils, .nils, .int .i64 0, .int .i64 0, .nils, .str s, .bool false]]) ∧ ∀ n_0 : Int, ∀ l'_1 : List UInt8,
 ∀ b'_2 : Bool, Lf (tkM (Int.toNat 4) s false = Prod.mk n_0 (Prod.mk l'_1 b'_2)) → Lf ((0 : Int) ≤ (4 : Int) ∧ (4 : Int) ≤ (4 : Int) ∧ okH [Blk.mk BK.exact true [.int .i64 0, .int .i64 0, .int .i64 0, .int .i64
 0, .int .i64 0, .int .i64 0, .int .i64 0, .int .i64 0, .nils, .nils, .int .i64 0, .int .i64 0, .nils], Blk.mk BK.exact true [.int .i64 0, .int .i64 n_0, .int .i64 0, .int
 IntKind.i64 0, .int .i64 0, .int .i64 0, .int .i64 0, .int .i64 0, .nils, .nils, .int .i64 0, .int .i64 0, .nils, .str l'_1, .bool b'_2]]) ∧ ∀ n_3 : Int, ∀ l'_4 : List UInt8, ∀ b'_5 : Bool, Lf (tkM
 (Int.toNat 4) l'_1 b'_2 = Prod.mk n_3 (Prod.mk l'_4 b'_5)) → Lf ((0 : Int) ≤ (2 : Int) ∧ (2 : Int) ≤ (4 : Int) ∧ okH [Blk.mk BK.exact true [.int .i64 0, .int .i64 0, .int .i64 0, .int .i64 0, .int .i64 0,
 .int .i64 0, .int .i64 0, .int .i64 0, .nils, .nils, .int .i64 0, .int .i64 0, .nils], Blk.mk BK.exact true [.int .i64 6, .int .i64 n_0, .int .i64 n_3, .int .i64 0, .int
 IntKind.i64 0, .int .i64 0, .int .i64 0, .int .i64 0, .nils, .nils, .int .i64 0, .int .i64 0, .nils, .str l'_4, .bool b'_5]]) ∧ ∀ n_6 : Int, ∀ l'_7 : List UInt8, ∀ b'_8 : Bool, Lf (tkM (Int.toNat 2) l'_4
 b'_5 = Prod.mk n_6 (Prod.mk l'_7 b'_8)) → Lf ((0 : Int) ≤ (2 : Int) ∧ (2 : Int) ≤ (4 : Int) ∧ okH [Blk.mk BK.exact true [.int .i64 0, .int .i64 0, .int .i64 0, .int .i64 0, .int .i64 0, .int .i64
 0, .int .i64 0, .int .i64 0, .nils, .nils, .int .i64 0, .int .i64 0, .nils], Blk.mk BK.exact true [.int .i64 6, .int .i64 n_0, .int .i64 n_3, .int .i64 0, .int .i64 0, .int
 IntKind.i64 0, .int .i64 0, .int .i64 0, .nils, .nils, .int .i64 n_6, .int .i64 0, .nils, .str l'_7, .bool b'_8]]) ∧ ∀ n_9 : Int, ∀ l'_10 : List UInt8, ∀ b'_11 : Bool, Lf (tkM (Int.toNat 2) l'_7 b'_8 = Prod.mk
 n_9 (Prod.mk l'_10 b'_11)) → Lf ((0 : Int) ≤ (3 : Int) ∧ (3 : Int) ≤ (4 : Int) ∧ okH [Blk.mk BK.exact true [.int .i64 0, .int .i64 0, .int .i64 0, .int .i64 0, .int .i64 0, .int .i64 0, .int
 IntKind.i64 0, .int .i64 0, .nils, .nils, .int .i64 0, .int .i64 0, .nils], Blk.mk BK.exact true [.int .i64 6, .int .i64 n_0, .int .i64 n_3, .int .i64 0, .int .i64 0, .int .i64
 0, .int .i64 0, .int .i64 0, .nils, .nils, .int .i64 n_6, .int .i64 0, .nils, .str l'_10, .bool b'_11]]) ∧ ∀ n_12 : Int, ∀ l'_13 : List UInt8, ∀ b'_14 : Bool, Lf (tkM (Int.toNat 3) l'_10 b'_11 = Prod.mk n_12
 (Prod.mk l'_13 b'_14)) → Lf ((0 : Int) ≤ (1 : Int) ∧ (1 : Int) ≤ (4 : Int) ∧ okH [Blk.mk BK.exact true [.int .i64 0, .int .i64 0, .int .i64 0, .int .i64 0, .int .i64 0, .int .i64 0, .int
 IntKind.i64 0, .int .i64 0, .nils, .nils, .int .i64 0, .int .i64 0, .nils], Blk.mk BK.exact true [.int .i64 6, .int .i64 n_0, .int .i64 n_3, .int .i64 0, .int .i64 0, .int .i64
 0, .int .i64 0, .int .i64 0, .nils, .nils, .int .i64 n_6, .int .i64 0, .nils, .str l'_13, .bool b'_14]]) ∧ ∀ n_15 : Int, ∀ l'_16 : List UInt8, ∀ b'_17 : Bool, Lf (tkM (Int.toNat 1) l'_13 b'_14 = Prod.mk n_15
 (Prod.mk l'_16 b'_17)) → ((∃ x_18 : Nat, Lf (x_18 = 0) ∧ eqqQ [AV.int .i64 0, .int .i64 0, .int .i64 0, .int .i64 0, .int .i64 0, .int .i64 0, .int .i64 0, .int .i64 0, .nils, .nils, .int
 IntKind.i64 0, .int .i64 0, .nils] ∧ eqqQ [AV.int .i64 6, .int .i64 n_0, .int .i64 n_3, .int .i64 0, .int .i64 0, .int .i64 0, .int .i64 0, .int .i64 0, .nils, .nils, .int .i64
 n_6, .int .i64 n_15, .nils, .str l'_16, .bool b'_17] ∧ eqqQ (AV.ptr 1 15 0) ∧ eqqQ (AV.int .i64 n_12) ∧ eqqQ (AV.int .i64 n_9) ∧ AV.nils = AV.nils ∧ True) ∨ ∃ x_18 : List Int × List UInt8 × Bool, Lf (1 ≤ x_18.1.length ∧
 x_18.1.length ≤ n_9.toNat + 7 ∧ sgoM n_9 l'_16 b'_17 x_18.1 x_18.2.1 x_18.2.2) ∧ eqqQ [AV.int .i64 0, .int .i64 0, .int .i64 0, .int .i64 0, .int .i64 0, .int .i64 0, .int .i64 0, .int .i64
 0, .nils, .nils, .int .i64 0, .int .i64 0, .nils] ∧ q4XQ_38f_2 n_0 n_3 n_6 n_15 l'_16 b'_17 x_18 ∧ False) ∧ (∀ x_18 : Nat, Lf (x_18 = 0) → exI .i64 0 (fun n_19 => bif decide (n_19 < n_9) then bif b'_17 then q4XQ_38f_0
 n_12 n_9 b'_17 n_0 n_3 n_6 n_15 l'_16 Q else Lf ((0 : Int) ≤ (2 : Int) ∧ (2 : Int) ≤ (4 : Int) ∧ okH [Blk.mk BK.exact true [.int .i64 0, .int .i64 0, .int .i64 0, .int .i64 0, .int .i64 0, .int
 IntKind.i64 0, .int .i64 0, .int .i64 0, .nils, .nils, .int .i64 0, .int .i64 0, .nils], Blk.mk BK.exact true [.int .i64 6, .int .i64 n_0, .int .i64 n_3, .int .i64 0, .int .i64
 0, .int .i64 0, .int .i64 0, .int .i64 0, .nils, .nils, .int .i64 n_6, .int .i64 n_15, .nils, .str l'_16, .bool b'_17]]) ∧ ∀ n_20 : Int, ∀ l'_21 : List UInt8, ∀ b'_22 : Bool, Lf (tkM (Int.toNat 2) l'_16
 b'_17 = Prod.mk n_20 (Prod.mk l'_21 b'_22)) → exI .i64 (Int.fdiv n_20 4096) (fun n_23 => exW .i64 (((n_23 % 18446744073709551616).toNat &&& 3 : Nat) : Int) (fun n_24 => exI .i64 (Int.fdiv n_20 1024) (fun n_25 => exW
 IntKind.i64 (((n_25 % 18446744073709551616).toNat &&& 3 : Nat) : Int) (fun n_26 => exI .i64 (Int.fdiv n_20 256) (fun n_27 => exW .i64 (((n_27 % 18446744073709551616).toNat &&& 3 : Nat) : Int) (fun n_28 => exI .i64
 (Int.fdiv n_20 64) (fun n_29 => exW .i64 (((n_29 % 18446744073709551616).toNat &&& 3 : Nat) : Int) (fun n_30 => exI .i64 (Int.fdiv n_20 16) (fun n_31 => exW .i64 (((n_31 % 18446744073709551616).toNat &&& 3 : Nat) :
 Int) (fun n_32 => exI .i64 (Int.fdiv n_20 4) (fun n_33 => exW .i64 (((n_33 % 18446744073709551616).toNat &&& 3 : Nat) : Int) (fun n_34 => exI .i64 (Int.fdiv n_20 1) (fun n_35 => exW .i64 (((n_35 %
 18446744073709551616).toNat &&& 3 : Nat) : Int) (fun n_36 => (True ∧ (0 : Nat) = (0 : Nat)) ∧ ((∃ y_37 : Nat, Lf (y_37 = 0) ∧ n_9.toNat + 1 < n_9.toNat + 1 ∧ q4XQ_38f_1 n_0 n_3 n_6 n_15 l'_21 b'_22 l'_16 b'_17) ∨ ∃ y_37 : List Int × List
 UInt8 × Bool, Lf (1 ≤ y_37.1.length ∧ y_37.1.length ≤ n_9.toNat + 7 ∧ sgoM n_9 l'_16 b'_17 y_37.1 y_37.2.1 y_37.2.2) ∧ n_9.toNat - y_37.1.length < n_9.toNat + 1 ∧ eqqQ [AV.int .i64 0, .int .i64 0, .int .i64 0, .int
 IntKind.i64 0, .int .i64 0, .int .i64 0, .int .i64 0, .int .i64 0, .nils, .nils, .int .i64 0, .int .i64 0, .nils] ∧ q4XQ_38f_2 n_0 n_3 n_6 n_15 l'_21 b'_22 y_37 ∧ [AV.int .i64 n_24, .int
 IntKind.i64 n_26, .int .i64 n_28, .int .i64 n_30, .int .i64 n_32, .int .i64 n_34, .int .i64 n_36] = cellsI y_37.1 ∧ eqqQ (AV.ptr 1 15 0) ∧ eqqQ (AV.int .i64 n_12) ∧ eqqQ (AV.int .i64 n_9) ∧ AV.sl 2 7 0 7
 1 = AV.sl 2 y_37.1.length 0 y_37.1.length 1 ∧ True))))))))))))))) else q4XQ_38f_0 n_12 n_9 b'_17 n_0 n_3 n_6 n_15 l'_16 Q)) ∧ ∀ x_18 : List Int × List UInt8 × Bool, Lf (1 ≤ x_18.1.length ∧ x_18.1.length ≤ n_9.toNat + 7 ∧ sgoM n_9 l'_16
 b'_17 x_18.1 x_18.2.1 x_18.2.2) → ckQ (Nat.beq (cellsI x_18.1).length x_18.1.length) (exI .i64 (x_18.1.length : Int) (fun n_19 => bif decide (n_19 < n_9) then bif x_18.2.2 then exW .i64 (n_12 * 256) (fun n_20 => tloopK x_18
 n_9 n_20 n_0 n_3 n_6 n_15 Q) else Lf ((0 : Int) ≤ (2 : Int) ∧ (2 : Int) ≤ (4 : Int) ∧ okH [Blk.mk BK.exact true [.int .i64 0, .int .i64 0, .int .i64 0, .int .i64 0, .int .i64 0, .int .i64 0, .int
 IntKind.i64 0, .int .i64 0, .nils, .nils, .int .i64 0, .int .i64 0, .nils], Blk.mk BK.exact true [.int .i64 6, .int .i64 n_0, .int .i64 n_3, .int .i64 0, .int .i64 0, .int .i64
 0, .int .i64 0, .int .i64 0, .nils, .nils, .int .i64 n_6, .int .i64 n_15, .nils, .str x_18.2.1, .bool x_18.2.2], Blk.mk BK.grow true (cellsI x_18.1)]) ∧ ∀ n_20 : Int, ∀ l'_21 : List UInt8, ∀ b'_22 : Bool, Lf
 (tkM (Int.toNat 2) x_18.2.1 x_18.2.2 = Prod.mk n_20 (Prod.mk l'_21 b'_22)) → exI .i64 (Int.fdiv n_20 4096) (fun n_23 => exW .i64 (((n_23 % 18446744073709551616).toNat &&& 3 : Nat) : Int) (fun n_24 => ckQ (Nat.beq (cellsI
 x_18.1).length x_18.1.length && true && Nat.beq (0 + x_18.1.length * 1) x_18.1.length && Nat.ble (x_18.1.length + 1) 1099511627776 && Nat.ble ((x_18.1.length + 1) * 8) 1099511627776) (exI .i64 (Int.fdiv n_20 1024) (fun n_25 => exW
 IntKind.i64 (((n_25 % 18446744073709551616).toNat &&& 3 : Nat) : Int) (fun n_26 => ckQ (Nat.beq (cellsI x_18.1 ++ [AV.int .i64 n_24]).length (x_18.1.length + 1) && true && Nat.beq (0 + (x_18.1.length + 1) * 1) (x_18.1.length + 1) &&
 Nat.ble (x_18.1.length + 1 + 1) 1099511627776 && Nat.ble ((x_18.1.length + 1 + 1) * 8) 1099511627776) (exI .i64 (Int.fdiv n_20 256) (fun n_27 => exW .i64 (((n_27 % 18446744073709551616).toNat &&& 3 : Nat) : Int) (fun n_28 =>
 ckQ (Nat.beq (cellsI x_18.1 ++ [AV.int .i64 n_24] ++ [AV.int .i64 n_26]).length (x_18.1.length + 1 + 1) && true && Nat.beq (0 + (x_18.1.length + 1 + 1) * 1) (x_18.1.length + 1 + 1) && Nat.ble (x_18.1.length + 1 + 1 + 1) 1099511627776 &&
 Nat.ble ((x_18.1.length + 1 + 1 + 1) * 8) 1099511627776) (exI .i64 (Int.fdiv n_20 64) (fun n_29 => exW .i64 (((n_29 % 18446744073709551616).toNat &&& 3 : Nat) : Int) (fun n_30 => ckQ (Nat.beq (cellsI x_18.1 ++ [AV.int .i64
 n_24] ++ [AV.int .i64 n_26] ++ [AV.int .i64 n_28]).length (x_18.1.length + 1 + 1 + 1) && true && Nat.beq (0 + (x_18.1.length + 1 + 1 + 1) * 1) (x_18.1.length + 1 + 1 + 1) && Nat.ble (x_18.1.length + 1 + 1 + 1 + 1) 1099511627776 && Nat.ble
 ((x_18.1.length + 1 + 1 + 1 + 1) * 8) 1099511627776) (exI .i64 (Int.fdiv n_20 16) (fun n_31 => exW .i64 (((n_31 % 18446744073709551616).toNat &&& 3 : Nat) : Int) (fun n_32 => ckQ (Nat.beq (cellsI x_18.1 ++ [AV.int .i64 n_24]
 ++ [AV.int .i64 n_26] ++ [AV.int .i64 n_28] ++ [AV.int .i64 n_30]).length (x_18.1.length + 1 + 1 + 1 + 1) && true && Nat.beq (0 + (x_18.1.length + 1 + 1 + 1 + 1) * 1) (x_18.1.length + 1 + 1 + 1 + 1) && Nat.ble (x_18.1.length + 1 + 1 + 1 +
 1 + 1) 1099511627776 && Nat.ble ((x_18.1.length + 1 + 1 + 1 + 1 + 1) * 8) 1099511627776) (exI .i64 (Int.fdiv n_20 4) (fun n_33 => exW .i64 (((n_33 % 18446744073709551616).toNat &&& 3 : Nat) : Int) (fun n_34 => ckQ (Nat.beq
 (cellsI x_18.1 ++ [AV.int .i64 n_24] ++ [AV.int .i64 n_26] ++ [AV.int .i64 n_28] ++ [AV.int .i64 n_30] ++ [AV.int .i64 n_32]).length (x_18.1.length + 1 + 1 + 1 + 1 + 1) && true && Nat.beq (0 + (x_18.1.length + 1 + 1 + 1 + 1 + 1) *
 1) (x_18.1.length + 1 + 1 + 1 + 1 + 1) && Nat.ble (x_18.1.length + 1 + 1 + 1 + 1 + 1 + 1) 1099511627776 && Nat.ble ((x_18.1.length + 1 + 1 + 1 + 1 + 1 + 1) * 8) 1099511627776) (exI .i64 (Int.fdiv n_20 1) (fun n_35 => exW .i64
 (((n_35 % 18446744073709551616).toNat &&& 3 : Nat) : Int) (fun n_36 => ckQ (Nat.beq (cellsI x_18.1 ++ [AV.int .i64 n_24] ++ [AV.int .i64 n_26] ++ [AV.int .i64 n_28] ++ [AV.int .i64 n_30] ++ [AV.int .i64 n_32] ++ [AV.int .i64 n_34]).length
 (x_18.1.length + 1 + 1 + 1 + 1 + 1 + 1) && true && Nat.beq (0 + (x_18.1.length + 1 + 1 + 1 + 1 + 1 + 1) * 1) (x_18.1.length + 1 + 1 + 1 + 1 + 1 + 1) && Nat.ble (x_18.1.length + 1 + 1 + 1 + 1 + 1 + 1 + 1) 1099511627776 && Nat.ble
 ((x_18.1.length + 1 + 1 + 1 + 1 + 1 + 1 + 1) * 8) 1099511627776) ((True ∧ (0 : Nat) = (0 : Nat)) ∧ ((∃ y_37 : Nat, Lf (y_37 = 0) ∧ n_9.toNat + 1 < n_9.toNat - x_18.1.length ∧ q4XQ_38f_1 n_0 n_3 n_6 n_15 l'_21 b'_22 l'_16 b'_17) ∨ ∃ y_37 :
 List Int × List UInt8 × Bool, Lf (1 ≤ y_37.1.length ∧ y_37.1.length ≤ n_9.toNat + 7 ∧ sgoM n_9 l'_16 b'_17 y_37.1 y_37.2.1 y_37.2.2) ∧ n_9.toNat - y_37.1.length < n_9.toNat - x_18.1.length ∧ eqqQ [AV.int .i64 0, .int .i64 0, .int
 IntKind.i64 0, .int .i64 0, .int .i64 0, .int .i64 0, .int .i64 0, .int .i64 0, .nils, .nils, .int .i64 0, .int .i64 0, .nils] ∧ [AV.int .i64 6, .int .i64 n_0, .int .i64 n_3,
 .int .i64 0, .int .i64 0, .int .i64 0, .int .i64 0, .int .i64 0, .nils, .nils, .int .i64 n_6, .int .i64 n_15, .nils, .str l'_21, .bool b'_22] = [AV.int .i64 6, .int .i64 n_0,
 .int .i64 n_3, .int .i64 0, .int .i64 0, .int .i64 0, .int .i64 0, .int .i64 0, .nils, .nils, .int .i64 n_6, .int .i64 n_15, .nils, .str y_37.2.1, .bool y_37.2.2] ∧ cellsI x_18.1 ++
 [AV.int .i64 n_24] ++ [AV.int .i64 n_26] ++ [AV.int .i64 n_28] ++ [AV.int .i64 n_30] ++ [AV.int .i64 n_32] ++ [AV.int .i64 n_34] ++ [AV.int .i64 n_36] = cellsI y_37.1 ∧ eqqQ (AV.ptr 1 15 0) ∧ eqqQ (AV.int .i64 n_12) ∧ eqqQ (AV.int .i64
 n_9) ∧ AV.sl 2 (x_18.1.length + 1 + 1 + 1 + 1 + 1 + 1 + 1) 0 (x_18.1.length + 1 + 1 + 1 + 1 + 1 + 1 + 1) 1 = AV.sl 2 y_37.1.length 0 y_37.1.length 1 ∧ True)))))))))))))))))))))) else exW .i64 (n_12 * 256) (fun n_20 => tloopK x_18
 n_9 n_20 n_0 n_3 n_6 n_15 Q)))) := by kernel_rfl

theorem cellsI_inj {a b : List Int} (h : cellsI a = cellsI b) : a = b := by
 have := congrArg (List.map unI) h
 simpa [cellsI, unI, List.map_map, Function.comp_def] using this
theorem getT {xs : List Int} {i j : Nat} (hi : i < xs.length) (hj : j = i) {K : Int → Prop} (hk : K (xs.getD i 0)) : ∃ n : Int, (((cellsI xs).drop j).take 1).getD 0 AV.undef = AV.int .i64 n ∧ K n := by
 subst hj
 refine ⟨_, ?_, hk⟩
 rw [List.getD_eq_getElem?_getD, List.getElem?_take, if_pos (by omega), List.getElem?_drop, Nat.add_zero]
 simp [cellsI, hi]
theorem out_T {H : List Blk} {f a ba ro : Int} {acc : List Int} {fl : Bool} (hH : H[3]? = some ⟨.grow, true, cellsI acc⟩) :
  outM (.tup [.agg [.int .i64 6, .int .i64 f, .int .i64 a, .int .i64 0, .int .i64 0, .int .i64 0, .int .i64 0, .int .i64 0, .nils, .nils, .int .i64 ba, .int .i64 ro, .sl 3 acc.length 0 acc.length 1], .bool fl]) H = .tup [.agg (ctC ⟨6, f, a, 0, 0, 0, 0, 0, [], [], ba, ro, acc⟩), .bool fl] := by
 have e : frzV 0 H 7 (.sl 3 acc.length 0 acc.length 1) = .lst 0 (cellsI acc) acc.length 1 :=
  frz_sl (d := 5) hH (cellsI_len acc) (by omega) (by simp) (by rw [List.drop_zero]; exact List.take_of_length_le (by rw [cellsI_len]; omega)) (plain_cellsI acc)
 show ctK (.tup [.agg [.int .i64 6, .int .i64 f, .int .i64 a, .int .i64 0, .int .i64 0, .int .i64 0, .int .i64 0, .int .i64 0, .nils, .nils, .int .i64 ba, .int .i64 ro, frzV 0 H 7 (.sl 3 acc.length 0 acc.length 1)], .bool fl]) = _
 rw [e]
 rfl
theorem endB {b : Bool} {P : Bool → Prop} (h : P (!b)) : bif b then P false else P true := by cases b <;> exact h
theorem tm_bad {sg : List Int} {n i : Nat} {la : Int} {l : List UInt8} {b : Bool} {acc : List Int} (h : b = true ∨ sg.getD i 0 = 3) : tmRdM sg (n + 1) i la l b acc = (acc, true) := by rw [tmRdM, if_pos h]
theorem tm_0 {sg : List Int} {n i : Nat} {la : Int} {l : List UInt8} {b : Bool} {acc : List Int} (h : b = false) (h0 : sg.getD i 0 = 0) : tmRdM sg (n + 1) i la l b acc = tmRdM sg n (i + 1) la l b (acc ++ [-1]) := by
 rw [tmRdM, if_neg (by rw [h, h0]; simp), if_pos h0]
theorem tm_1 {sg : List Int} {n i : Nat} {la x : Int} {l l' : List UInt8} {b b' : Bool} {acc : List Int} (h : b = false) (h0 : sg.getD i 0 = 1) (e : tkM 1 l b = (x, l', b')) : tmRdM sg (n + 1) i la l b acc = tmRdM sg n (i + 1) (la + x) l' b' (acc ++ [la + x]) := by
 rw [tmRdM, if_neg (by rw [h, h0]; simp), if_neg (by omega), if_pos h0, e]
theorem tm_2 {sg : List Int} {n i : Nat} {la x : Int} {l l' : List UInt8} {b b' : Bool} {acc : List Int} (h : b = false) (h3 : sg.getD i 0 ≠ 3) (h0 : sg.getD i 0 ≠ 0) (h1 : sg.getD i 0 ≠ 1) (e : tkM 2 l b = (x, l', b')) : tmRdM sg (n + 1) i la l b acc = tmRdM sg n (i + 1) (la + sxM x) l' b' (acc ++ [la + sxM x]) := by
 rw [tmRdM, if_neg (by rw [h]; simpa using h3), if_neg h0, if_neg h1, e]
theorem sxI {x : Int} (hx : 0 ≤ x ∧ x < 65536) {K : Int → Prop} (h : K (sxM x)) : ∃ n, AV.int .i16 (IntKind.wrap .i16 x) = AV.int .i16 n ∧ ∃ m, AV.int .i64 (IntKind.wrap .i64 n) = AV.int .i64 m ∧ K m := by
 have e : IntKind.wrap .i16 x = sxM x := by
  unfold sxM
  simp only [IntKind.wrap, IntKind.bits, IntKind.signed, Bool.true_and, ge_iff_le, decide_eq_true_eq]
  have e2 : (2 : Int) ^ 16 = 65536 := rfl
  have e3 : (2 : Int) ^ (16 - 1) = 32768 := rfl
  rw [e2, e3]
  split <;> split <;> omega
 rw [e]
 refine ⟨_, rfl, ?_⟩
 unfold sxM at h ⊢
 split at h
 ·rename_i h1; rw [if_pos h1]; exact wrapI (by omega) (by omega) h
 ·rename_i h1; rw [if_neg h1]; exact wrapI (by omega) (by omega) h
theorem sx_bd {x : Int} (hx : 0 ≤ x ∧ x < 65536) : -32768 ≤ sxM x ∧ sxM x < 32768 := by unfold sxM; split <;> omega
theorem tk_bd1 {l l' : List UInt8} {b b' : Bool} {n : Int} (h : tkM 1 l b = (n, l', b')) : 0 ≤ n ∧ n < 65536 := by
 have := tk_bd h (by decide)
 unfold tkM at h
 split at h
 ·simp only [Prod.mk.injEq] at h; omega
 ·simp only [Prod.mk.injEq] at h
  have h1 := num_lt (l.take 1)
  have h2 : (256 : Int) ^ (l.take 1).length ≤ 65536 := by
   have : (l.take 1).length ≤ 1 := by rw [List.length_take]; omega
   generalize (l.take 1).length = m at this
   obtain rfl | rfl : m = 0 ∨ m = 1 := by omega
   all_goals decide
  omega
theorem tk_bad {k : Nat} {l l' : List UInt8} {b b' : Bool} {n : Int} (h : tkM k l b = (n, l', b')) : b' = false → b = false := by
 unfold tkM at h
 split at h
 ·simp only [Prod.mk.injEq] at h; intro hb; rw [hb] at h; simp at h
 ·simp only [Prod.mk.injEq] at h; intro hb; rw [hb] at h; exact h.2.2
theorem tloop_ok (sg0 : List Int) (l : List UInt8) (b : Bool) (c la n0 n3 n6 n15 : Int) (hc : 0 ≤ c ∧ c ≤ 65535) (hsg : b = false → c ≤ sg0.length) (hln : sg0.length ≤ 100000) (hla : 0 ≤ la ∧ la ≤ 4294967296) (Q : Out → List Blk → Gh → Prop)
  (hq : ∀ tm bf, tmRdM sg0 c.toNat 0 la l b [] = (tm, bf) → ∀ v H, outM v H = .tup [.agg (ctC ⟨6, n0, n3, 0, 0, 0, 0, 0, [], [], n6, n15, tm⟩), .bool (!bf)] → Q (.ret v) H {}) : tloopK (sg0, l, b) c la n0 n3 n6 n15 Q := by
 unfold tloopK
 refine ⟨.inl ⟨sg0, ⟨rfl, rfl, hsg, hla.1, hla.2⟩, rfl, rfl, rfl, rfl, rfl, rfl, rfl, rfl, trivial⟩, ?_, ?_⟩
 ·rintro sg ⟨h1, h2, hs3, h4, h5⟩
  obtain rfl := cellsI_inj h1
  dsimp only at hs3 ⊢
  refine splitD (fun h => ?_) (fun h => ?_)
  ·obtain ⟨N, hN⟩ : ∃ N, c.toNat = N + 1 := ⟨c.toNat - 1, by omega⟩
   refine splitB (fun hb => hq [] true (by rw [hN, tm_bad (.inl hb)]) _ _ rfl) (fun hb => ?_)
   have hl := hs3 hb
   refine ckI (by simp [cellsI_len]; omega) (ckI (by simp [cellsI_len]; omega) (getT (xs := sg0) (i := 0) (by omega) (by simp) (splitE (fun s3 => ?_) (fun s3 => ?_))))
   ·exact hq [] true (by rw [hN, tm_bad (.inr s3)]) _ _ rfl
   ·refine ckI (by simp [cellsI_len]; omega) (ckI (by simp [cellsI_len]; omega) (getT (xs := sg0) (i := 0) (by omega) (by simp) (splitE (fun s0 => ?_) (fun s0 => ?_))))
    ·exact ⟨_, rfl, ⟨trivial, rfl⟩, .inr ⟨(sg0, 1, la, l, b, [-1]), ⟨rfl, rfl, hs3, by simp, ⟨by dsimp only; omega, rfl, fun h => h, by dsimp only; omega, by dsimp only; omega, by rw [hN, tm_0 hb s0]; rfl⟩⟩, by dsimp only; omega, rfl, rfl, rfl, rfl, rfl, rfl, rfl, rfl, rfl, trivial⟩⟩
    ·refine ckI (by simp [cellsI_len]; omega) (ckI (by simp [cellsI_len]; omega) (getT (xs := sg0) (i := 0) (by omega) (by simp) (splitE (fun s1 => ?_) (fun s1 => ?_))))
     ·refine ⟨⟨by omega, by omega, okH_b ⟨rfl, rfl⟩ ⟨rfl, rfl⟩ (plain_I _)⟩, ?_⟩
      rintro x l2 b2 ⟨e⟩
      have hx := tk_bd1 e
      exact wrapI (by omega) (by omega) (⟨_, rfl, ⟨trivial, rfl⟩, .inr ⟨(sg0, 1, la + x, l2, b2, [la + x]), ⟨rfl, rfl, hs3, by simp, ⟨by dsimp only; omega, rfl, fun h => tk_bad e h, by dsimp only; omega, by dsimp only; omega, by rw [hN, tm_1 hb s1 e]; rfl⟩⟩, by dsimp only; omega, rfl, rfl, rfl, rfl, rfl, rfl, rfl, rfl, rfl, trivial⟩⟩)
     ·refine ⟨⟨by omega, by omega, okH_b ⟨rfl, rfl⟩ ⟨rfl, rfl⟩ (plain_I _)⟩, ?_⟩
      rintro x l2 b2 ⟨e⟩
      have hx := tk_bd2 e
      have hsx := sx_bd hx
      exact sxI hx (wrapI (by omega) (by omega) (⟨_, rfl, ⟨trivial, rfl⟩, .inr ⟨(sg0, 1, la + sxM x, l2, b2, [la + sxM x]), ⟨rfl, rfl, hs3, by simp, ⟨by dsimp only; omega, rfl, fun h => tk_bad e h, by dsimp only; omega, by dsimp only; omega, by rw [hN, tm_2 hb s3 s0 s1 e]; rfl⟩⟩, by dsimp only; omega, rfl, rfl, rfl, rfl, rfl, rfl, rfl, rfl, rfl, trivial⟩⟩))
  ·have hN : c.toNat = 0 := by omega
   refine endB (P := fun f => Q (.ret (.tup [.agg _, .bool f])) [] {}) ?_
   exact hq [] b (by rw [hN]; rfl) _ _ rfl
 ·rintro ⟨sg, i, la1, l1, b1, ac⟩ ⟨h1, h2, hs3, h4, ⟨g1, g2, g3, g4, g5, g6⟩⟩
  obtain rfl := cellsI_inj h1
  dsimp only at hs3 h4 g1 g2 g3 g4 g5 g6 ⊢
  refine splitD (fun h => ?_) (fun h => ?_)
  ·obtain ⟨N, hN⟩ : ∃ N, c.toNat - i = N + 1 := ⟨c.toNat - i - 1, by omega⟩
   rw [hN] at g6
   refine splitB (fun hb => hq ac true (by rw [g6, tm_bad (.inl hb)]) _ _ (out_T rfl)) (fun hb => ?_)
   have hl := hs3 (g3 hb)
   refine ckI (by simp [cellsI_len]; omega) (ckI (by simp [cellsI_len]; omega) (getT (xs := sg0) (i := i) (by omega) (by simp) (splitE (fun s3 => ?_) (fun s3 => ?_))))
   ·exact hq ac true (by rw [g6, tm_bad (.inr s3)]) _ _ (out_T rfl)
   ·refine ckI (by simp [cellsI_len]; omega) (ckI (by simp [cellsI_len]; omega) (getT (xs := sg0) (i := i) (by omega) (by simp) (splitE (fun s0 => ?_) (fun s0 => ?_))))
    ·exact ckI (by simp [cellsI_len]; omega) (wrapI (by omega) (by omega) ⟨⟨trivial, rfl⟩, .inr ⟨(sg0, i + 1, la1, l1, b1, ac ++ [-1]), ⟨rfl, rfl, hs3, by simp, ⟨by dsimp only; omega, by simp; omega, g3, by dsimp only; omega, by dsimp only; omega, by rw [g6, tm_0 hb s0, show c.toNat - (i + 1) = N by omega]⟩⟩, by dsimp only; omega, rfl, by simp, rfl, by simp [cellsI], rfl, rfl, rfl, rfl, rfl, trivial⟩⟩)
    ·refine ckI (by simp [cellsI_len]; omega) (ckI (by simp [cellsI_len]; omega) (getT (xs := sg0) (i := i) (by omega) (by simp) (splitE (fun s1 => ?_) (fun s1 => ?_))))
     ·refine ⟨⟨by omega, by omega, okH_d ⟨rfl, rfl⟩ ⟨rfl, rfl⟩ (plain_I _) (plain_I _)⟩, ?_⟩
      rintro x l2 b2 ⟨e⟩
      have hx := tk_bd1 e
      exact wrapI (by omega) (by omega) (ckI (by simp [cellsI_len]; omega) (wrapI (by omega) (by omega) ⟨⟨trivial, rfl⟩, .inr ⟨(sg0, i + 1, la1 + x, l2, b2, ac ++ [la1 + x]), ⟨rfl, rfl, hs3, by simp, ⟨by dsimp only; omega, by simp; omega, fun h => g3 (tk_bad e h), by dsimp only; omega, by dsimp only; omega, by rw [g6, tm_1 hb s1 e, show c.toNat - (i + 1) = N by omega]⟩⟩, by dsimp only; omega, rfl, by simp, rfl, by simp [cellsI], rfl, rfl, rfl, rfl, rfl, trivial⟩⟩))
     ·refine ⟨⟨by omega, by omega, okH_d ⟨rfl, rfl⟩ ⟨rfl, rfl⟩ (plain_I _) (plain_I _)⟩, ?_⟩
      rintro x l2 b2 ⟨e⟩
      have hx := tk_bd2 e
      have hsx := sx_bd hx
      exact sxI hx (wrapI (by omega) (by omega) (ckI (by simp [cellsI_len]; omega) (wrapI (by omega) (by omega) ⟨⟨trivial, rfl⟩, .inr ⟨(sg0, i + 1, la1 + sxM x, l2, b2, ac ++ [la1 + sxM x]), ⟨rfl, rfl, hs3, by simp, ⟨by dsimp only; omega, by simp; omega, fun h => g3 (tk_bad e h), by dsimp only; omega, by dsimp only; omega, by rw [g6, tm_2 hb s3 s0 s1 e, show c.toNat - (i + 1) = N by omega]⟩⟩, by dsimp only; omega, rfl, by simp, rfl, by simp [cellsI], rfl, rfl, rfl, rfl, rfl, trivial⟩⟩)))
  ·have hN : c.toNat - i = 0 := by omega
   rw [hN] at g6
   exact endB (P := fun f => Q (.ret (.tup [.agg _, .bool f])) _ {}) (hq ac b1 (by rw [g6]; rfl) _ _ (out_T rfl))
theorem sg_step {f : Nat} {c : Int} {acc : List Int} {l l' : List UInt8} {b b' : Bool} {x : Int} (h : (acc.length : Int) < c ∧ b = false) (e : tkM 2 l b = (x, l', b')) : sgRdM (f + 1) c acc l b = sgRdM f c (acc ++ sg7M x) l' b' := by
 rw [sgRdM, if_pos h, e]
theorem sgo_zero (c : Int) (l0 : List UInt8) (b0 : Bool) : sgoM c l0 b0 [] l0 b0 := ⟨c.toNat, by simp; omega, rfl⟩
theorem sgo_step {c : Int} {l0 l l' : List UInt8} {b0 b b' : Bool} {acc : List Int} {x : Int} (g : sgoM c l0 b0 acc l b) (h : (acc.length : Int) < c ∧ b = false) (e : tkM 2 l b = (x, l', b')) : sgoM c l0 b0 (acc ++ sg7M x) l' b' := by
 obtain ⟨f, g1, g2⟩ := g
 obtain ⟨f, rfl⟩ : ∃ m, f = m + 1 := ⟨f - 1, by omega⟩
 refine ⟨f, by simp [sg7M]; omega, ?_⟩
 rw [g2, sg_step h e]
theorem sgo_end {c : Int} {l0 l : List UInt8} {b0 b : Bool} {acc : List Int} (g : sgoM c l0 b0 acc l b) (h : ¬ ((acc.length : Int) < c ∧ b = false)) : sgRdM c.toNat c [] l0 b0 = (acc, l, b) := by
 obtain ⟨f, _, g2⟩ := g
 rw [g2]
 cases f with
 | zero => rfl
 | succ f => rw [sgRdM, if_neg h]
theorem and3 {q : Int} (hq : 0 ≤ q ∧ q < 65536) : ((q % 18446744073709551616).toNat &&& 3 : Nat) = (q % 4).toNat := by
 rw [show (3 : Nat) = 2 ^ 2 - 1 from rfl, Nat.and_two_pow_sub_one_eq_mod]
 omega
theorem sgI {x d : Int} (hx : 0 ≤ x ∧ x < 65536) (hd : 1 ≤ d) {K : Int → Prop} (h : K (x / d % 4)) : ∃ n, AV.int .i64 (Int.fdiv x d) = AV.int .i64 n ∧ ∃ m, AV.int .i64 (IntKind.wrap .i64 (((n % 18446744073709551616).toNat &&& 3 : Nat) : Int)) = AV.int .i64 m ∧ K m := by
 refine ⟨_, rfl, ?_⟩
 rw [Int.fdiv_eq_ediv_of_nonneg _ (by omega)]
 have h1 : 0 ≤ x / d := Int.ediv_nonneg hx.1 (by omega)
 have h2 : x / d ≤ x := Int.ediv_le_self _ hx.1
 generalize x / d = q at h h1 h2 ⊢
 rw [and3 ⟨h1, by omega⟩]
 exact wrapI (by omega) (by omega) (by rwa [show (((q % 4).toNat : Nat) : Int) = q % 4 by omega])
theorem rd_f (s : List UInt8) (hs : s.length ≤ 10000) (Q : Out → List Blk → Gh → Prop)
  (hq : ∀ n l b n1 l1 b1 ba l2 b2 c l3 b3 rf l4 b4 ro l5 b5 sg l6 b6 tm bf, (tkM 4 s false = (n, l, b) ∧ tkM 4 l b = (n1, l1, b1) ∧ tkM 2 l1 b1 = (ba, l2, b2) ∧ tkM 2 l2 b2 = (c, l3, b3) ∧ tkM 3 l3 b3 = (rf, l4, b4) ∧ tkM 1 l4 b4 = (ro, l5, b5)) → sgRdM c.toNat c [] l5 b5 = (sg, l6, b6) → tmRdM sg c.toNat 0 (rf * 256) l6 b6 [] = (tm, bf) → ∀ v H, outM v H = .tup [.agg (ctC ⟨6, n, n1, 0, 0, 0, 0, 0, [], [], ba, ro, tm⟩), .bool (!bf)] → Q (.ret v) H {}) : ∃ hv hb, goal_38f hv hb s Q := by
 obtain ⟨hv, hb', e⟩ : ∃ hv hb, goal_38f hv hb s Q = _ := ⟨_, _, vc_38f s Q⟩
 refine ⟨hv, hb', e.mpr ?_⟩
 unfold q4XQ_38f_0 q4XQ_38f_1 q4XQ_38f_2
 clear e
 refine ⟨⟨by omega, by omega, okH_a ⟨rfl, rfl⟩ ⟨rfl, rfl⟩⟩, ?_⟩
 rintro x1 l1 b1 ⟨d1⟩
 refine ⟨⟨by omega, by omega, okH_a ⟨rfl, rfl⟩ ⟨rfl, rfl⟩⟩, ?_⟩
 rintro x2 l2 b2 ⟨d2⟩
 refine ⟨⟨by omega, by omega, okH_a ⟨rfl, rfl⟩ ⟨rfl, rfl⟩⟩, ?_⟩
 rintro x3 l3 b3 ⟨d3⟩
 refine ⟨⟨by omega, by omega, okH_a ⟨rfl, rfl⟩ ⟨rfl, rfl⟩⟩, ?_⟩
 rintro x4 l4 b4 ⟨d4⟩
 refine ⟨⟨by omega, by omega, okH_a ⟨rfl, rfl⟩ ⟨rfl, rfl⟩⟩, ?_⟩
 rintro x5 l5 b5 ⟨d5⟩
 refine ⟨⟨by omega, by omega, okH_a ⟨rfl, rfl⟩ ⟨rfl, rfl⟩⟩, ?_⟩
 rintro x6 l6 b6 ⟨d6⟩
 have hc := tk_bd2 d4
 have hrf := tk_bd d5 (by decide)
 have hq := fun sg l b tm bf e1 e2 => hq _ _ _ _ _ _ _ _ _ _ _ _ _ _ _ _ _ _ sg l b tm bf ⟨d1, d2, d3, d4, d5, d6⟩ e1 e2
 refine ⟨.inl ⟨0, ⟨rfl⟩, rfl, rfl, rfl, rfl, rfl, rfl, trivial⟩, ?_, ?_⟩
 ·rintro i ⟨hi⟩
  subst hi
  refine ⟨_, rfl, splitD (fun h => splitB (fun hb => ?_) (fun hb => ?_)) (fun h => ?_)⟩
  ·refine wrapI (by omega) (by omega) ⟨⟨0, ⟨rfl, .inr hb⟩, rfl, rfl, rfl, rfl, rfl, rfl, rfl, trivial⟩, ?_⟩
   have hs0 := sgo_end (sgo_zero x4 l6 b6) (by simp [hb])
   rintro i ⟨hi, hc2⟩
   subst hi
   refine splitD (fun h2 => ?_) (fun h2 => ?_)
   ·have hb6 : b6 = true := hc2.resolve_left (by omega)
    obtain ⟨N, hN⟩ : ∃ N, x4.toNat = N + 1 := ⟨x4.toNat - 1, by omega⟩
    exact ckI hb6 (hq [] l6 b6 [] true hs0 (by rw [hN, tm_bad (.inl hb6)]) _ _ rfl)
   ·have hN : x4.toNat = 0 := by omega
    refine endB (P := fun f => Q (.ret (.tup [.agg _, .bool f])) [] {}) ?_
    exact hq [] l6 b6 [] b6 hs0 (by rw [hN]; rfl) _ _ rfl
  ·refine ⟨⟨by omega, by omega, okH_a ⟨rfl, rfl⟩ ⟨rfl, rfl⟩⟩, ?_⟩
   rintro x la ba ⟨d7⟩
   have hx := tk_bd2 d7
   exact sgI hx (by omega) (sgI hx (by omega) (sgI hx (by omega) (sgI hx (by omega) (sgI hx (by omega) (sgI hx (by omega) (sgI hx (by omega) (⟨⟨trivial, rfl⟩, .inr ⟨(sg7M x, la, ba), ⟨by simp [sg7M], by simp [sg7M], sgo_step (sgo_zero x4 l6 b6) ⟨by simpa using h, hb⟩ d7⟩, by simp [sg7M]; omega, rfl, rfl, by simp [sg7M, cellsI], rfl, rfl, rfl, rfl, trivial⟩⟩)))))))
  ·refine wrapI (by omega) (by omega) ⟨⟨0, ⟨rfl, .inl (by omega)⟩, rfl, rfl, rfl, rfl, rfl, rfl, rfl, trivial⟩, ?_⟩
   have hs0 := sgo_end (sgo_zero x4 l6 b6) (by simp; omega)
   rintro i ⟨hi, hc2⟩
   subst hi
   refine splitD (fun h2 => ?_) (fun h2 => ?_)
   ·have hb6 : b6 = true := hc2.resolve_left (by omega)
    obtain ⟨N, hN⟩ : ∃ N, x4.toNat = N + 1 := ⟨x4.toNat - 1, by omega⟩
    exact ckI hb6 (hq [] l6 b6 [] true hs0 (by rw [hN, tm_bad (.inl hb6)]) _ _ rfl)
   ·have hN : x4.toNat = 0 := by omega
    refine endB (P := fun f => Q (.ret (.tup [.agg _, .bool f])) [] {}) ?_
    exact hq [] l6 b6 [] b6 hs0 (by rw [hN]; rfl) _ _ rfl
 ·rintro ⟨acc, l, b⟩ ⟨g1, g2, g3⟩
  dsimp only at g1 g2 g3 ⊢
  refine ckI (by simp [cellsI_len]) ⟨_, rfl, splitD (fun h => splitB (fun hb => ?_) (fun hb => ?_)) (fun h => ?_)⟩
  ·exact wrapI (by omega) (by omega) (tloop_ok acc l b x4 (x5 * 256) x1 x2 x3 x6 (by omega) (fun h => by simp [hb] at h) (by omega) (by omega) Q (fun tm bf ht v H ho => hq acc l b tm bf (sgo_end g3 (by simp [hb])) ht v H ho))
  ·refine ⟨⟨by omega, by omega, okH_b ⟨rfl, rfl⟩ ⟨rfl, rfl⟩ (plain_I _)⟩, ?_⟩
   rintro x la ba ⟨d7⟩
   have hx := tk_bd2 d7
   exact sgI hx (by omega) (ckI (by simp [cellsI_len]; omega) (sgI hx (by omega) (ckI (by simp [cellsI_len]; omega) (sgI hx (by omega) (ckI (by simp [cellsI_len]; omega) (sgI hx (by omega) (ckI (by simp [cellsI_len]; omega) (sgI hx (by omega) (ckI (by simp [cellsI_len]; omega) (sgI hx (by omega) (ckI (by simp [cellsI_len]; omega) (sgI hx (by omega) (ckI (by simp [cellsI_len]; omega) (⟨⟨trivial, rfl⟩, .inr ⟨(acc ++ sg7M x, la, ba), ⟨by simp [sg7M], by simp [sg7M]; omega, sgo_step g3 ⟨by omega, hb⟩ d7⟩, by simp [sg7M]; omega, rfl, rfl, by simp [sg7M, cellsI], rfl, rfl, rfl, by simp [sg7M], trivial⟩⟩))))))))))))))
  ·exact wrapI (by omega) (by omega) (tloop_ok acc l b x4 (x5 * 256) x1 x2 x3 x6 (by omega) (fun _ => by omega) (by omega) (by omega) Q (fun tm bf ht v H ho => hq acc l b tm bf (sgo_end g3 (by omega)) ht v H ho))
end Go.Proofs.YtafchcmemeinlaaDoor

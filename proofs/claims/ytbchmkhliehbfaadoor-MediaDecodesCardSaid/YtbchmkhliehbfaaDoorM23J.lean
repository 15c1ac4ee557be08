/-
  Chapter 23: a drafted packet.
-/
import Derived.Test.YtbchmkhliehbfaaDoorM23I
set_option linter.unusedSimpArgs false
set_option linter.unusedVariables false
set_option linter.unusedSectionVars false
namespace Go.Proofs.YtbchmkhliehbfaaDoor
open Go.RowKit
set_option maxRecDepth 1000000

def cells32M (ks : List Int) : List AV := ks.map (AV.int .u32)
def cellsPcM : List Xt → List AV
  | [] => []
  | x :: l => .int .u8 x.1 :: .str x.2 :: cellsPcM l
/-- the extensions of a draft: each number is greater than the one before -/
def pcsM : Int → List Xt → List Xt
  | _, [] => []
  | id, x :: l => (id + 1 + x.1 % 60, x.2.take 20) :: pcsM (id + 1 + x.1 % 60) l
def pcIdM (ps : List Xt) (j : Nat) : Int := lastOfM 0 (pcsM 0 (ps.take j))
def draftM (mk : Bool) (ty seq ti ss : Int) (tc : Nat) (ks : List Int) (tx : Nat) (ps : List Xt) (pad : Int) (pl : List UInt8) : List AV := [.bool mk, .int .u8 ty, .int .u16 seq, .int .u32 ti, .int .u32 ss, .lst tc (cells32M ks) ks.length 1, .lst tx (cellsPcM ps) ps.length 2, .int .u8 pad, .str pl]
def zeroMedM : List AV := [.bool false, .int .i64 0, .int .i64 0, .int .i64 0, .int .i64 0, .nils, .nils, .int .i64 0, .str []]
def resM (mk : Bool) (ty seq ti ss : Int) (a b : AV) (pad : Int) (pl : List UInt8) : List AV := [.bool mk, .int .i64 (ty % 128), .int .i64 seq, .int .i64 ti, .int .i64 ss, a, b, .int .i64 pad, .str (pl.take 60)]
section
variable (mk : Bool) (ty seq ti ss : Int) (tc : Nat) (ks : List Int) (tx : Nat) (ps : List Xt) (pad : Int) (pl : List UInt8)
def inv_10a : List LInv := [
  { α := Nat, pre := fun i => Lf (i = 0), st := fun i => ⟨mkT [(1, .ptr 0 9 0), (2, .ptr 1 9 0), (3, .ptr 2 9 0), (4, .int .i64 (i : Nat))], [⟨.exact, true, draftM mk ty seq ti ss tc ks tx ps pad pl⟩, ⟨.exact, true, zeroMedM⟩, ⟨.exact, true, resM mk ty seq ti ss .nils .nils pad pl⟩]⟩, mu := fun i => 4 },
  { α := Nat, pre := fun i => Lf (1 ≤ i ∧ i ≤ 3 ∧ i ≤ ks.length), st := fun i => ⟨mkT [(1, .ptr 0 9 0), (2, .ptr 1 9 0), (3, .ptr 2 9 0), (4, .int .i64 (i : Nat))], [⟨.exact, true, draftM mk ty seq ti ss tc ks tx ps pad pl⟩, ⟨.exact, true, zeroMedM⟩, ⟨.exact, false, resM mk ty seq ti ss (.sl 4 i 0 i 1) .nils pad pl⟩, ⟨.exact, true, [.int .i64 (ks.getD 0 0)]⟩, ⟨.grow, true, cellsI (ks.take i)⟩]⟩, mu := fun i => 3 - i }]
def inv_10b (s : S) : List (List LInv) := match s.hp with
  | [_, _, _] => [[
    { α := Nat, pre := fun j => Lf (j = 0), st := fun j => ⟨mkT [(1, .ptr 0 9 0), (2, .ptr 1 9 0), (3, .ptr 2 9 0), (5, .int .i64 0), (6, .int .i64 (j : Nat))], [⟨.exact, true, draftM mk ty seq ti ss tc ks tx ps pad pl⟩, ⟨.exact, true, zeroMedM⟩, ⟨.exact, true, resM mk ty seq ti ss .nils .nils pad pl⟩]⟩, mu := fun j => 5 },
    { α := Nat, pre := fun j => Lf (1 ≤ j ∧ j ≤ 4 ∧ j ≤ ps.length), st := fun j => ⟨mkT [(1, .ptr 0 9 0), (2, .ptr 1 9 0), (3, .ptr 2 9 0), (5, .int .i64 (pcIdM ps j)), (6, .int .i64 (j : Nat))], [⟨.exact, true, draftM mk ty seq ti ss tc ks tx ps pad pl⟩, ⟨.exact, true, zeroMedM⟩, ⟨.exact, false, resM mk ty seq ti ss .nils (.sl 4 (2 * j) 0 j 2) pad pl⟩, ⟨.exact, true, cellsXM (pcsM 0 (ps.take 1))⟩, ⟨.grow, true, cellsXM (pcsM 0 (ps.take j))⟩]⟩, mu := fun j => 4 - j }]]
  | _ => [[
    { α := Nat × Nat, pre := fun p => Lf (p.1 = 0 ∧ 1 ≤ p.2 ∧ p.2 ≤ 3 ∧ p.2 ≤ ks.length ∧ (p.2 = 3 ∨ p.2 = ks.length)), st := fun p => ⟨mkT [(1, .ptr 0 9 0), (2, .ptr 1 9 0), (3, .ptr 2 9 0), (5, .int .i64 0), (6, .int .i64 (p.1 : Nat))], [⟨.exact, true, draftM mk ty seq ti ss tc ks tx ps pad pl⟩, ⟨.exact, true, zeroMedM⟩, ⟨.exact, false, resM mk ty seq ti ss (.sl 4 p.2 0 p.2 1) .nils pad pl⟩, ⟨.exact, true, [.int .i64 (ks.getD 0 0)]⟩, ⟨.grow, true, cellsI (ks.take p.2)⟩]⟩, mu := fun p => 5 },
    { α := Nat × Nat, pre := fun p => Lf (1 ≤ p.1 ∧ p.1 ≤ 4 ∧ p.1 ≤ ps.length ∧ 1 ≤ p.2 ∧ p.2 ≤ 3 ∧ p.2 ≤ ks.length ∧ (p.2 = 3 ∨ p.2 = ks.length)), st := fun p => ⟨mkT [(1, .ptr 0 9 0), (2, .ptr 1 9 0), (3, .ptr 2 9 0), (5, .int .i64 (pcIdM ps p.1)), (6, .int .i64 (p.1 : Nat))], [⟨.exact, true, draftM mk ty seq ti ss tc ks tx ps pad pl⟩, ⟨.exact, true, zeroMedM⟩, ⟨.exact, false, resM mk ty seq ti ss (.sl 4 p.2 0 p.2 1) (.sl 6 (2 * p.1) 0 p.1 2) pad pl⟩, ⟨.exact, true, [.int .i64 (ks.getD 0 0)]⟩, ⟨.grow, true, cellsI (ks.take p.2)⟩, ⟨.exact, true, cellsXM (pcsM 0 (ps.take 1))⟩, ⟨.grow, true, cellsXM (pcsM 0 (ps.take p.1))⟩]⟩, mu := fun p => 4 - p.1 }]]
noncomputable def env_10 (hv : Nat → Option Pa) (hb : Nat → Option Bool) : Env := e23 sm0 (fun i => bif Nat.beq i 10000 then some (fun _ => [inv_10a mk ty seq ti ss tc ks tx ps pad pl]) else bif Nat.beq i 10002 then some (inv_10b mk ty seq ti ss tc ks tx ps pad pl) else none) hv hb
end
noncomputable def goal_10 (hv : Nat → Option Pa) (hb : Nat → Option Bool) (mk : Bool) (ty seq ti ss : Int) (tc : Nat) (ks : List Int) (tx : Nat) (ps : List Xt) (pad : Int) (pl : List UInt8) (Q : Out → List Blk → Gh → Prop) : Prop :=
  callx (env_10 mk ty seq ti ss tc ks tx ps pad pl hv hb) (wpx (env_10 mk ty seq ti ss tc ks tx ps pad pl hv hb) 1000) 10 [.agg (draftM mk ty seq ti ss tc ks tx ps pad pl)] [] {} Q
def vc_10_1 (mk : Bool) (ty : Int) (seq : Int) (ti : Int) (ss : Int) (tc : Nat) (ks : List Int) (tx : Nat) (ps : List Xt) (pad : Int) (pl : List UInt8) : Prop := (
((((AV.bool mk) :: ((AV.int .u8 ty) :: ((AV.int .u16 seq) :: ((AV.int .u32 ti) :: ((AV.int .u32 ss) :: ((AV.lst tc (cells32M ks) (List.length ks) (1 : Nat)) :: ((AV.lst tx (cellsPcM ps) (List.length ps) (2 : Nat)) :: ((AV.int .u8 pad) :: ((AV.str pl) :: []))))))))) = ((AV.bool mk) :: ((AV.int .u8 ty) :: ((AV.int .u16 seq) :: ((AV.int .u32 ti) :: ((AV.int .u32 ss) :: ((AV.lst tc (cells32M ks) (List.length ks) (1 : Nat)) :: ((AV.lst tx (cellsPcM ps) (List.length ps) (2 : Nat)) :: ((AV.int .u8 pad) :: ((AV.str pl) :: [])))))))))) ∧
 ((((AV.bool false) :: ((AV.int .i64 (0 : Int)) :: ((AV.int .i64 (0 : Int)) :: ((AV.int .i64 (0 : Int)) :: ((AV.int .i64 (0 : Int)) :: (AV.nils :: (AV.nils :: ((AV.int .i64 (0 : Int)) :: ((AV.str []) :: []))))))))) = ((AV.bool false) :: ((AV.int .i64 (0 : Int)) :: ((AV.int .i64 (0 : Int)) :: ((AV.int .i64 (0 : Int)) :: ((AV.int .i64 (0 : Int)) :: (AV.nils :: (AV.nils :: ((AV.int .i64 (0 : Int)) :: ((AV.str []) :: [])))))))))) ∧
 False)))
def vc_10_2 (mk : Bool) (ty : Int) (seq : Int) (ti : Int) (ss : Int) (tc : Nat) (ks : List Int) (tx : Nat) (ps : List Xt) (pad : Int) (pl : List UInt8) : Prop := (
(∃ x_0 : Nat, ((Lf (((1 : Nat) ≤ x_0) ∧
 ((x_0 ≤ (3 : Nat)) ∧
 (x_0 ≤ (List.length ks))))) ∧
 (vc_10_1 mk ty seq ti ss tc ks tx ps pad pl))))
def vc_10_3 (mk : Bool) (ty : Int) (seq : Int) (ti : Int) (ss : Int) (tc : Nat) (ks : List Int) (tx : Nat) (ps : List Xt) (pad : Int) (pl : List UInt8) (Q : Out → List Blk → Gh → Prop) : Prop := (
(((∃ x_0 : Nat, ((Lf (x_0 = (0 : Nat))) ∧
 ((((AV.bool mk) :: ((AV.int .u8 ty) :: ((AV.int .u16 seq) :: ((AV.int .u32 ti) :: ((AV.int .u32 ss) :: ((AV.lst tc (cells32M ks) (List.length ks) (1 : Nat)) :: ((AV.lst tx (cellsPcM ps) (List.length ps) (2 : Nat)) :: ((AV.int .u8 pad) :: ((AV.str pl) :: []))))))))) = ((AV.bool mk) :: ((AV.int .u8 ty) :: ((AV.int .u16 seq) :: ((AV.int .u32 ti) :: ((AV.int .u32 ss) :: ((AV.lst tc (cells32M ks) (List.length ks) (1 : Nat)) :: ((AV.lst tx (cellsPcM ps) (List.length ps) (2 : Nat)) :: ((AV.int .u8 pad) :: ((AV.str pl) :: [])))))))))) ∧
 ((((AV.bool false) :: ((AV.int .i64 (0 : Int)) :: ((AV.int .i64 (0 : Int)) :: ((AV.int .i64 (0 : Int)) :: ((AV.int .i64 (0 : Int)) :: (AV.nils :: (AV.nils :: ((AV.int .i64 (0 : Int)) :: ((AV.str []) :: []))))))))) = ((AV.bool false) :: ((AV.int .i64 (0 : Int)) :: ((AV.int .i64 (0 : Int)) :: ((AV.int .i64 (0 : Int)) :: ((AV.int .i64 (0 : Int)) :: (AV.nils :: (AV.nils :: ((AV.int .i64 (0 : Int)) :: ((AV.str []) :: [])))))))))) ∧
 ((((AV.bool mk) :: ((AV.int .i64 (ty % (128 : Int))) :: ((AV.int .i64 seq) :: ((AV.int .i64 ti) :: ((AV.int .i64 ss) :: (AV.nils :: (AV.nils :: ((AV.int .i64 pad) :: ((AV.str (List.take (60 : Nat) pl)) :: []))))))))) = ((AV.bool mk) :: ((AV.int .i64 (ty % (128 : Int))) :: ((AV.int .i64 seq) :: ((AV.int .i64 ti) :: ((AV.int .i64 ss) :: (AV.nils :: (AV.nils :: ((AV.int .i64 pad) :: ((AV.str (List.take (60 : Nat) pl)) :: [])))))))))) ∧
 (((AV.ptr (0 : Nat) (9 : Nat) (0 : Nat)) = (AV.ptr (0 : Nat) (9 : Nat) (0 : Nat))) ∧
 (((AV.ptr (2 : Nat) (9 : Nat) (0 : Nat)) = (AV.ptr (2 : Nat) (9 : Nat) (0 : Nat))) ∧
 (((AV.int .i64 (0 : Int)) = (AV.int .i64 (0 : Int))) ∧
 (((AV.ptr (1 : Nat) (9 : Nat) (0 : Nat)) = (AV.ptr (1 : Nat) (9 : Nat) (0 : Nat))) ∧
 (((AV.int .i64 (0 : Int)) = (AV.int .i64 (Nat.cast x_0 : Int))) ∧
 True)))))))))) ∨
 (∃ x_0 : Nat, ((Lf (((1 : Nat) ≤ x_0) ∧
 ((x_0 ≤ (4 : Nat)) ∧
 (x_0 ≤ (List.length ps))))) ∧
 (vc_10_1 mk ty seq ti ss tc ks tx ps pad pl)))) ∧
 ((∀ x_0 : Nat, ((Lf (x_0 = (0 : Nat))) →
(∃ n_1 : Int, (((AV.int .i64 (Nat.cast x_0 : Int)) = (AV.int .i64 n_1)) ∧
 (∃ n_2 : Int, (((AV.int .i64 (Nat.cast (List.length ps) : Int)) = (AV.int .i64 n_2)) ∧
 (bif (decide (n_1 < n_2)) then (∃ n_3 : Int, (((AV.int .i64 (Nat.cast x_0 : Int)) = (AV.int .i64 n_3)) ∧
 (bif (decide (n_3 < (4 : Int))) then (∃ n_4 : Int, (((AV.int .i64 (0 : Int)) = (AV.int .i64 n_4)) ∧
 (∃ n_5 : Int, (((AV.int .i64 (IntKind.wrap .i64 (n_4 + (1 : Int)))) = (AV.int .i64 n_5)) ∧
 (∃ n_6 : Int, (((AV.int .i64 (Nat.cast x_0 : Int)) = (AV.int .i64 n_6)) ∧
 (bif (((decide ((0 : Int) ≤ n_6)) && (Nat.blt (Int.toNat n_6) (List.length ps))) && true) then (bif (Nat.blt (((Int.toNat n_6) * (2 : Nat)) + (0 : Nat)) (List.length (cellsPcM ps))) then (∃ n_7 : Int, (((List.getD (cellsPcM ps) (((Int.toNat n_6) * (2 : Nat)) + (0 : Nat)) AV.undef) = (AV.int .u8 n_7)) ∧
 (∃ n_8 : Int, (((AV.int .u8 (Int.tmod n_7 (60 : Int))) = (AV.int .u8 n_8)) ∧
 (∃ n_9 : Int, (((AV.int .i64 (IntKind.wrap .i64 n_8)) = (AV.int .i64 n_9)) ∧
 (∃ n_10 : Int, (((AV.int .i64 (IntKind.wrap .i64 (n_5 + n_9))) = (AV.int .i64 n_10)) ∧
 (∃ n_11 : Int, (((AV.int .i64 (Nat.cast x_0 : Int)) = (AV.int .i64 n_11)) ∧
 (bif (((decide ((0 : Int) ≤ n_11)) && (Nat.blt (Int.toNat n_11) (List.length ps))) && true) then (bif (Nat.blt (((Int.toNat n_11) * (2 : Nat)) + (1 : Nat)) (List.length (cellsPcM ps))) then (∃ s_12 : (List UInt8), (((List.getD (cellsPcM ps) (((Int.toNat n_11) * (2 : Nat)) + (1 : Nat)) AV.undef) = (AV.str s_12)) ∧
 (∃ n_13 : Int, (((AV.int .i64 (Nat.cast x_0 : Int)) = (AV.int .i64 n_13)) ∧
 (bif (((decide ((0 : Int) ≤ n_13)) && (Nat.blt (Int.toNat n_13) (List.length ps))) && true) then (bif (Nat.blt (((Int.toNat n_13) * (2 : Nat)) + (1 : Nat)) (List.length (cellsPcM ps))) then (∃ s_14 : (List UInt8), (((List.getD (cellsPcM ps) (((Int.toNat n_13) * (2 : Nat)) + (1 : Nat)) AV.undef) = (AV.str s_14)) ∧
 (∃ n_15 : Int, (((AV.int .i64 (Nat.cast (List.length s_14) : Int)) = (AV.int .i64 n_15)) ∧
 (∃ n_16 : Int, (((AV.int .i64 (imin n_15 (20 : Int))) = (AV.int .i64 n_16)) ∧
 (bif (((decide ((0 : Int) ≤ n_16)) && true) && (Nat.ble (Int.toNat n_16) (List.length s_12))) then (∃ s_17 : (List UInt8), (((AV.str (List.take ((Int.toNat n_16) - (0 : Nat)) (List.drop (0 : Nat) s_12))) = (AV.str s_17)) ∧
 (∃ n_18 : Int, (((AV.int .i64 (Nat.cast x_0 : Int)) = (AV.int .i64 n_18)) ∧
 (∃ n_19 : Int, (((AV.int .i64 (IntKind.wrap .i64 (n_18 + (1 : Int)))) = (AV.int .i64 n_19)) ∧
 ((True ∧
 ((0 : Nat) = (0 : Nat))) ∧
 ((∃ y_20 : Nat, ((Lf (y_20 = (0 : Nat))) ∧
 (((5 : Nat) < (5 : Nat)) ∧
 (vc_10_1 mk ty seq ti ss tc ks tx ps pad pl)))) ∨
 (∃ y_20 : Nat, ((Lf (((1 : Nat) ≤ y_20) ∧
 ((y_20 ≤ (4 : Nat)) ∧
 (y_20 ≤ (List.length ps))))) ∧
 ((((4 : Nat) - y_20) < (5 : Nat)) ∧
 ((((AV.bool mk) :: ((AV.int .u8 ty) :: ((AV.int .u16 seq) :: ((AV.int .u32 ti) :: ((AV.int .u32 ss) :: ((AV.lst tc (cells32M ks) (List.length ks) (1 : Nat)) :: ((AV.lst tx (cellsPcM ps) (List.length ps) (2 : Nat)) :: ((AV.int .u8 pad) :: ((AV.str pl) :: []))))))))) = ((AV.bool mk) :: ((AV.int .u8 ty) :: ((AV.int .u16 seq) :: ((AV.int .u32 ti) :: ((AV.int .u32 ss) :: ((AV.lst tc (cells32M ks) (List.length ks) (1 : Nat)) :: ((AV.lst tx (cellsPcM ps) (List.length ps) (2 : Nat)) :: ((AV.int .u8 pad) :: ((AV.str pl) :: [])))))))))) ∧
 ((((AV.bool false) :: ((AV.int .i64 (0 : Int)) :: ((AV.int .i64 (0 : Int)) :: ((AV.int .i64 (0 : Int)) :: ((AV.int .i64 (0 : Int)) :: (AV.nils :: (AV.nils :: ((AV.int .i64 (0 : Int)) :: ((AV.str []) :: []))))))))) = ((AV.bool false) :: ((AV.int .i64 (0 : Int)) :: ((AV.int .i64 (0 : Int)) :: ((AV.int .i64 (0 : Int)) :: ((AV.int .i64 (0 : Int)) :: (AV.nils :: (AV.nils :: ((AV.int .i64 (0 : Int)) :: ((AV.str []) :: [])))))))))) ∧
 ((((AV.bool mk) :: ((AV.int .i64 (ty % (128 : Int))) :: ((AV.int .i64 seq) :: ((AV.int .i64 ti) :: ((AV.int .i64 ss) :: (AV.nils :: ((AV.sl (4 : Nat) (2 : Nat) (0 : Nat) (1 : Nat) (2 : Nat)) :: ((AV.int .i64 pad) :: ((AV.str (List.take (60 : Nat) pl)) :: []))))))))) = ((AV.bool mk) :: ((AV.int .i64 (ty % (128 : Int))) :: ((AV.int .i64 seq) :: ((AV.int .i64 ti) :: ((AV.int .i64 ss) :: (AV.nils :: ((AV.sl (4 : Nat) ((2 : Nat) * y_20) (0 : Nat) y_20 (2 : Nat)) :: ((AV.int .i64 pad) :: ((AV.str (List.take (60 : Nat) pl)) :: [])))))))))) ∧
 ((((AV.int .i64 n_10) :: ((AV.str s_17) :: [])) = (cellsXM (pcsM (0 : Int) (List.take (1 : Nat) ps)))) ∧
 ((((AV.int .i64 n_10) :: ((AV.str s_17) :: [])) = (cellsXM (pcsM (0 : Int) (List.take y_20 ps)))) ∧
 (((AV.ptr (0 : Nat) (9 : Nat) (0 : Nat)) = (AV.ptr (0 : Nat) (9 : Nat) (0 : Nat))) ∧
 (((AV.ptr (2 : Nat) (9 : Nat) (0 : Nat)) = (AV.ptr (2 : Nat) (9 : Nat) (0 : Nat))) ∧
 (((AV.int .i64 n_10) = (AV.int .i64 (pcIdM ps y_20))) ∧
 (((AV.ptr (1 : Nat) (9 : Nat) (0 : Nat)) = (AV.ptr (1 : Nat) (9 : Nat) (0 : Nat))) ∧
 (((AV.int .i64 n_19) = (AV.int .i64 (Nat.cast y_20 : Int))) ∧
 True)))))))))))))))))))))
else False)))))))
else False)
else False)))))
else False)
else False)))))))))))
else False)
else False)))))))
else (Q (Out.ret (AV.agg ((AV.bool mk) :: ((AV.int .i64 (ty % (128 : Int))) :: ((AV.int .i64 seq) :: ((AV.int .i64 ti) :: ((AV.int .i64 ss) :: (AV.nils :: (AV.nils :: ((AV.int .i64 pad) :: ((AV.str (List.take (60 : Nat) pl)) :: []))))))))))) [] (Gh.mk (0 : Nat) (0 : Nat) [])))))
else (Q (Out.ret (AV.agg ((AV.bool mk) :: ((AV.int .i64 (ty % (128 : Int))) :: ((AV.int .i64 seq) :: ((AV.int .i64 ti) :: ((AV.int .i64 ss) :: (AV.nils :: (AV.nils :: ((AV.int .i64 pad) :: ((AV.str (List.take (60 : Nat) pl)) :: []))))))))))) [] (Gh.mk (0 : Nat) (0 : Nat) []))))))))) ∧
 (∀ x_0 : Nat, ((Lf (((1 : Nat) ≤ x_0) ∧
 ((x_0 ≤ (4 : Nat)) ∧
 (x_0 ≤ (List.length ps))))) →
(∃ n_1 : Int, (((AV.int .i64 (Nat.cast x_0 : Int)) = (AV.int .i64 n_1)) ∧
 (∃ n_2 : Int, (((AV.int .i64 (Nat.cast (List.length ps) : Int)) = (AV.int .i64 n_2)) ∧
 (bif (decide (n_1 < n_2)) then (∃ n_3 : Int, (((AV.int .i64 (Nat.cast x_0 : Int)) = (AV.int .i64 n_3)) ∧
 (bif (decide (n_3 < (4 : Int))) then (∃ n_4 : Int, (((AV.int .i64 (pcIdM ps x_0)) = (AV.int .i64 n_4)) ∧
 (∃ n_5 : Int, (((AV.int .i64 (IntKind.wrap .i64 (n_4 + (1 : Int)))) = (AV.int .i64 n_5)) ∧
 (∃ n_6 : Int, (((AV.int .i64 (Nat.cast x_0 : Int)) = (AV.int .i64 n_6)) ∧
 (bif (((decide ((0 : Int) ≤ n_6)) && (Nat.blt (Int.toNat n_6) (List.length ps))) && true) then (bif (Nat.blt (((Int.toNat n_6) * (2 : Nat)) + (0 : Nat)) (List.length (cellsPcM ps))) then (∃ n_7 : Int, (((List.getD (cellsPcM ps) (((Int.toNat n_6) * (2 : Nat)) + (0 : Nat)) AV.undef) = (AV.int .u8 n_7)) ∧
 (∃ n_8 : Int, (((AV.int .u8 (Int.tmod n_7 (60 : Int))) = (AV.int .u8 n_8)) ∧
 (∃ n_9 : Int, (((AV.int .i64 (IntKind.wrap .i64 n_8)) = (AV.int .i64 n_9)) ∧
 (∃ n_10 : Int, (((AV.int .i64 (IntKind.wrap .i64 (n_5 + n_9))) = (AV.int .i64 n_10)) ∧
 (∃ n_11 : Int, (((AV.int .i64 (Nat.cast x_0 : Int)) = (AV.int .i64 n_11)) ∧
 (bif (((decide ((0 : Int) ≤ n_11)) && (Nat.blt (Int.toNat n_11) (List.length ps))) && true) then (bif (Nat.blt (((Int.toNat n_11) * (2 : Nat)) + (1 : Nat)) (List.length (cellsPcM ps))) then (∃ s_12 : (List UInt8), (((List.getD (cellsPcM ps) (((Int.toNat n_11) * (2 : Nat)) + (1 : Nat)) AV.undef) = (AV.str s_12)) ∧
 (∃ n_13 : Int, (((AV.int .i64 (Nat.cast x_0 : Int)) = (AV.int .i64 n_13)) ∧
 (bif (((decide ((0 : Int) ≤ n_13)) && (Nat.blt (Int.toNat n_13) (List.length ps))) && true) then (bif (Nat.blt (((Int.toNat n_13) * (2 : Nat)) + (1 : Nat)) (List.length (cellsPcM ps))) then (∃ s_14 : (List UInt8), (((List.getD (cellsPcM ps) (((Int.toNat n_13) * (2 : Nat)) + (1 : Nat)) AV.undef) = (AV.str s_14)) ∧
 (∃ n_15 : Int, (((AV.int .i64 (Nat.cast (List.length s_14) : Int)) = (AV.int .i64 n_15)) ∧
 (∃ n_16 : Int, (((AV.int .i64 (imin n_15 (20 : Int))) = (AV.int .i64 n_16)) ∧
 (bif (((decide ((0 : Int) ≤ n_16)) && true) && (Nat.ble (Int.toNat n_16) (List.length s_12))) then (∃ s_17 : (List UInt8), (((AV.str (List.take ((Int.toNat n_16) - (0 : Nat)) (List.drop (0 : Nat) s_12))) = (AV.str s_17)) ∧
 (bif (((((Nat.beq (List.length (cellsXM (pcsM (0 : Int) (List.take x_0 ps)))) ((2 : Nat) * x_0)) && true) && (Nat.beq ((0 : Nat) + (x_0 * (2 : Nat))) ((2 : Nat) * x_0))) && (Nat.ble (x_0 + (1 : Nat)) (1099511627776 : Nat))) && (Nat.ble ((x_0 + (1 : Nat)) * (24 : Nat)) (1099511627776 : Nat))) then (∃ n_18 : Int, (((AV.int .i64 (Nat.cast x_0 : Int)) = (AV.int .i64 n_18)) ∧
 (∃ n_19 : Int, (((AV.int .i64 (IntKind.wrap .i64 (n_18 + (1 : Int)))) = (AV.int .i64 n_19)) ∧
 ((True ∧
 ((0 : Nat) = (0 : Nat))) ∧
 ((∃ y_20 : Nat, ((Lf (y_20 = (0 : Nat))) ∧
 (((5 : Nat) < ((4 : Nat) - x_0)) ∧
 (vc_10_1 mk ty seq ti ss tc ks tx ps pad pl)))) ∨
 (∃ y_20 : Nat, ((Lf (((1 : Nat) ≤ y_20) ∧
 ((y_20 ≤ (4 : Nat)) ∧
 (y_20 ≤ (List.length ps))))) ∧
 ((((4 : Nat) - y_20) < ((4 : Nat) - x_0)) ∧
 ((((AV.bool mk) :: ((AV.int .u8 ty) :: ((AV.int .u16 seq) :: ((AV.int .u32 ti) :: ((AV.int .u32 ss) :: ((AV.lst tc (cells32M ks) (List.length ks) (1 : Nat)) :: ((AV.lst tx (cellsPcM ps) (List.length ps) (2 : Nat)) :: ((AV.int .u8 pad) :: ((AV.str pl) :: []))))))))) = ((AV.bool mk) :: ((AV.int .u8 ty) :: ((AV.int .u16 seq) :: ((AV.int .u32 ti) :: ((AV.int .u32 ss) :: ((AV.lst tc (cells32M ks) (List.length ks) (1 : Nat)) :: ((AV.lst tx (cellsPcM ps) (List.length ps) (2 : Nat)) :: ((AV.int .u8 pad) :: ((AV.str pl) :: [])))))))))) ∧
 ((((AV.bool false) :: ((AV.int .i64 (0 : Int)) :: ((AV.int .i64 (0 : Int)) :: ((AV.int .i64 (0 : Int)) :: ((AV.int .i64 (0 : Int)) :: (AV.nils :: (AV.nils :: ((AV.int .i64 (0 : Int)) :: ((AV.str []) :: []))))))))) = ((AV.bool false) :: ((AV.int .i64 (0 : Int)) :: ((AV.int .i64 (0 : Int)) :: ((AV.int .i64 (0 : Int)) :: ((AV.int .i64 (0 : Int)) :: (AV.nils :: (AV.nils :: ((AV.int .i64 (0 : Int)) :: ((AV.str []) :: [])))))))))) ∧
 ((((AV.bool mk) :: ((AV.int .i64 (ty % (128 : Int))) :: ((AV.int .i64 seq) :: ((AV.int .i64 ti) :: ((AV.int .i64 ss) :: (AV.nils :: ((AV.sl (4 : Nat) (((2 : Nat) * x_0) + (2 : Nat)) (0 : Nat) (x_0 + (1 : Nat)) (2 : Nat)) :: ((AV.int .i64 pad) :: ((AV.str (List.take (60 : Nat) pl)) :: []))))))))) = ((AV.bool mk) :: ((AV.int .i64 (ty % (128 : Int))) :: ((AV.int .i64 seq) :: ((AV.int .i64 ti) :: ((AV.int .i64 ss) :: (AV.nils :: ((AV.sl (4 : Nat) ((2 : Nat) * y_20) (0 : Nat) y_20 (2 : Nat)) :: ((AV.int .i64 pad) :: ((AV.str (List.take (60 : Nat) pl)) :: [])))))))))) ∧
 (((cellsXM (pcsM (0 : Int) (List.take (1 : Nat) ps))) = (cellsXM (pcsM (0 : Int) (List.take (1 : Nat) ps)))) ∧
 ((((cellsXM (pcsM (0 : Int) (List.take x_0 ps))) ++ ((AV.int .i64 n_10) :: ((AV.str s_17) :: []))) = (cellsXM (pcsM (0 : Int) (List.take y_20 ps)))) ∧
 (((AV.ptr (0 : Nat) (9 : Nat) (0 : Nat)) = (AV.ptr (0 : Nat) (9 : Nat) (0 : Nat))) ∧
 (((AV.ptr (2 : Nat) (9 : Nat) (0 : Nat)) = (AV.ptr (2 : Nat) (9 : Nat) (0 : Nat))) ∧
 (((AV.int .i64 n_10) = (AV.int .i64 (pcIdM ps y_20))) ∧
 (((AV.ptr (1 : Nat) (9 : Nat) (0 : Nat)) = (AV.ptr (1 : Nat) (9 : Nat) (0 : Nat))) ∧
 (((AV.int .i64 n_19) = (AV.int .i64 (Nat.cast y_20 : Int))) ∧
 True)))))))))))))))))))
else False)))
else False)))))))
else False)
else False)))))
else False)
else False)))))))))))
else False)
else False)))))))
else (Q (Out.ret (AV.agg ((AV.bool mk) :: ((AV.int .i64 (ty % (128 : Int))) :: ((AV.int .i64 seq) :: ((AV.int .i64 ti) :: ((AV.int .i64 ss) :: (AV.nils :: ((AV.sl (4 : Nat) ((2 : Nat) * x_0) (0 : Nat) x_0 (2 : Nat)) :: ((AV.int .i64 pad) :: ((AV.str (List.take (60 : Nat) pl)) :: []))))))))))) ((Blk.mk BK.exact true (draftM mk ty seq ti ss tc ks tx ps pad pl)) :: ((Blk.mk BK.exact false ((AV.bool mk) :: ((AV.int .i64 (ty % (128 : Int))) :: ((AV.int .i64 seq) :: ((AV.int .i64 ti) :: ((AV.int .i64 ss) :: (AV.nils :: ((AV.sl (4 : Nat) ((2 : Nat) * x_0) (0 : Nat) x_0 (2 : Nat)) :: ((AV.int .i64 pad) :: ((AV.str (List.take (60 : Nat) pl)) :: [])))))))))) :: ((Blk.mk BK.exact false (resM mk ty seq ti ss AV.nils (AV.sl (4 : Nat) ((2 : Nat) * x_0) (0 : Nat) x_0 (2 : Nat)) pad pl)) :: ((Blk.mk BK.exact true (cellsXM (pcsM (0 : Int) (List.take (1 : Nat) ps)))) :: ((Blk.mk BK.grow true (cellsXM (pcsM (0 : Int) (List.take x_0 ps)))) :: []))))) (Gh.mk (0 : Nat) (0 : Nat) [])))))
else (Q (Out.ret (AV.agg ((AV.bool mk) :: ((AV.int .i64 (ty % (128 : Int))) :: ((AV.int .i64 seq) :: ((AV.int .i64 ti) :: ((AV.int .i64 ss) :: (AV.nils :: ((AV.sl (4 : Nat) ((2 : Nat) * x_0) (0 : Nat) x_0 (2 : Nat)) :: ((AV.int .i64 pad) :: ((AV.str (List.take (60 : Nat) pl)) :: []))))))))))) ((Blk.mk BK.exact true (draftM mk ty seq ti ss tc ks tx ps pad pl)) :: ((Blk.mk BK.exact false ((AV.bool mk) :: ((AV.int .i64 (ty % (128 : Int))) :: ((AV.int .i64 seq) :: ((AV.int .i64 ti) :: ((AV.int .i64 ss) :: (AV.nils :: ((AV.sl (4 : Nat) ((2 : Nat) * x_0) (0 : Nat) x_0 (2 : Nat)) :: ((AV.int .i64 pad) :: ((AV.str (List.take (60 : Nat) pl)) :: [])))))))))) :: ((Blk.mk BK.exact false (resM mk ty seq ti ss AV.nils (AV.sl (4 : Nat) ((2 : Nat) * x_0) (0 : Nat) x_0 (2 : Nat)) pad pl)) :: ((Blk.mk BK.exact true (cellsXM (pcsM (0 : Int) (List.take (1 : Nat) ps)))) :: ((Blk.mk BK.grow true (cellsXM (pcsM (0 : Int) (List.take x_0 ps)))) :: []))))) (Gh.mk (0 : Nat) (0 : Nat) []))))))))))))
def vc_10_4 (mk : Bool) (ty : Int) (seq : Int) (ti : Int) (ss : Int) (tc : Nat) (ks : List Int) (tx : Nat) (ps : List Xt) (pad : Int) (pl : List UInt8) (Q : Out → List Blk → Gh → Prop) : Prop := (
((∀ x_0 : (Prod Nat Nat), ((Lf (((Prod.fst x_0) = (0 : Nat)) ∧
 (((1 : Nat) ≤ (Prod.snd x_0)) ∧
 (((Prod.snd x_0) ≤ (3 : Nat)) ∧
 (((Prod.snd x_0) ≤ (List.length ks)) ∧
 (((Prod.snd x_0) = (3 : Nat)) ∨
 ((Prod.snd x_0) = (List.length ks)))))))) →
(∃ n_1 : Int, (((AV.int .i64 (Nat.cast (Prod.fst x_0) : Int)) = (AV.int .i64 n_1)) ∧
 (∃ n_2 : Int, (((AV.int .i64 (Nat.cast (List.length ps) : Int)) = (AV.int .i64 n_2)) ∧
 (bif (decide (n_1 < n_2)) then (∃ n_3 : Int, (((AV.int .i64 (Nat.cast (Prod.fst x_0) : Int)) = (AV.int .i64 n_3)) ∧
 (bif (decide (n_3 < (4 : Int))) then (∃ n_4 : Int, (((AV.int .i64 (0 : Int)) = (AV.int .i64 n_4)) ∧
 (∃ n_5 : Int, (((AV.int .i64 (IntKind.wrap .i64 (n_4 + (1 : Int)))) = (AV.int .i64 n_5)) ∧
 (∃ n_6 : Int, (((AV.int .i64 (Nat.cast (Prod.fst x_0) : Int)) = (AV.int .i64 n_6)) ∧
 (bif (((decide ((0 : Int) ≤ n_6)) && (Nat.blt (Int.toNat n_6) (List.length ps))) && true) then (bif (Nat.blt (((Int.toNat n_6) * (2 : Nat)) + (0 : Nat)) (List.length (cellsPcM ps))) then (∃ n_7 : Int, (((List.getD (cellsPcM ps) (((Int.toNat n_6) * (2 : Nat)) + (0 : Nat)) AV.undef) = (AV.int .u8 n_7)) ∧
 (∃ n_8 : Int, (((AV.int .u8 (Int.tmod n_7 (60 : Int))) = (AV.int .u8 n_8)) ∧
 (∃ n_9 : Int, (((AV.int .i64 (IntKind.wrap .i64 n_8)) = (AV.int .i64 n_9)) ∧
 (∃ n_10 : Int, (((AV.int .i64 (IntKind.wrap .i64 (n_5 + n_9))) = (AV.int .i64 n_10)) ∧
 (∃ n_11 : Int, (((AV.int .i64 (Nat.cast (Prod.fst x_0) : Int)) = (AV.int .i64 n_11)) ∧
 (bif (((decide ((0 : Int) ≤ n_11)) && (Nat.blt (Int.toNat n_11) (List.length ps))) && true) then (bif (Nat.blt (((Int.toNat n_11) * (2 : Nat)) + (1 : Nat)) (List.length (cellsPcM ps))) then (∃ s_12 : (List UInt8), (((List.getD (cellsPcM ps) (((Int.toNat n_11) * (2 : Nat)) + (1 : Nat)) AV.undef) = (AV.str s_12)) ∧
 (∃ n_13 : Int, (((AV.int .i64 (Nat.cast (Prod.fst x_0) : Int)) = (AV.int .i64 n_13)) ∧
 (bif (((decide ((0 : Int) ≤ n_13)) && (Nat.blt (Int.toNat n_13) (List.length ps))) && true) then (bif (Nat.blt (((Int.toNat n_13) * (2 : Nat)) + (1 : Nat)) (List.length (cellsPcM ps))) then (∃ s_14 : (List UInt8), (((List.getD (cellsPcM ps) (((Int.toNat n_13) * (2 : Nat)) + (1 : Nat)) AV.undef) = (AV.str s_14)) ∧
 (∃ n_15 : Int, (((AV.int .i64 (Nat.cast (List.length s_14) : Int)) = (AV.int .i64 n_15)) ∧
 (∃ n_16 : Int, (((AV.int .i64 (imin n_15 (20 : Int))) = (AV.int .i64 n_16)) ∧
 (bif (((decide ((0 : Int) ≤ n_16)) && true) && (Nat.ble (Int.toNat n_16) (List.length s_12))) then (∃ s_17 : (List UInt8), (((AV.str (List.take ((Int.toNat n_16) - (0 : Nat)) (List.drop (0 : Nat) s_12))) = (AV.str s_17)) ∧
 (∃ n_18 : Int, (((AV.int .i64 (Nat.cast (Prod.fst x_0) : Int)) = (AV.int .i64 n_18)) ∧
 (∃ n_19 : Int, (((AV.int .i64 (IntKind.wrap .i64 (n_18 + (1 : Int)))) = (AV.int .i64 n_19)) ∧
 ((True ∧
 ((0 : Nat) = (0 : Nat))) ∧
 ((∃ y_20 : (Prod Nat Nat), ((Lf (((Prod.fst y_20) = (0 : Nat)) ∧
 (((1 : Nat) ≤ (Prod.snd y_20)) ∧
 (((Prod.snd y_20) ≤ (3 : Nat)) ∧
 (((Prod.snd y_20) ≤ (List.length ks)) ∧
 (((Prod.snd y_20) = (3 : Nat)) ∨
 ((Prod.snd y_20) = (List.length ks)))))))) ∧
 (((5 : Nat) < (5 : Nat)) ∧
 ((((AV.bool mk) :: ((AV.int .u8 ty) :: ((AV.int .u16 seq) :: ((AV.int .u32 ti) :: ((AV.int .u32 ss) :: ((AV.lst tc (cells32M ks) (List.length ks) (1 : Nat)) :: ((AV.lst tx (cellsPcM ps) (List.length ps) (2 : Nat)) :: ((AV.int .u8 pad) :: ((AV.str pl) :: []))))))))) = ((AV.bool mk) :: ((AV.int .u8 ty) :: ((AV.int .u16 seq) :: ((AV.int .u32 ti) :: ((AV.int .u32 ss) :: ((AV.lst tc (cells32M ks) (List.length ks) (1 : Nat)) :: ((AV.lst tx (cellsPcM ps) (List.length ps) (2 : Nat)) :: ((AV.int .u8 pad) :: ((AV.str pl) :: [])))))))))) ∧
 ((((AV.bool false) :: ((AV.int .i64 (0 : Int)) :: ((AV.int .i64 (0 : Int)) :: ((AV.int .i64 (0 : Int)) :: ((AV.int .i64 (0 : Int)) :: (AV.nils :: (AV.nils :: ((AV.int .i64 (0 : Int)) :: ((AV.str []) :: []))))))))) = ((AV.bool false) :: ((AV.int .i64 (0 : Int)) :: ((AV.int .i64 (0 : Int)) :: ((AV.int .i64 (0 : Int)) :: ((AV.int .i64 (0 : Int)) :: (AV.nils :: (AV.nils :: ((AV.int .i64 (0 : Int)) :: ((AV.str []) :: [])))))))))) ∧
 ((((AV.bool mk) :: ((AV.int .i64 (ty % (128 : Int))) :: ((AV.int .i64 seq) :: ((AV.int .i64 ti) :: ((AV.int .i64 ss) :: ((AV.sl (4 : Nat) (Prod.snd x_0) (0 : Nat) (Prod.snd x_0) (1 : Nat)) :: ((AV.sl (6 : Nat) (2 : Nat) (0 : Nat) (1 : Nat) (2 : Nat)) :: ((AV.int .i64 pad) :: ((AV.str (List.take (60 : Nat) pl)) :: []))))))))) = ((AV.bool mk) :: ((AV.int .i64 (ty % (128 : Int))) :: ((AV.int .i64 seq) :: ((AV.int .i64 ti) :: ((AV.int .i64 ss) :: ((AV.sl (4 : Nat) (Prod.snd y_20) (0 : Nat) (Prod.snd y_20) (1 : Nat)) :: (AV.nils :: ((AV.int .i64 pad) :: ((AV.str (List.take (60 : Nat) pl)) :: [])))))))))) ∧
 ((((AV.int .i64 (List.getD ks (0 : Nat) (0 : Int))) :: []) = ((AV.int .i64 (List.getD ks (0 : Nat) (0 : Int))) :: [])) ∧
 (((cellsI (List.take (Prod.snd x_0) ks)) = (cellsI (List.take (Prod.snd y_20) ks))) ∧
 False)))))))) ∨
 (∃ y_20 : (Prod Nat Nat), ((Lf (((1 : Nat) ≤ (Prod.fst y_20)) ∧
 (((Prod.fst y_20) ≤ (4 : Nat)) ∧
 (((Prod.fst y_20) ≤ (List.length ps)) ∧
 (((1 : Nat) ≤ (Prod.snd y_20)) ∧
 (((Prod.snd y_20) ≤ (3 : Nat)) ∧
 (((Prod.snd y_20) ≤ (List.length ks)) ∧
 (((Prod.snd y_20) = (3 : Nat)) ∨
 ((Prod.snd y_20) = (List.length ks)))))))))) ∧
 ((((4 : Nat) - (Prod.fst y_20)) < (5 : Nat)) ∧
 ((((AV.bool mk) :: ((AV.int .u8 ty) :: ((AV.int .u16 seq) :: ((AV.int .u32 ti) :: ((AV.int .u32 ss) :: ((AV.lst tc (cells32M ks) (List.length ks) (1 : Nat)) :: ((AV.lst tx (cellsPcM ps) (List.length ps) (2 : Nat)) :: ((AV.int .u8 pad) :: ((AV.str pl) :: []))))))))) = ((AV.bool mk) :: ((AV.int .u8 ty) :: ((AV.int .u16 seq) :: ((AV.int .u32 ti) :: ((AV.int .u32 ss) :: ((AV.lst tc (cells32M ks) (List.length ks) (1 : Nat)) :: ((AV.lst tx (cellsPcM ps) (List.length ps) (2 : Nat)) :: ((AV.int .u8 pad) :: ((AV.str pl) :: [])))))))))) ∧
 ((((AV.bool false) :: ((AV.int .i64 (0 : Int)) :: ((AV.int .i64 (0 : Int)) :: ((AV.int .i64 (0 : Int)) :: ((AV.int .i64 (0 : Int)) :: (AV.nils :: (AV.nils :: ((AV.int .i64 (0 : Int)) :: ((AV.str []) :: []))))))))) = ((AV.bool false) :: ((AV.int .i64 (0 : Int)) :: ((AV.int .i64 (0 : Int)) :: ((AV.int .i64 (0 : Int)) :: ((AV.int .i64 (0 : Int)) :: (AV.nils :: (AV.nils :: ((AV.int .i64 (0 : Int)) :: ((AV.str []) :: [])))))))))) ∧
 ((((AV.bool mk) :: ((AV.int .i64 (ty % (128 : Int))) :: ((AV.int .i64 seq) :: ((AV.int .i64 ti) :: ((AV.int .i64 ss) :: ((AV.sl (4 : Nat) (Prod.snd x_0) (0 : Nat) (Prod.snd x_0) (1 : Nat)) :: ((AV.sl (6 : Nat) (2 : Nat) (0 : Nat) (1 : Nat) (2 : Nat)) :: ((AV.int .i64 pad) :: ((AV.str (List.take (60 : Nat) pl)) :: []))))))))) = ((AV.bool mk) :: ((AV.int .i64 (ty % (128 : Int))) :: ((AV.int .i64 seq) :: ((AV.int .i64 ti) :: ((AV.int .i64 ss) :: ((AV.sl (4 : Nat) (Prod.snd y_20) (0 : Nat) (Prod.snd y_20) (1 : Nat)) :: ((AV.sl (6 : Nat) ((2 : Nat) * (Prod.fst y_20)) (0 : Nat) (Prod.fst y_20) (2 : Nat)) :: ((AV.int .i64 pad) :: ((AV.str (List.take (60 : Nat) pl)) :: [])))))))))) ∧
 ((((AV.int .i64 (List.getD ks (0 : Nat) (0 : Int))) :: []) = ((AV.int .i64 (List.getD ks (0 : Nat) (0 : Int))) :: [])) ∧
 (((cellsI (List.take (Prod.snd x_0) ks)) = (cellsI (List.take (Prod.snd y_20) ks))) ∧
 ((((AV.int .i64 n_10) :: ((AV.str s_17) :: [])) = (cellsXM (pcsM (0 : Int) (List.take (1 : Nat) ps)))) ∧
 ((((AV.int .i64 n_10) :: ((AV.str s_17) :: [])) = (cellsXM (pcsM (0 : Int) (List.take (Prod.fst y_20) ps)))) ∧
 (((AV.ptr (0 : Nat) (9 : Nat) (0 : Nat)) = (AV.ptr (0 : Nat) (9 : Nat) (0 : Nat))) ∧
 (((AV.ptr (2 : Nat) (9 : Nat) (0 : Nat)) = (AV.ptr (2 : Nat) (9 : Nat) (0 : Nat))) ∧
 (((AV.int .i64 n_10) = (AV.int .i64 (pcIdM ps (Prod.fst y_20)))) ∧
 (((AV.ptr (1 : Nat) (9 : Nat) (0 : Nat)) = (AV.ptr (1 : Nat) (9 : Nat) (0 : Nat))) ∧
 (((AV.int .i64 n_19) = (AV.int .i64 (Nat.cast (Prod.fst y_20) : Int))) ∧
 True)))))))))))))))))))))))
else False)))))))
else False)
else False)))))
else False)
else False)))))))))))
else False)
else False)))))))
else (Q (Out.ret (AV.agg ((AV.bool mk) :: ((AV.int .i64 (ty % (128 : Int))) :: ((AV.int .i64 seq) :: ((AV.int .i64 ti) :: ((AV.int .i64 ss) :: ((AV.sl (4 : Nat) (Prod.snd x_0) (0 : Nat) (Prod.snd x_0) (1 : Nat)) :: (AV.nils :: ((AV.int .i64 pad) :: ((AV.str (List.take (60 : Nat) pl)) :: []))))))))))) ((Blk.mk BK.exact true (draftM mk ty seq ti ss tc ks tx ps pad pl)) :: ((Blk.mk BK.exact false ((AV.bool mk) :: ((AV.int .i64 (ty % (128 : Int))) :: ((AV.int .i64 seq) :: ((AV.int .i64 ti) :: ((AV.int .i64 ss) :: ((AV.sl (4 : Nat) (Prod.snd x_0) (0 : Nat) (Prod.snd x_0) (1 : Nat)) :: (AV.nils :: ((AV.int .i64 pad) :: ((AV.str (List.take (60 : Nat) pl)) :: [])))))))))) :: ((Blk.mk BK.exact false (resM mk ty seq ti ss (AV.sl (4 : Nat) (Prod.snd x_0) (0 : Nat) (Prod.snd x_0) (1 : Nat)) AV.nils pad pl)) :: ((Blk.mk BK.exact true ((AV.int .i64 (List.getD ks (0 : Nat) (0 : Int))) :: [])) :: ((Blk.mk BK.grow true (cellsI (List.take (Prod.snd x_0) ks))) :: []))))) (Gh.mk (0 : Nat) (0 : Nat) [])))))
else (Q (Out.ret (AV.agg ((AV.bool mk) :: ((AV.int .i64 (ty % (128 : Int))) :: ((AV.int .i64 seq) :: ((AV.int .i64 ti) :: ((AV.int .i64 ss) :: ((AV.sl (4 : Nat) (Prod.snd x_0) (0 : Nat) (Prod.snd x_0) (1 : Nat)) :: (AV.nils :: ((AV.int .i64 pad) :: ((AV.str (List.take (60 : Nat) pl)) :: []))))))))))) ((Blk.mk BK.exact true (draftM mk ty seq ti ss tc ks tx ps pad pl)) :: ((Blk.mk BK.exact false ((AV.bool mk) :: ((AV.int .i64 (ty % (128 : Int))) :: ((AV.int .i64 seq) :: ((AV.int .i64 ti) :: ((AV.int .i64 ss) :: ((AV.sl (4 : Nat) (Prod.snd x_0) (0 : Nat) (Prod.snd x_0) (1 : Nat)) :: (AV.nils :: ((AV.int .i64 pad) :: ((AV.str (List.take (60 : Nat) pl)) :: [])))))))))) :: ((Blk.mk BK.exact false (resM mk ty seq ti ss (AV.sl (4 : Nat) (Prod.snd x_0) (0 : Nat) (Prod.snd x_0) (1 : Nat)) AV.nils pad pl)) :: ((Blk.mk BK.exact true ((AV.int .i64 (List.getD ks (0 : Nat) (0 : Int))) :: [])) :: ((Blk.mk BK.grow true (cellsI (List.take (Prod.snd x_0) ks))) :: []))))) (Gh.mk (0 : Nat) (0 : Nat) []))))))))) ∧
 (∀ x_0 : (Prod Nat Nat), ((Lf (((1 : Nat) ≤ (Prod.fst x_0)) ∧
 (((Prod.fst x_0) ≤ (4 : Nat)) ∧
 (((Prod.fst x_0) ≤ (List.length ps)) ∧
 (((1 : Nat) ≤ (Prod.snd x_0)) ∧
 (((Prod.snd x_0) ≤ (3 : Nat)) ∧
 (((Prod.snd x_0) ≤ (List.length ks)) ∧
 (((Prod.snd x_0) = (3 : Nat)) ∨
 ((Prod.snd x_0) = (List.length ks)))))))))) →
(∃ n_1 : Int, (((AV.int .i64 (Nat.cast (Prod.fst x_0) : Int)) = (AV.int .i64 n_1)) ∧
 (∃ n_2 : Int, (((AV.int .i64 (Nat.cast (List.length ps) : Int)) = (AV.int .i64 n_2)) ∧
 (bif (decide (n_1 < n_2)) then (∃ n_3 : Int, (((AV.int .i64 (Nat.cast (Prod.fst x_0) : Int)) = (AV.int .i64 n_3)) ∧
 (bif (decide (n_3 < (4 : Int))) then (∃ n_4 : Int, (((AV.int .i64 (pcIdM ps (Prod.fst x_0))) = (AV.int .i64 n_4)) ∧
 (∃ n_5 : Int, (((AV.int .i64 (IntKind.wrap .i64 (n_4 + (1 : Int)))) = (AV.int .i64 n_5)) ∧
 (∃ n_6 : Int, (((AV.int .i64 (Nat.cast (Prod.fst x_0) : Int)) = (AV.int .i64 n_6)) ∧
 (bif (((decide ((0 : Int) ≤ n_6)) && (Nat.blt (Int.toNat n_6) (List.length ps))) && true) then (bif (Nat.blt (((Int.toNat n_6) * (2 : Nat)) + (0 : Nat)) (List.length (cellsPcM ps))) then (∃ n_7 : Int, (((List.getD (cellsPcM ps) (((Int.toNat n_6) * (2 : Nat)) + (0 : Nat)) AV.undef) = (AV.int .u8 n_7)) ∧
 (∃ n_8 : Int, (((AV.int .u8 (Int.tmod n_7 (60 : Int))) = (AV.int .u8 n_8)) ∧
 (∃ n_9 : Int, (((AV.int .i64 (IntKind.wrap .i64 n_8)) = (AV.int .i64 n_9)) ∧
 (∃ n_10 : Int, (((AV.int .i64 (IntKind.wrap .i64 (n_5 + n_9))) = (AV.int .i64 n_10)) ∧
 (∃ n_11 : Int, (((AV.int .i64 (Nat.cast (Prod.fst x_0) : Int)) = (AV.int .i64 n_11)) ∧
 (bif (((decide ((0 : Int) ≤ n_11)) && (Nat.blt (Int.toNat n_11) (List.length ps))) && true) then (bif (Nat.blt (((Int.toNat n_11) * (2 : Nat)) + (1 : Nat)) (List.length (cellsPcM ps))) then (∃ s_12 : (List UInt8), (((List.getD (cellsPcM ps) (((Int.toNat n_11) * (2 : Nat)) + (1 : Nat)) AV.undef) = (AV.str s_12)) ∧
 (∃ n_13 : Int, (((AV.int .i64 (Nat.cast (Prod.fst x_0) : Int)) = (AV.int .i64 n_13)) ∧
 (bif (((decide ((0 : Int) ≤ n_13)) && (Nat.blt (Int.toNat n_13) (List.length ps))) && true) then (bif (Nat.blt (((Int.toNat n_13) * (2 : Nat)) + (1 : Nat)) (List.length (cellsPcM ps))) then (∃ s_14 : (List UInt8), (((List.getD (cellsPcM ps) (((Int.toNat n_13) * (2 : Nat)) + (1 : Nat)) AV.undef) = (AV.str s_14)) ∧
 (∃ n_15 : Int, (((AV.int .i64 (Nat.cast (List.length s_14) : Int)) = (AV.int .i64 n_15)) ∧
 (∃ n_16 : Int, (((AV.int .i64 (imin n_15 (20 : Int))) = (AV.int .i64 n_16)) ∧
 (bif (((decide ((0 : Int) ≤ n_16)) && true) && (Nat.ble (Int.toNat n_16) (List.length s_12))) then (∃ s_17 : (List UInt8), (((AV.str (List.take ((Int.toNat n_16) - (0 : Nat)) (List.drop (0 : Nat) s_12))) = (AV.str s_17)) ∧
 (bif (((((Nat.beq (List.length (cellsXM (pcsM (0 : Int) (List.take (Prod.fst x_0) ps)))) ((2 : Nat) * (Prod.fst x_0))) && true) && (Nat.beq ((0 : Nat) + ((Prod.fst x_0) * (2 : Nat))) ((2 : Nat) * (Prod.fst x_0)))) && (Nat.ble ((Prod.fst x_0) + (1 : Nat)) (1099511627776 : Nat))) && (Nat.ble (((Prod.fst x_0) + (1 : Nat)) * (24 : Nat)) (1099511627776 : Nat))) then (∃ n_18 : Int, (((AV.int .i64 (Nat.cast (Prod.fst x_0) : Int)) = (AV.int .i64 n_18)) ∧
 (∃ n_19 : Int, (((AV.int .i64 (IntKind.wrap .i64 (n_18 + (1 : Int)))) = (AV.int .i64 n_19)) ∧
 ((True ∧
 ((0 : Nat) = (0 : Nat))) ∧
 ((∃ y_20 : (Prod Nat Nat), ((Lf (((Prod.fst y_20) = (0 : Nat)) ∧
 (((1 : Nat) ≤ (Prod.snd y_20)) ∧
 (((Prod.snd y_20) ≤ (3 : Nat)) ∧
 (((Prod.snd y_20) ≤ (List.length ks)) ∧
 (((Prod.snd y_20) = (3 : Nat)) ∨
 ((Prod.snd y_20) = (List.length ks)))))))) ∧
 (((5 : Nat) < ((4 : Nat) - (Prod.fst x_0))) ∧
 ((((AV.bool mk) :: ((AV.int .u8 ty) :: ((AV.int .u16 seq) :: ((AV.int .u32 ti) :: ((AV.int .u32 ss) :: ((AV.lst tc (cells32M ks) (List.length ks) (1 : Nat)) :: ((AV.lst tx (cellsPcM ps) (List.length ps) (2 : Nat)) :: ((AV.int .u8 pad) :: ((AV.str pl) :: []))))))))) = ((AV.bool mk) :: ((AV.int .u8 ty) :: ((AV.int .u16 seq) :: ((AV.int .u32 ti) :: ((AV.int .u32 ss) :: ((AV.lst tc (cells32M ks) (List.length ks) (1 : Nat)) :: ((AV.lst tx (cellsPcM ps) (List.length ps) (2 : Nat)) :: ((AV.int .u8 pad) :: ((AV.str pl) :: [])))))))))) ∧
 ((((AV.bool false) :: ((AV.int .i64 (0 : Int)) :: ((AV.int .i64 (0 : Int)) :: ((AV.int .i64 (0 : Int)) :: ((AV.int .i64 (0 : Int)) :: (AV.nils :: (AV.nils :: ((AV.int .i64 (0 : Int)) :: ((AV.str []) :: []))))))))) = ((AV.bool false) :: ((AV.int .i64 (0 : Int)) :: ((AV.int .i64 (0 : Int)) :: ((AV.int .i64 (0 : Int)) :: ((AV.int .i64 (0 : Int)) :: (AV.nils :: (AV.nils :: ((AV.int .i64 (0 : Int)) :: ((AV.str []) :: [])))))))))) ∧
 ((((AV.bool mk) :: ((AV.int .i64 (ty % (128 : Int))) :: ((AV.int .i64 seq) :: ((AV.int .i64 ti) :: ((AV.int .i64 ss) :: ((AV.sl (4 : Nat) (Prod.snd x_0) (0 : Nat) (Prod.snd x_0) (1 : Nat)) :: ((AV.sl (6 : Nat) (((2 : Nat) * (Prod.fst x_0)) + (2 : Nat)) (0 : Nat) ((Prod.fst x_0) + (1 : Nat)) (2 : Nat)) :: ((AV.int .i64 pad) :: ((AV.str (List.take (60 : Nat) pl)) :: []))))))))) = ((AV.bool mk) :: ((AV.int .i64 (ty % (128 : Int))) :: ((AV.int .i64 seq) :: ((AV.int .i64 ti) :: ((AV.int .i64 ss) :: ((AV.sl (4 : Nat) (Prod.snd y_20) (0 : Nat) (Prod.snd y_20) (1 : Nat)) :: (AV.nils :: ((AV.int .i64 pad) :: ((AV.str (List.take (60 : Nat) pl)) :: [])))))))))) ∧
 ((((AV.int .i64 (List.getD ks (0 : Nat) (0 : Int))) :: []) = ((AV.int .i64 (List.getD ks (0 : Nat) (0 : Int))) :: [])) ∧
 (((cellsI (List.take (Prod.snd x_0) ks)) = (cellsI (List.take (Prod.snd y_20) ks))) ∧
 False)))))))) ∨
 (∃ y_20 : (Prod Nat Nat), ((Lf (((1 : Nat) ≤ (Prod.fst y_20)) ∧
 (((Prod.fst y_20) ≤ (4 : Nat)) ∧
 (((Prod.fst y_20) ≤ (List.length ps)) ∧
 (((1 : Nat) ≤ (Prod.snd y_20)) ∧
 (((Prod.snd y_20) ≤ (3 : Nat)) ∧
 (((Prod.snd y_20) ≤ (List.length ks)) ∧
 (((Prod.snd y_20) = (3 : Nat)) ∨
 ((Prod.snd y_20) = (List.length ks)))))))))) ∧
 ((((4 : Nat) - (Prod.fst y_20)) < ((4 : Nat) - (Prod.fst x_0))) ∧
 ((((AV.bool mk) :: ((AV.int .u8 ty) :: ((AV.int .u16 seq) :: ((AV.int .u32 ti) :: ((AV.int .u32 ss) :: ((AV.lst tc (cells32M ks) (List.length ks) (1 : Nat)) :: ((AV.lst tx (cellsPcM ps) (List.length ps) (2 : Nat)) :: ((AV.int .u8 pad) :: ((AV.str pl) :: []))))))))) = ((AV.bool mk) :: ((AV.int .u8 ty) :: ((AV.int .u16 seq) :: ((AV.int .u32 ti) :: ((AV.int .u32 ss) :: ((AV.lst tc (cells32M ks) (List.length ks) (1 : Nat)) :: ((AV.lst tx (cellsPcM ps) (List.length ps) (2 : Nat)) :: ((AV.int .u8 pad) :: ((AV.str pl) :: [])))))))))) ∧
 ((((AV.bool false) :: ((AV.int .i64 (0 : Int)) :: ((AV.int .i64 (0 : Int)) :: ((AV.int .i64 (0 : Int)) :: ((AV.int .i64 (0 : Int)) :: (AV.nils :: (AV.nils :: ((AV.int .i64 (0 : Int)) :: ((AV.str []) :: []))))))))) = ((AV.bool false) :: ((AV.int .i64 (0 : Int)) :: ((AV.int .i64 (0 : Int)) :: ((AV.int .i64 (0 : Int)) :: ((AV.int .i64 (0 : Int)) :: (AV.nils :: (AV.nils :: ((AV.int .i64 (0 : Int)) :: ((AV.str []) :: [])))))))))) ∧
 ((((AV.bool mk) :: ((AV.int .i64 (ty % (128 : Int))) :: ((AV.int .i64 seq) :: ((AV.int .i64 ti) :: ((AV.int .i64 ss) :: ((AV.sl (4 : Nat) (Prod.snd x_0) (0 : Nat) (Prod.snd x_0) (1 : Nat)) :: ((AV.sl (6 : Nat) (((2 : Nat) * (Prod.fst x_0)) + (2 : Nat)) (0 : Nat) ((Prod.fst x_0) + (1 : Nat)) (2 : Nat)) :: ((AV.int .i64 pad) :: ((AV.str (List.take (60 : Nat) pl)) :: []))))))))) = ((AV.bool mk) :: ((AV.int .i64 (ty % (128 : Int))) :: ((AV.int .i64 seq) :: ((AV.int .i64 ti) :: ((AV.int .i64 ss) :: ((AV.sl (4 : Nat) (Prod.snd y_20) (0 : Nat) (Prod.snd y_20) (1 : Nat)) :: ((AV.sl (6 : Nat) ((2 : Nat) * (Prod.fst y_20)) (0 : Nat) (Prod.fst y_20) (2 : Nat)) :: ((AV.int .i64 pad) :: ((AV.str (List.take (60 : Nat) pl)) :: [])))))))))) ∧
 ((((AV.int .i64 (List.getD ks (0 : Nat) (0 : Int))) :: []) = ((AV.int .i64 (List.getD ks (0 : Nat) (0 : Int))) :: [])) ∧
 (((cellsI (List.take (Prod.snd x_0) ks)) = (cellsI (List.take (Prod.snd y_20) ks))) ∧
 (((cellsXM (pcsM (0 : Int) (List.take (1 : Nat) ps))) = (cellsXM (pcsM (0 : Int) (List.take (1 : Nat) ps)))) ∧
 ((((cellsXM (pcsM (0 : Int) (List.take (Prod.fst x_0) ps))) ++ ((AV.int .i64 n_10) :: ((AV.str s_17) :: []))) = (cellsXM (pcsM (0 : Int) (List.take (Prod.fst y_20) ps)))) ∧
 (((AV.ptr (0 : Nat) (9 : Nat) (0 : Nat)) = (AV.ptr (0 : Nat) (9 : Nat) (0 : Nat))) ∧
 (((AV.ptr (2 : Nat) (9 : Nat) (0 : Nat)) = (AV.ptr (2 : Nat) (9 : Nat) (0 : Nat))) ∧
 (((AV.int .i64 n_10) = (AV.int .i64 (pcIdM ps (Prod.fst y_20)))) ∧
 (((AV.ptr (1 : Nat) (9 : Nat) (0 : Nat)) = (AV.ptr (1 : Nat) (9 : Nat) (0 : Nat))) ∧
 (((AV.int .i64 n_19) = (AV.int .i64 (Nat.cast (Prod.fst y_20) : Int))) ∧
 True)))))))))))))))))))))
else False)))
else False)))))))
else False)
else False)))))
else False)
else False)))))))))))
else False)
else False)))))))
else (Q (Out.ret (AV.agg ((AV.bool mk) :: ((AV.int .i64 (ty % (128 : Int))) :: ((AV.int .i64 seq) :: ((AV.int .i64 ti) :: ((AV.int .i64 ss) :: ((AV.sl (4 : Nat) (Prod.snd x_0) (0 : Nat) (Prod.snd x_0) (1 : Nat)) :: ((AV.sl (6 : Nat) ((2 : Nat) * (Prod.fst x_0)) (0 : Nat) (Prod.fst x_0) (2 : Nat)) :: ((AV.int .i64 pad) :: ((AV.str (List.take (60 : Nat) pl)) :: []))))))))))) ((Blk.mk BK.exact true (draftM mk ty seq ti ss tc ks tx ps pad pl)) :: ((Blk.mk BK.exact false ((AV.bool mk) :: ((AV.int .i64 (ty % (128 : Int))) :: ((AV.int .i64 seq) :: ((AV.int .i64 ti) :: ((AV.int .i64 ss) :: ((AV.sl (4 : Nat) (Prod.snd x_0) (0 : Nat) (Prod.snd x_0) (1 : Nat)) :: ((AV.sl (6 : Nat) ((2 : Nat) * (Prod.fst x_0)) (0 : Nat) (Prod.fst x_0) (2 : Nat)) :: ((AV.int .i64 pad) :: ((AV.str (List.take (60 : Nat) pl)) :: [])))))))))) :: ((Blk.mk BK.exact false (resM mk ty seq ti ss (AV.sl (4 : Nat) (Prod.snd x_0) (0 : Nat) (Prod.snd x_0) (1 : Nat)) (AV.sl (6 : Nat) ((2 : Nat) * (Prod.fst x_0)) (0 : Nat) (Prod.fst x_0) (2 : Nat)) pad pl)) :: ((Blk.mk BK.exact true ((AV.int .i64 (List.getD ks (0 : Nat) (0 : Int))) :: [])) :: ((Blk.mk BK.grow true (cellsI (List.take (Prod.snd x_0) ks))) :: ((Blk.mk BK.exact true (cellsXM (pcsM (0 : Int) (List.take (1 : Nat) ps)))) :: ((Blk.mk BK.grow true (cellsXM (pcsM (0 : Int) (List.take (Prod.fst x_0) ps)))) :: []))))))) (Gh.mk (0 : Nat) (0 : Nat) [])))))
else (Q (Out.ret (AV.agg ((AV.bool mk) :: ((AV.int .i64 (ty % (128 : Int))) :: ((AV.int .i64 seq) :: ((AV.int .i64 ti) :: ((AV.int .i64 ss) :: ((AV.sl (4 : Nat) (Prod.snd x_0) (0 : Nat) (Prod.snd x_0) (1 : Nat)) :: ((AV.sl (6 : Nat) ((2 : Nat) * (Prod.fst x_0)) (0 : Nat) (Prod.fst x_0) (2 : Nat)) :: ((AV.int .i64 pad) :: ((AV.str (List.take (60 : Nat) pl)) :: []))))))))))) ((Blk.mk BK.exact true (draftM mk ty seq ti ss tc ks tx ps pad pl)) :: ((Blk.mk BK.exact false ((AV.bool mk) :: ((AV.int .i64 (ty % (128 : Int))) :: ((AV.int .i64 seq) :: ((AV.int .i64 ti) :: ((AV.int .i64 ss) :: ((AV.sl (4 : Nat) (Prod.snd x_0) (0 : Nat) (Prod.snd x_0) (1 : Nat)) :: ((AV.sl (6 : Nat) ((2 : Nat) * (Prod.fst x_0)) (0 : Nat) (Prod.fst x_0) (2 : Nat)) :: ((AV.int .i64 pad) :: ((AV.str (List.take (60 : Nat) pl)) :: [])))))))))) :: ((Blk.mk BK.exact false (resM mk ty seq ti ss (AV.sl (4 : Nat) (Prod.snd x_0) (0 : Nat) (Prod.snd x_0) (1 : Nat)) (AV.sl (6 : Nat) ((2 : Nat) * (Prod.fst x_0)) (0 : Nat) (Prod.fst x_0) (2 : Nat)) pad pl)) :: ((Blk.mk BK.exact true ((AV.int .i64 (List.getD ks (0 : Nat) (0 : Int))) :: [])) :: ((Blk.mk BK.grow true (cellsI (List.take (Prod.snd x_0) ks))) :: ((Blk.mk BK.exact true (cellsXM (pcsM (0 : Int) (List.take (1 : Nat) ps)))) :: ((Blk.mk BK.grow true (cellsXM (pcsM (0 : Int) (List.take (Prod.fst x_0) ps)))) :: []))))))) (Gh.mk (0 : Nat) (0 : Nat) [])))))))))))
def vc_10_5 (mk : Bool) (ty : Int) (seq : Int) (ti : Int) (ss : Int) (tc : Nat) (ks : List Int) (tx : Nat) (ps : List Xt) (pad : Int) (pl : List UInt8) (Q : Out → List Blk → Gh → Prop) : Prop := (
((∀ x_0 : Nat, ((Lf (x_0 = (0 : Nat))) →
(∃ n_1 : Int, (((AV.int .i64 (Nat.cast x_0 : Int)) = (AV.int .i64 n_1)) ∧
 (∃ n_2 : Int, (((AV.int .i64 (Nat.cast (List.length ks) : Int)) = (AV.int .i64 n_2)) ∧
 (bif (decide (n_1 < n_2)) then (∃ n_3 : Int, (((AV.int .i64 (Nat.cast x_0 : Int)) = (AV.int .i64 n_3)) ∧
 (bif (decide (n_3 < (3 : Int))) then (∃ n_4 : Int, (((AV.int .i64 (Nat.cast x_0 : Int)) = (AV.int .i64 n_4)) ∧
 (bif (((decide ((0 : Int) ≤ n_4)) && (Nat.blt (Int.toNat n_4) (List.length ks))) && true) then (bif (Nat.blt ((Int.toNat n_4) * (1 : Nat)) (List.length (cells32M ks))) then (∃ n_5 : Int, (((List.getD (cells32M ks) ((Int.toNat n_4) * (1 : Nat)) AV.undef) = (AV.int .u32 n_5)) ∧
 (∃ n_6 : Int, (((AV.int .i64 (IntKind.wrap .i64 n_5)) = (AV.int .i64 n_6)) ∧
 (∃ n_7 : Int, (((AV.int .i64 (Nat.cast x_0 : Int)) = (AV.int .i64 n_7)) ∧
 (∃ n_8 : Int, (((AV.int .i64 (IntKind.wrap .i64 (n_7 + (1 : Int)))) = (AV.int .i64 n_8)) ∧
 ((True ∧
 ((0 : Nat) = (0 : Nat))) ∧
 ((∃ y_9 : Nat, ((Lf (y_9 = (0 : Nat))) ∧
 (((4 : Nat) < (4 : Nat)) ∧
 (vc_10_1 mk ty seq ti ss tc ks tx ps pad pl)))) ∨
 (∃ y_9 : Nat, ((Lf (((1 : Nat) ≤ y_9) ∧
 ((y_9 ≤ (3 : Nat)) ∧
 (y_9 ≤ (List.length ks))))) ∧
 ((((3 : Nat) - y_9) < (4 : Nat)) ∧
 ((((AV.bool mk) :: ((AV.int .u8 ty) :: ((AV.int .u16 seq) :: ((AV.int .u32 ti) :: ((AV.int .u32 ss) :: ((AV.lst tc (cells32M ks) (List.length ks) (1 : Nat)) :: ((AV.lst tx (cellsPcM ps) (List.length ps) (2 : Nat)) :: ((AV.int .u8 pad) :: ((AV.str pl) :: []))))))))) = ((AV.bool mk) :: ((AV.int .u8 ty) :: ((AV.int .u16 seq) :: ((AV.int .u32 ti) :: ((AV.int .u32 ss) :: ((AV.lst tc (cells32M ks) (List.length ks) (1 : Nat)) :: ((AV.lst tx (cellsPcM ps) (List.length ps) (2 : Nat)) :: ((AV.int .u8 pad) :: ((AV.str pl) :: [])))))))))) ∧
 ((((AV.bool false) :: ((AV.int .i64 (0 : Int)) :: ((AV.int .i64 (0 : Int)) :: ((AV.int .i64 (0 : Int)) :: ((AV.int .i64 (0 : Int)) :: (AV.nils :: (AV.nils :: ((AV.int .i64 (0 : Int)) :: ((AV.str []) :: []))))))))) = ((AV.bool false) :: ((AV.int .i64 (0 : Int)) :: ((AV.int .i64 (0 : Int)) :: ((AV.int .i64 (0 : Int)) :: ((AV.int .i64 (0 : Int)) :: (AV.nils :: (AV.nils :: ((AV.int .i64 (0 : Int)) :: ((AV.str []) :: [])))))))))) ∧
 ((((AV.bool mk) :: ((AV.int .i64 (ty % (128 : Int))) :: ((AV.int .i64 seq) :: ((AV.int .i64 ti) :: ((AV.int .i64 ss) :: ((AV.sl (4 : Nat) (1 : Nat) (0 : Nat) (1 : Nat) (1 : Nat)) :: (AV.nils :: ((AV.int .i64 pad) :: ((AV.str (List.take (60 : Nat) pl)) :: []))))))))) = ((AV.bool mk) :: ((AV.int .i64 (ty % (128 : Int))) :: ((AV.int .i64 seq) :: ((AV.int .i64 ti) :: ((AV.int .i64 ss) :: ((AV.sl (4 : Nat) y_9 (0 : Nat) y_9 (1 : Nat)) :: (AV.nils :: ((AV.int .i64 pad) :: ((AV.str (List.take (60 : Nat) pl)) :: [])))))))))) ∧
 ((((AV.int .i64 n_6) :: []) = ((AV.int .i64 (List.getD ks (0 : Nat) (0 : Int))) :: [])) ∧
 ((((AV.int .i64 n_6) :: []) = (cellsI (List.take y_9 ks))) ∧
 (((AV.ptr (0 : Nat) (9 : Nat) (0 : Nat)) = (AV.ptr (0 : Nat) (9 : Nat) (0 : Nat))) ∧
 (((AV.ptr (2 : Nat) (9 : Nat) (0 : Nat)) = (AV.ptr (2 : Nat) (9 : Nat) (0 : Nat))) ∧
 (((AV.ptr (1 : Nat) (9 : Nat) (0 : Nat)) = (AV.ptr (1 : Nat) (9 : Nat) (0 : Nat))) ∧
 (((AV.int .i64 n_8) = (AV.int .i64 (Nat.cast y_9 : Int))) ∧
 True))))))))))))))))))))))
else False)
else False)))
else (vc_10_3 mk ty seq ti ss tc ks tx ps pad pl Q))))
else (vc_10_3 mk ty seq ti ss tc ks tx ps pad pl Q)))))))) ∧
 (∀ x_0 : Nat, ((Lf (((1 : Nat) ≤ x_0) ∧
 ((x_0 ≤ (3 : Nat)) ∧
 (x_0 ≤ (List.length ks))))) →
(∃ n_1 : Int, (((AV.int .i64 (Nat.cast x_0 : Int)) = (AV.int .i64 n_1)) ∧
 (∃ n_2 : Int, (((AV.int .i64 (Nat.cast (List.length ks) : Int)) = (AV.int .i64 n_2)) ∧
 (bif (decide (n_1 < n_2)) then (∃ n_3 : Int, (((AV.int .i64 (Nat.cast x_0 : Int)) = (AV.int .i64 n_3)) ∧
 (bif (decide (n_3 < (3 : Int))) then (∃ n_4 : Int, (((AV.int .i64 (Nat.cast x_0 : Int)) = (AV.int .i64 n_4)) ∧
 (bif (((decide ((0 : Int) ≤ n_4)) && (Nat.blt (Int.toNat n_4) (List.length ks))) && true) then (bif (Nat.blt ((Int.toNat n_4) * (1 : Nat)) (List.length (cells32M ks))) then (∃ n_5 : Int, (((List.getD (cells32M ks) ((Int.toNat n_4) * (1 : Nat)) AV.undef) = (AV.int .u32 n_5)) ∧
 (∃ n_6 : Int, (((AV.int .i64 (IntKind.wrap .i64 n_5)) = (AV.int .i64 n_6)) ∧
 (bif (((((Nat.beq (List.length (cellsI (List.take x_0 ks))) x_0) && true) && (Nat.beq ((0 : Nat) + (x_0 * (1 : Nat))) x_0)) && (Nat.ble (x_0 + (1 : Nat)) (1099511627776 : Nat))) && (Nat.ble ((x_0 + (1 : Nat)) * (8 : Nat)) (1099511627776 : Nat))) then (∃ n_7 : Int, (((AV.int .i64 (Nat.cast x_0 : Int)) = (AV.int .i64 n_7)) ∧
 (∃ n_8 : Int, (((AV.int .i64 (IntKind.wrap .i64 (n_7 + (1 : Int)))) = (AV.int .i64 n_8)) ∧
 ((True ∧
 ((0 : Nat) = (0 : Nat))) ∧
 ((∃ y_9 : Nat, ((Lf (y_9 = (0 : Nat))) ∧
 (((4 : Nat) < ((3 : Nat) - x_0)) ∧
 (vc_10_1 mk ty seq ti ss tc ks tx ps pad pl)))) ∨
 (∃ y_9 : Nat, ((Lf (((1 : Nat) ≤ y_9) ∧
 ((y_9 ≤ (3 : Nat)) ∧
 (y_9 ≤ (List.length ks))))) ∧
 ((((3 : Nat) - y_9) < ((3 : Nat) - x_0)) ∧
 ((((AV.bool mk) :: ((AV.int .u8 ty) :: ((AV.int .u16 seq) :: ((AV.int .u32 ti) :: ((AV.int .u32 ss) :: ((AV.lst tc (cells32M ks) (List.length ks) (1 : Nat)) :: ((AV.lst tx (cellsPcM ps) (List.length ps) (2 : Nat)) :: ((AV.int .u8 pad) :: ((AV.str pl) :: []))))))))) = ((AV.bool mk) :: ((AV.int .u8 ty) :: ((AV.int .u16 seq) :: ((AV.int .u32 ti) :: ((AV.int .u32 ss) :: ((AV.lst tc (cells32M ks) (List.length ks) (1 : Nat)) :: ((AV.lst tx (cellsPcM ps) (List.length ps) (2 : Nat)) :: ((AV.int .u8 pad) :: ((AV.str pl) :: [])))))))))) ∧
 ((((AV.bool false) :: ((AV.int .i64 (0 : Int)) :: ((AV.int .i64 (0 : Int)) :: ((AV.int .i64 (0 : Int)) :: ((AV.int .i64 (0 : Int)) :: (AV.nils :: (AV.nils :: ((AV.int .i64 (0 : Int)) :: ((AV.str []) :: []))))))))) = ((AV.bool false) :: ((AV.int .i64 (0 : Int)) :: ((AV.int .i64 (0 : Int)) :: ((AV.int .i64 (0 : Int)) :: ((AV.int .i64 (0 : Int)) :: (AV.nils :: (AV.nils :: ((AV.int .i64 (0 : Int)) :: ((AV.str []) :: [])))))))))) ∧
 ((((AV.bool mk) :: ((AV.int .i64 (ty % (128 : Int))) :: ((AV.int .i64 seq) :: ((AV.int .i64 ti) :: ((AV.int .i64 ss) :: ((AV.sl (4 : Nat) (x_0 + (1 : Nat)) (0 : Nat) (x_0 + (1 : Nat)) (1 : Nat)) :: (AV.nils :: ((AV.int .i64 pad) :: ((AV.str (List.take (60 : Nat) pl)) :: []))))))))) = ((AV.bool mk) :: ((AV.int .i64 (ty % (128 : Int))) :: ((AV.int .i64 seq) :: ((AV.int .i64 ti) :: ((AV.int .i64 ss) :: ((AV.sl (4 : Nat) y_9 (0 : Nat) y_9 (1 : Nat)) :: (AV.nils :: ((AV.int .i64 pad) :: ((AV.str (List.take (60 : Nat) pl)) :: [])))))))))) ∧
 ((((AV.int .i64 (List.getD ks (0 : Nat) (0 : Int))) :: []) = ((AV.int .i64 (List.getD ks (0 : Nat) (0 : Int))) :: [])) ∧
 ((((cellsI (List.take x_0 ks)) ++ ((AV.int .i64 n_6) :: [])) = (cellsI (List.take y_9 ks))) ∧
 (((AV.ptr (0 : Nat) (9 : Nat) (0 : Nat)) = (AV.ptr (0 : Nat) (9 : Nat) (0 : Nat))) ∧
 (((AV.ptr (2 : Nat) (9 : Nat) (0 : Nat)) = (AV.ptr (2 : Nat) (9 : Nat) (0 : Nat))) ∧
 (((AV.ptr (1 : Nat) (9 : Nat) (0 : Nat)) = (AV.ptr (1 : Nat) (9 : Nat) (0 : Nat))) ∧
 (((AV.int .i64 n_8) = (AV.int .i64 (Nat.cast y_9 : Int))) ∧
 True))))))))))))))))))
else False)))))
else False)
else False)))
else (((∃ x_4 : (Prod Nat Nat), ((Lf (((Prod.fst x_4) = (0 : Nat)) ∧
 (((1 : Nat) ≤ (Prod.snd x_4)) ∧
 (((Prod.snd x_4) ≤ (3 : Nat)) ∧
 (((Prod.snd x_4) ≤ (List.length ks)) ∧
 (((Prod.snd x_4) = (3 : Nat)) ∨
 ((Prod.snd x_4) = (List.length ks)))))))) ∧
 ((((AV.bool mk) :: ((AV.int .u8 ty) :: ((AV.int .u16 seq) :: ((AV.int .u32 ti) :: ((AV.int .u32 ss) :: ((AV.lst tc (cells32M ks) (List.length ks) (1 : Nat)) :: ((AV.lst tx (cellsPcM ps) (List.length ps) (2 : Nat)) :: ((AV.int .u8 pad) :: ((AV.str pl) :: []))))))))) = ((AV.bool mk) :: ((AV.int .u8 ty) :: ((AV.int .u16 seq) :: ((AV.int .u32 ti) :: ((AV.int .u32 ss) :: ((AV.lst tc (cells32M ks) (List.length ks) (1 : Nat)) :: ((AV.lst tx (cellsPcM ps) (List.length ps) (2 : Nat)) :: ((AV.int .u8 pad) :: ((AV.str pl) :: [])))))))))) ∧
 ((((AV.bool false) :: ((AV.int .i64 (0 : Int)) :: ((AV.int .i64 (0 : Int)) :: ((AV.int .i64 (0 : Int)) :: ((AV.int .i64 (0 : Int)) :: (AV.nils :: (AV.nils :: ((AV.int .i64 (0 : Int)) :: ((AV.str []) :: []))))))))) = ((AV.bool false) :: ((AV.int .i64 (0 : Int)) :: ((AV.int .i64 (0 : Int)) :: ((AV.int .i64 (0 : Int)) :: ((AV.int .i64 (0 : Int)) :: (AV.nils :: (AV.nils :: ((AV.int .i64 (0 : Int)) :: ((AV.str []) :: [])))))))))) ∧
 ((((AV.bool mk) :: ((AV.int .i64 (ty % (128 : Int))) :: ((AV.int .i64 seq) :: ((AV.int .i64 ti) :: ((AV.int .i64 ss) :: ((AV.sl (4 : Nat) x_0 (0 : Nat) x_0 (1 : Nat)) :: (AV.nils :: ((AV.int .i64 pad) :: ((AV.str (List.take (60 : Nat) pl)) :: []))))))))) = ((AV.bool mk) :: ((AV.int .i64 (ty % (128 : Int))) :: ((AV.int .i64 seq) :: ((AV.int .i64 ti) :: ((AV.int .i64 ss) :: ((AV.sl (4 : Nat) (Prod.snd x_4) (0 : Nat) (Prod.snd x_4) (1 : Nat)) :: (AV.nils :: ((AV.int .i64 pad) :: ((AV.str (List.take (60 : Nat) pl)) :: [])))))))))) ∧
 ((((AV.int .i64 (List.getD ks (0 : Nat) (0 : Int))) :: []) = ((AV.int .i64 (List.getD ks (0 : Nat) (0 : Int))) :: [])) ∧
 (((cellsI (List.take x_0 ks)) = (cellsI (List.take (Prod.snd x_4) ks))) ∧
 (((AV.ptr (0 : Nat) (9 : Nat) (0 : Nat)) = (AV.ptr (0 : Nat) (9 : Nat) (0 : Nat))) ∧
 (((AV.ptr (2 : Nat) (9 : Nat) (0 : Nat)) = (AV.ptr (2 : Nat) (9 : Nat) (0 : Nat))) ∧
 (((AV.int .i64 (0 : Int)) = (AV.int .i64 (0 : Int))) ∧
 (((AV.ptr (1 : Nat) (9 : Nat) (0 : Nat)) = (AV.ptr (1 : Nat) (9 : Nat) (0 : Nat))) ∧
 (((AV.int .i64 (0 : Int)) = (AV.int .i64 (Nat.cast (Prod.fst x_4) : Int))) ∧
 True)))))))))))) ∨
 (∃ x_4 : (Prod Nat Nat), ((Lf (((1 : Nat) ≤ (Prod.fst x_4)) ∧
 (((Prod.fst x_4) ≤ (4 : Nat)) ∧
 (((Prod.fst x_4) ≤ (List.length ps)) ∧
 (((1 : Nat) ≤ (Prod.snd x_4)) ∧
 (((Prod.snd x_4) ≤ (3 : Nat)) ∧
 (((Prod.snd x_4) ≤ (List.length ks)) ∧
 (((Prod.snd x_4) = (3 : Nat)) ∨
 ((Prod.snd x_4) = (List.length ks)))))))))) ∧
 ((((AV.bool mk) :: ((AV.int .u8 ty) :: ((AV.int .u16 seq) :: ((AV.int .u32 ti) :: ((AV.int .u32 ss) :: ((AV.lst tc (cells32M ks) (List.length ks) (1 : Nat)) :: ((AV.lst tx (cellsPcM ps) (List.length ps) (2 : Nat)) :: ((AV.int .u8 pad) :: ((AV.str pl) :: []))))))))) = ((AV.bool mk) :: ((AV.int .u8 ty) :: ((AV.int .u16 seq) :: ((AV.int .u32 ti) :: ((AV.int .u32 ss) :: ((AV.lst tc (cells32M ks) (List.length ks) (1 : Nat)) :: ((AV.lst tx (cellsPcM ps) (List.length ps) (2 : Nat)) :: ((AV.int .u8 pad) :: ((AV.str pl) :: [])))))))))) ∧
 ((((AV.bool false) :: ((AV.int .i64 (0 : Int)) :: ((AV.int .i64 (0 : Int)) :: ((AV.int .i64 (0 : Int)) :: ((AV.int .i64 (0 : Int)) :: (AV.nils :: (AV.nils :: ((AV.int .i64 (0 : Int)) :: ((AV.str []) :: []))))))))) = ((AV.bool false) :: ((AV.int .i64 (0 : Int)) :: ((AV.int .i64 (0 : Int)) :: ((AV.int .i64 (0 : Int)) :: ((AV.int .i64 (0 : Int)) :: (AV.nils :: (AV.nils :: ((AV.int .i64 (0 : Int)) :: ((AV.str []) :: [])))))))))) ∧
 ((((AV.bool mk) :: ((AV.int .i64 (ty % (128 : Int))) :: ((AV.int .i64 seq) :: ((AV.int .i64 ti) :: ((AV.int .i64 ss) :: ((AV.sl (4 : Nat) x_0 (0 : Nat) x_0 (1 : Nat)) :: (AV.nils :: ((AV.int .i64 pad) :: ((AV.str (List.take (60 : Nat) pl)) :: []))))))))) = ((AV.bool mk) :: ((AV.int .i64 (ty % (128 : Int))) :: ((AV.int .i64 seq) :: ((AV.int .i64 ti) :: ((AV.int .i64 ss) :: ((AV.sl (4 : Nat) (Prod.snd x_4) (0 : Nat) (Prod.snd x_4) (1 : Nat)) :: ((AV.sl (6 : Nat) ((2 : Nat) * (Prod.fst x_4)) (0 : Nat) (Prod.fst x_4) (2 : Nat)) :: ((AV.int .i64 pad) :: ((AV.str (List.take (60 : Nat) pl)) :: [])))))))))) ∧
 ((((AV.int .i64 (List.getD ks (0 : Nat) (0 : Int))) :: []) = ((AV.int .i64 (List.getD ks (0 : Nat) (0 : Int))) :: [])) ∧
 (((cellsI (List.take x_0 ks)) = (cellsI (List.take (Prod.snd x_4) ks))) ∧
 False)))))))) ∧
 (vc_10_4 mk ty seq ti ss tc ks tx ps pad pl Q)))))
else (((∃ x_3 : (Prod Nat Nat), ((Lf (((Prod.fst x_3) = (0 : Nat)) ∧
 (((1 : Nat) ≤ (Prod.snd x_3)) ∧
 (((Prod.snd x_3) ≤ (3 : Nat)) ∧
 (((Prod.snd x_3) ≤ (List.length ks)) ∧
 (((Prod.snd x_3) = (3 : Nat)) ∨
 ((Prod.snd x_3) = (List.length ks)))))))) ∧
 ((((AV.bool mk) :: ((AV.int .u8 ty) :: ((AV.int .u16 seq) :: ((AV.int .u32 ti) :: ((AV.int .u32 ss) :: ((AV.lst tc (cells32M ks) (List.length ks) (1 : Nat)) :: ((AV.lst tx (cellsPcM ps) (List.length ps) (2 : Nat)) :: ((AV.int .u8 pad) :: ((AV.str pl) :: []))))))))) = ((AV.bool mk) :: ((AV.int .u8 ty) :: ((AV.int .u16 seq) :: ((AV.int .u32 ti) :: ((AV.int .u32 ss) :: ((AV.lst tc (cells32M ks) (List.length ks) (1 : Nat)) :: ((AV.lst tx (cellsPcM ps) (List.length ps) (2 : Nat)) :: ((AV.int .u8 pad) :: ((AV.str pl) :: [])))))))))) ∧
 ((((AV.bool false) :: ((AV.int .i64 (0 : Int)) :: ((AV.int .i64 (0 : Int)) :: ((AV.int .i64 (0 : Int)) :: ((AV.int .i64 (0 : Int)) :: (AV.nils :: (AV.nils :: ((AV.int .i64 (0 : Int)) :: ((AV.str []) :: []))))))))) = ((AV.bool false) :: ((AV.int .i64 (0 : Int)) :: ((AV.int .i64 (0 : Int)) :: ((AV.int .i64 (0 : Int)) :: ((AV.int .i64 (0 : Int)) :: (AV.nils :: (AV.nils :: ((AV.int .i64 (0 : Int)) :: ((AV.str []) :: [])))))))))) ∧
 ((((AV.bool mk) :: ((AV.int .i64 (ty % (128 : Int))) :: ((AV.int .i64 seq) :: ((AV.int .i64 ti) :: ((AV.int .i64 ss) :: ((AV.sl (4 : Nat) x_0 (0 : Nat) x_0 (1 : Nat)) :: (AV.nils :: ((AV.int .i64 pad) :: ((AV.str (List.take (60 : Nat) pl)) :: []))))))))) = ((AV.bool mk) :: ((AV.int .i64 (ty % (128 : Int))) :: ((AV.int .i64 seq) :: ((AV.int .i64 ti) :: ((AV.int .i64 ss) :: ((AV.sl (4 : Nat) (Prod.snd x_3) (0 : Nat) (Prod.snd x_3) (1 : Nat)) :: (AV.nils :: ((AV.int .i64 pad) :: ((AV.str (List.take (60 : Nat) pl)) :: [])))))))))) ∧
 ((((AV.int .i64 (List.getD ks (0 : Nat) (0 : Int))) :: []) = ((AV.int .i64 (List.getD ks (0 : Nat) (0 : Int))) :: [])) ∧
 (((cellsI (List.take x_0 ks)) = (cellsI (List.take (Prod.snd x_3) ks))) ∧
 (((AV.ptr (0 : Nat) (9 : Nat) (0 : Nat)) = (AV.ptr (0 : Nat) (9 : Nat) (0 : Nat))) ∧
 (((AV.ptr (2 : Nat) (9 : Nat) (0 : Nat)) = (AV.ptr (2 : Nat) (9 : Nat) (0 : Nat))) ∧
 (((AV.int .i64 (0 : Int)) = (AV.int .i64 (0 : Int))) ∧
 (((AV.ptr (1 : Nat) (9 : Nat) (0 : Nat)) = (AV.ptr (1 : Nat) (9 : Nat) (0 : Nat))) ∧
 (((AV.int .i64 (0 : Int)) = (AV.int .i64 (Nat.cast (Prod.fst x_3) : Int))) ∧
 True)))))))))))) ∨
 (∃ x_3 : (Prod Nat Nat), ((Lf (((1 : Nat) ≤ (Prod.fst x_3)) ∧
 (((Prod.fst x_3) ≤ (4 : Nat)) ∧
 (((Prod.fst x_3) ≤ (List.length ps)) ∧
 (((1 : Nat) ≤ (Prod.snd x_3)) ∧
 (((Prod.snd x_3) ≤ (3 : Nat)) ∧
 (((Prod.snd x_3) ≤ (List.length ks)) ∧
 (((Prod.snd x_3) = (3 : Nat)) ∨
 ((Prod.snd x_3) = (List.length ks)))))))))) ∧
 ((((AV.bool mk) :: ((AV.int .u8 ty) :: ((AV.int .u16 seq) :: ((AV.int .u32 ti) :: ((AV.int .u32 ss) :: ((AV.lst tc (cells32M ks) (List.length ks) (1 : Nat)) :: ((AV.lst tx (cellsPcM ps) (List.length ps) (2 : Nat)) :: ((AV.int .u8 pad) :: ((AV.str pl) :: []))))))))) = ((AV.bool mk) :: ((AV.int .u8 ty) :: ((AV.int .u16 seq) :: ((AV.int .u32 ti) :: ((AV.int .u32 ss) :: ((AV.lst tc (cells32M ks) (List.length ks) (1 : Nat)) :: ((AV.lst tx (cellsPcM ps) (List.length ps) (2 : Nat)) :: ((AV.int .u8 pad) :: ((AV.str pl) :: [])))))))))) ∧
 ((((AV.bool false) :: ((AV.int .i64 (0 : Int)) :: ((AV.int .i64 (0 : Int)) :: ((AV.int .i64 (0 : Int)) :: ((AV.int .i64 (0 : Int)) :: (AV.nils :: (AV.nils :: ((AV.int .i64 (0 : Int)) :: ((AV.str []) :: []))))))))) = ((AV.bool false) :: ((AV.int .i64 (0 : Int)) :: ((AV.int .i64 (0 : Int)) :: ((AV.int .i64 (0 : Int)) :: ((AV.int .i64 (0 : Int)) :: (AV.nils :: (AV.nils :: ((AV.int .i64 (0 : Int)) :: ((AV.str []) :: [])))))))))) ∧
 ((((AV.bool mk) :: ((AV.int .i64 (ty % (128 : Int))) :: ((AV.int .i64 seq) :: ((AV.int .i64 ti) :: ((AV.int .i64 ss) :: ((AV.sl (4 : Nat) x_0 (0 : Nat) x_0 (1 : Nat)) :: (AV.nils :: ((AV.int .i64 pad) :: ((AV.str (List.take (60 : Nat) pl)) :: []))))))))) = ((AV.bool mk) :: ((AV.int .i64 (ty % (128 : Int))) :: ((AV.int .i64 seq) :: ((AV.int .i64 ti) :: ((AV.int .i64 ss) :: ((AV.sl (4 : Nat) (Prod.snd x_3) (0 : Nat) (Prod.snd x_3) (1 : Nat)) :: ((AV.sl (6 : Nat) ((2 : Nat) * (Prod.fst x_3)) (0 : Nat) (Prod.fst x_3) (2 : Nat)) :: ((AV.int .i64 pad) :: ((AV.str (List.take (60 : Nat) pl)) :: [])))))))))) ∧
 ((((AV.int .i64 (List.getD ks (0 : Nat) (0 : Int))) :: []) = ((AV.int .i64 (List.getD ks (0 : Nat) (0 : Int))) :: [])) ∧
 (((cellsI (List.take x_0 ks)) = (cellsI (List.take (Prod.snd x_3) ks))) ∧
 False)))))))) ∧
 (vc_10_4 mk ty seq ti ss tc ks tx ps pad pl Q)))))))))))
theorem vc_10 (mk : Bool) (ty : Int) (seq : Int) (ti : Int) (ss : Int) (tc : Nat) (ks : List Int) (tx : Nat) (ps : List Xt) (pad : Int) (pl : List UInt8) (Q : Out → List Blk → Gh → Prop) : goal_10 (lookV [(40971, .int .u8), (40972, .int .i64), (40975, .int .i64), (40978, .int .i64), (40981, .int .i64), (40984, .int .i64), (40989, .int .i64), (40990, .int .i64), (40991, .str), (40993, .int .i64), (40996, .int .i64), (40999, .int .i64), (41008, .int .i64), (41010, .int .u32), (41011, .int .i64), (41002, .int .i64), (41003, .int .i64), (41015, .int .i64), (41018, .int .i64), (41021, .int .i64), (41030, .int .i64), (41033, .int .u8), (41034, .int .u8), (41035, .int .i64), (41036, .int .i64), (41042, .int .i64), (41045, .str), (41048, .int .i64), (41051, .str), (41052, .int .i64), (41053, .int .i64), (41054, .str), (41024, .int .i64), (41025, .int .i64), (41026, .int .i64), (41027, .int .i64)]) (lookB []) mk ty seq ti ss tc ks tx ps pad pl Q = (
(bif mk then (∃ n_0 : Int, (((AV.int .u8 (Int.tmod ty (128 : Int))) = (AV.int .u8 n_0)) ∧
 (∃ n_1 : Int, (((AV.int .i64 (IntKind.wrap .i64 n_0)) = (AV.int .i64 n_1)) ∧
 (∃ n_2 : Int, (((AV.int .i64 (IntKind.wrap .i64 seq)) = (AV.int .i64 n_2)) ∧
 (∃ n_3 : Int, (((AV.int .i64 (IntKind.wrap .i64 ti)) = (AV.int .i64 n_3)) ∧
 (∃ n_4 : Int, (((AV.int .i64 (IntKind.wrap .i64 ss)) = (AV.int .i64 n_4)) ∧
 (∃ n_5 : Int, (((AV.int .i64 (IntKind.wrap .i64 pad)) = (AV.int .i64 n_5)) ∧
 (∃ n_6 : Int, (((AV.int .i64 (Nat.cast (List.length pl) : Int)) = (AV.int .i64 n_6)) ∧
 (∃ n_7 : Int, (((AV.int .i64 (imin n_6 (60 : Int))) = (AV.int .i64 n_7)) ∧
 (bif (((decide ((0 : Int) ≤ n_7)) && true) && (Nat.ble (Int.toNat n_7) (List.length pl))) then (∃ s_8 : (List UInt8), (((AV.str (List.take ((Int.toNat n_7) - (0 : Nat)) (List.drop (0 : Nat) pl))) = (AV.str s_8)) ∧
 (((∃ x_9 : Nat, ((Lf (x_9 = (0 : Nat))) ∧
 ((((AV.bool mk) :: ((AV.int .u8 ty) :: ((AV.int .u16 seq) :: ((AV.int .u32 ti) :: ((AV.int .u32 ss) :: ((AV.lst tc (cells32M ks) (List.length ks) (1 : Nat)) :: ((AV.lst tx (cellsPcM ps) (List.length ps) (2 : Nat)) :: ((AV.int .u8 pad) :: ((AV.str pl) :: []))))))))) = ((AV.bool mk) :: ((AV.int .u8 ty) :: ((AV.int .u16 seq) :: ((AV.int .u32 ti) :: ((AV.int .u32 ss) :: ((AV.lst tc (cells32M ks) (List.length ks) (1 : Nat)) :: ((AV.lst tx (cellsPcM ps) (List.length ps) (2 : Nat)) :: ((AV.int .u8 pad) :: ((AV.str pl) :: [])))))))))) ∧
 ((((AV.bool false) :: ((AV.int .i64 (0 : Int)) :: ((AV.int .i64 (0 : Int)) :: ((AV.int .i64 (0 : Int)) :: ((AV.int .i64 (0 : Int)) :: (AV.nils :: (AV.nils :: ((AV.int .i64 (0 : Int)) :: ((AV.str []) :: []))))))))) = ((AV.bool false) :: ((AV.int .i64 (0 : Int)) :: ((AV.int .i64 (0 : Int)) :: ((AV.int .i64 (0 : Int)) :: ((AV.int .i64 (0 : Int)) :: (AV.nils :: (AV.nils :: ((AV.int .i64 (0 : Int)) :: ((AV.str []) :: [])))))))))) ∧
 ((((AV.bool true) :: ((AV.int .i64 n_1) :: ((AV.int .i64 n_2) :: ((AV.int .i64 n_3) :: ((AV.int .i64 n_4) :: (AV.nils :: (AV.nils :: ((AV.int .i64 n_5) :: ((AV.str s_8) :: []))))))))) = ((AV.bool mk) :: ((AV.int .i64 (ty % (128 : Int))) :: ((AV.int .i64 seq) :: ((AV.int .i64 ti) :: ((AV.int .i64 ss) :: (AV.nils :: (AV.nils :: ((AV.int .i64 pad) :: ((AV.str (List.take (60 : Nat) pl)) :: [])))))))))) ∧
 (((AV.ptr (0 : Nat) (9 : Nat) (0 : Nat)) = (AV.ptr (0 : Nat) (9 : Nat) (0 : Nat))) ∧
 (((AV.ptr (2 : Nat) (9 : Nat) (0 : Nat)) = (AV.ptr (2 : Nat) (9 : Nat) (0 : Nat))) ∧
 (((AV.ptr (1 : Nat) (9 : Nat) (0 : Nat)) = (AV.ptr (1 : Nat) (9 : Nat) (0 : Nat))) ∧
 (((AV.int .i64 (0 : Int)) = (AV.int .i64 (Nat.cast x_9 : Int))) ∧
 True))))))))) ∨
 (vc_10_2 mk ty seq ti ss tc ks tx ps pad pl)) ∧
 (vc_10_5 mk ty seq ti ss tc ks tx ps pad pl Q))))
else False)))))))))))))))))
else (∃ n_0 : Int, (((AV.int .u8 (Int.tmod ty (128 : Int))) = (AV.int .u8 n_0)) ∧
 (∃ n_1 : Int, (((AV.int .i64 (IntKind.wrap .i64 n_0)) = (AV.int .i64 n_1)) ∧
 (∃ n_2 : Int, (((AV.int .i64 (IntKind.wrap .i64 seq)) = (AV.int .i64 n_2)) ∧
 (∃ n_3 : Int, (((AV.int .i64 (IntKind.wrap .i64 ti)) = (AV.int .i64 n_3)) ∧
 (∃ n_4 : Int, (((AV.int .i64 (IntKind.wrap .i64 ss)) = (AV.int .i64 n_4)) ∧
 (∃ n_5 : Int, (((AV.int .i64 (IntKind.wrap .i64 pad)) = (AV.int .i64 n_5)) ∧
 (∃ n_6 : Int, (((AV.int .i64 (Nat.cast (List.length pl) : Int)) = (AV.int .i64 n_6)) ∧
 (∃ n_7 : Int, (((AV.int .i64 (imin n_6 (60 : Int))) = (AV.int .i64 n_7)) ∧
 (bif (((decide ((0 : Int) ≤ n_7)) && true) && (Nat.ble (Int.toNat n_7) (List.length pl))) then (∃ s_8 : (List UInt8), (((AV.str (List.take ((Int.toNat n_7) - (0 : Nat)) (List.drop (0 : Nat) pl))) = (AV.str s_8)) ∧
 (((∃ x_9 : Nat, ((Lf (x_9 = (0 : Nat))) ∧
 ((((AV.bool mk) :: ((AV.int .u8 ty) :: ((AV.int .u16 seq) :: ((AV.int .u32 ti) :: ((AV.int .u32 ss) :: ((AV.lst tc (cells32M ks) (List.length ks) (1 : Nat)) :: ((AV.lst tx (cellsPcM ps) (List.length ps) (2 : Nat)) :: ((AV.int .u8 pad) :: ((AV.str pl) :: []))))))))) = ((AV.bool mk) :: ((AV.int .u8 ty) :: ((AV.int .u16 seq) :: ((AV.int .u32 ti) :: ((AV.int .u32 ss) :: ((AV.lst tc (cells32M ks) (List.length ks) (1 : Nat)) :: ((AV.lst tx (cellsPcM ps) (List.length ps) (2 : Nat)) :: ((AV.int .u8 pad) :: ((AV.str pl) :: [])))))))))) ∧
 ((((AV.bool false) :: ((AV.int .i64 (0 : Int)) :: ((AV.int .i64 (0 : Int)) :: ((AV.int .i64 (0 : Int)) :: ((AV.int .i64 (0 : Int)) :: (AV.nils :: (AV.nils :: ((AV.int .i64 (0 : Int)) :: ((AV.str []) :: []))))))))) = ((AV.bool false) :: ((AV.int .i64 (0 : Int)) :: ((AV.int .i64 (0 : Int)) :: ((AV.int .i64 (0 : Int)) :: ((AV.int .i64 (0 : Int)) :: (AV.nils :: (AV.nils :: ((AV.int .i64 (0 : Int)) :: ((AV.str []) :: [])))))))))) ∧
 ((((AV.bool false) :: ((AV.int .i64 n_1) :: ((AV.int .i64 n_2) :: ((AV.int .i64 n_3) :: ((AV.int .i64 n_4) :: (AV.nils :: (AV.nils :: ((AV.int .i64 n_5) :: ((AV.str s_8) :: []))))))))) = ((AV.bool mk) :: ((AV.int .i64 (ty % (128 : Int))) :: ((AV.int .i64 seq) :: ((AV.int .i64 ti) :: ((AV.int .i64 ss) :: (AV.nils :: (AV.nils :: ((AV.int .i64 pad) :: ((AV.str (List.take (60 : Nat) pl)) :: [])))))))))) ∧
 (((AV.ptr (0 : Nat) (9 : Nat) (0 : Nat)) = (AV.ptr (0 : Nat) (9 : Nat) (0 : Nat))) ∧
 (((AV.ptr (2 : Nat) (9 : Nat) (0 : Nat)) = (AV.ptr (2 : Nat) (9 : Nat) (0 : Nat))) ∧
 (((AV.ptr (1 : Nat) (9 : Nat) (0 : Nat)) = (AV.ptr (1 : Nat) (9 : Nat) (0 : Nat))) ∧
 (((AV.int .i64 (0 : Int)) = (AV.int .i64 (Nat.cast x_9 : Int))) ∧
 True))))))))) ∨
 (vc_10_2 mk ty seq ti ss tc ks tx ps pad pl)) ∧
 (vc_10_5 mk ty seq ti ss tc ks tx ps pad pl Q))))
else False))))))))))))))))))) := by kernel_rfl

theorem cells32_len (l : List Int) : (cells32M l).length = l.length := by simp [cells32M]
theorem cellsPc_len : ∀ l, (cellsPcM l).length = 2 * l.length
  | [] => rfl
  | x :: l => by simp [cellsPcM, cellsPc_len l]; omega
theorem cellsPc_drop : ∀ (l : List Xt) (i : Nat), (cellsPcM l).drop (2 * i) = cellsPcM (l.drop i)
  | l, 0 => rfl
  | [], i + 1 => by simp [cellsPcM]
  | x :: l, i + 1 => by
    rw [show 2 * (i + 1) = 2 * i + 2 by omega, cellsPcM, List.drop_succ_cons, List.drop_succ_cons, cellsPc_drop l i, List.drop_succ_cons]
theorem getPn {l : List Xt} {i m : Nat} (hi : i < l.length) (hm : m = i * 2 + 0) {K : Int → Prop} (hk : K l[i].1) : ∃ n : Int, (cellsPcM l).getD m AV.undef = AV.int .u8 n ∧ K n := by
  refine ⟨_, ?_, hk⟩
  subst hm
  have e := cellsPc_drop l i
  rw [List.drop_eq_getElem_cons hi, cellsPcM] at e
  have : ((cellsPcM l).drop (2 * i))[0]? = some (AV.int .u8 l[i].1) := by rw [e]; rfl
  rw [List.getElem?_drop] at this
  rw [List.getD_eq_getElem?_getD, show i * 2 + 0 = 2 * i + 0 by omega, this]
  rfl
theorem getPs {l : List Xt} {i m : Nat} (hi : i < l.length) (hm : m = i * 2 + 1) {K : List UInt8 → Prop} (hk : K l[i].2) : ∃ s : List UInt8, (cellsPcM l).getD m AV.undef = AV.str s ∧ K s := by
  refine ⟨_, ?_, hk⟩
  subst hm
  have e := cellsPc_drop l i
  rw [List.drop_eq_getElem_cons hi, cellsPcM] at e
  have : ((cellsPcM l).drop (2 * i))[1]? = some (AV.str l[i].2) := by rw [e]; rfl
  rw [List.getElem?_drop] at this
  rw [List.getD_eq_getElem?_getD, show i * 2 + 1 = 2 * i + 1 by omega, this]
  rfl
theorem get32 {l : List Int} {i m : Nat} (hi : i < l.length) (hm : m = i) {K : Int → Prop} (hk : K l[i]) : ∃ n : Int, (cells32M l).getD m AV.undef = AV.int .u32 n ∧ K n := by
  subst hm
  exact ⟨_, by simp [cells32M, hi], hk⟩
theorem iminI {x : Int} {a b : Nat} (hx : x = (a : Int)) {K : Int → Prop} (h : K ((min a b : Nat) : Int)) : ∃ n : Int, AV.int .i64 (imin x (b : Int)) = AV.int .i64 n ∧ K n := by
  subst hx
  refine ⟨_, ?_, h⟩
  congr 1
  unfold imin
  split <;> omega
theorem take_imin (s : List UInt8) (n : Nat) : List.take (Int.toNat ((min s.length n : Nat) : Int) - 0) (List.drop 0 s) = s.take n := by
  rw [Int.toNat_natCast, Nat.sub_zero, List.drop_zero]
  by_cases h : s.length ≤ n
  · rw [Nat.min_eq_left h, List.take_of_length_le (Nat.le_refl _), List.take_of_length_le h]
  · rw [Nat.min_eq_right (by omega)]
theorem cellsX_app (a b : List Xt) : cellsXM (a ++ b) = cellsXM a ++ cellsXM b := by
  induction a with
  | nil => rfl
  | cons x a ih => simp only [List.cons_append, cellsXM, ih]
theorem pcs_snoc (x : Xt) : ∀ (l : List Xt) (a : Int), pcsM a (l ++ [x]) = pcsM a l ++ [(lastOfM a (pcsM a l) + 1 + x.1 % 60, x.2.take 20)]
  | [], a => rfl
  | y :: l, a => by rw [List.cons_append, pcsM, pcs_snoc x l, pcsM, lastOfM]; rfl
theorem last_snoc (x : Xt) : ∀ (l : List Xt) (a : Int), lastOfM a (l ++ [x]) = x.1
  | [], a => rfl
  | y :: l, a => by rw [List.cons_append, lastOfM, last_snoc x l]
theorem pcs_take {ps : List Xt} {j : Nat} (hj : j < ps.length) : pcsM 0 (ps.take (j + 1)) = pcsM 0 (ps.take j) ++ [(pcIdM ps j + 1 + ps[j].1 % 60, ps[j].2.take 20)] := by
  rw [List.take_add_one, List.getElem?_eq_getElem hj, Option.toList_some, pcs_snoc]
  rfl
theorem pcId_succ {ps : List Xt} {j : Nat} (hj : j < ps.length) : pcIdM ps (j + 1) = pcIdM ps j + 1 + ps[j].1 % 60 := by
  rw [pcIdM, pcs_take hj, last_snoc]
theorem pcId_le (ps : List Xt) : ∀ j, j ≤ ps.length → 0 ≤ pcIdM ps j ∧ pcIdM ps j ≤ 60 * j
  | 0, _ => ⟨by show (0 : Int) ≤ 0; omega, by show (0 : Int) ≤ 60 * ((0 : Nat) : Int); omega⟩
  | j + 1, h => by
    have ih := pcId_le ps j (by omega)
    rw [pcId_succ (by omega)]
    have h1 := Int.emod_nonneg ps[j].1 (b := 60) (by decide)
    have h2 := Int.emod_lt_of_pos ps[j].1 (b := 60) (by decide)
    omega
theorem pcs_len : ∀ (l : List Xt) (a : Int), (pcsM a l).length = l.length
  | [], _ => rfl
  | x :: l, a => by rw [pcsM, List.length_cons, pcs_len l, List.length_cons]
theorem cellsI_take {l : List Int} {i : Nat} (hi : i < l.length) : cellsI (l.take i) ++ [AV.int .i64 l[i]] = cellsI (l.take (i + 1)) := by
  rw [List.take_add_one, List.getElem?_eq_getElem hi, Option.toList_some]
  simp only [cellsI, List.map_append, List.map_cons, List.map_nil]
/-! ## what is handed out -/
def plainB : AV → Bool
  | .int _ _ => true | .bool _ => true | .str _ => true | .nils => true | .nilp => true | _ => false
theorem map_plain (τ : Nat) (H : List Blk) (d : Nat) : ∀ l : List AV, (∀ x ∈ l, plainB x = true) → l.map (fun x => frzV τ H (d + 1) x) = l
  | [], _ => rfl
  | x :: l, h => by
    have hx : frzV τ H (d + 1) x = x := by
      have := h x (by simp)
      cases x <;> first | rfl | simp [plainB] at this
    rw [List.map_cons, map_plain τ H d l fun y hy => h y (by simp [hy]), hx]
theorem frz_sl {τ : Nat} {H : List Blk} {d id tot len sz : Nat} {k : BK} {lf : Bool} {cs : List AV} (hb : H[id]? = some ⟨k, lf, cs⟩) (h1 : cs.length = tot) (h2 : len * sz = tot) (hk : k ≠ .ro) (hp : ∀ x ∈ cs, plainB x = true) :
    frzV τ H (d + 2) (.sl id tot 0 len sz) = .lst τ cs len sz := by
  have c1 : cs.length.beq tot = true := beq_t h1
  have c2 : (0 + len * sz).ble tot = true := ble_t (by omega)
  have c3 : (k != .ro) = true := by simpa using hk
  rw [frzV]
  simp only [hb, c1, c2, c3, Bool.and_true, cond_true, List.drop_zero]
  rw [List.take_of_length_le (by omega), map_plain τ H d cs hp]
theorem plain_cI (l : List Int) : ∀ x ∈ cellsI l, plainB x = true := by
  intro x hx
  simp only [cellsI, List.mem_map] at hx
  obtain ⟨n, _, rfl⟩ := hx
  rfl
theorem plain_cX : ∀ (l : List Xt), ∀ x ∈ cellsXM l, plainB x = true
  | [], x, h => by simp [cellsXM] at h
  | y :: l, x, h => by
    rw [cellsXM] at h
    rcases List.mem_cons.1 h with rfl | h
    · rfl
    rcases List.mem_cons.1 h with rfl | h
    · rfl
    · exact plain_cX l x h
def end10 (mk : Bool) (ty seq ti ss : Int) (ks : List Int) (ps : List Xt) (pad : Int) (pl : List UInt8) (Q : Out → List Blk → Gh → Prop) : Prop :=
  ∀ (a b : AV) (H : List Blk), nlV 1 (frzV 0 H 8 a) = .lst 0 (cellsI (ks.take 3)) (ks.take 3).length 1 → nlV 2 (frzV 0 H 8 b) = .lst 0 (cellsXM (pcsM 0 (ps.take 4))) (pcsM 0 (ps.take 4)).length 2 → Q (.ret (.agg (resM mk ty seq ti ss a b pad pl))) H {}
theorem e_nil1 {ks : List Int} (h : ks.length = 0) {H : List Blk} : nlV 1 (frzV 0 H 8 .nils) = .lst 0 (cellsI (ks.take 3)) (ks.take 3).length 1 := by
  rw [List.length_eq_zero_iff.1 h]; rfl
theorem e_nil2 {ps : List Xt} (h : ps.length = 0) {H : List Blk} : nlV 2 (frzV 0 H 8 .nils) = .lst 0 (cellsXM (pcsM 0 (ps.take 4))) (pcsM 0 (ps.take 4)).length 2 := by
  rw [List.length_eq_zero_iff.1 h]; rfl
theorem e_own1 {ks : List Int} {m id : Nat} {lf : Bool} {H : List Blk} (h : m ≤ ks.length) (h3 : m = 3 ∨ m = ks.length) (hm3 : m ≤ 3) (hb : H[id]? = some ⟨.grow, lf, cellsI (ks.take m)⟩) : nlV 1 (frzV 0 H 8 (.sl id m 0 m 1)) = .lst 0 (cellsI (ks.take 3)) (ks.take 3).length 1 := by
  have e : ks.take m = ks.take 3 := by
    rcases h3 with rfl | rfl
    · rfl
    · rw [List.take_of_length_le (Nat.le_refl _), List.take_of_length_le hm3]
  have hl : (ks.take m).length = m := by rw [List.length_take]; omega
  rw [frz_sl hb (by rw [cellsI_length, hl]) (by omega) (by simp) (plain_cI _), ← e, hl]
  rfl
theorem e_own2 {ps : List Xt} {m id : Nat} {lf : Bool} {H : List Blk} (h : m ≤ ps.length) (h3 : m = 4 ∨ m = ps.length) (hm3 : m ≤ 4) (hb : H[id]? = some ⟨.grow, lf, cellsXM (pcsM 0 (ps.take m))⟩) : nlV 2 (frzV 0 H 8 (.sl id (2 * m) 0 m 2)) = .lst 0 (cellsXM (pcsM 0 (ps.take 4))) (pcsM 0 (ps.take 4)).length 2 := by
  have e : ps.take m = ps.take 4 := by
    rcases h3 with rfl | rfl
    · rfl
    · rw [List.take_of_length_le (Nat.le_refl _), List.take_of_length_le hm3]
  have hl : (pcsM 0 (ps.take m)).length = m := by rw [pcs_len, List.length_take]; omega
  rw [frz_sl hb (by rw [cellsX_len, hl]) (by omega) (by simp) (plain_cX _), ← e, hl]
  rfl
section
variable {mk : Bool} {ty seq ti ss : Int} {tc : Nat} {ks : List Int} {tx : Nat} {ps : List Xt} {pad : Int} {pl : List UInt8} {Q : Out → List Blk → Gh → Prop} (hks : ks.length ≤ 9223372036854775807) (hps : ps.length ≤ 9223372036854775807) (hp : ∀ x ∈ ps, 0 ≤ x.1 ∧ x.1 ≤ 255) (hpd : ∀ x ∈ ps, x.2.length ≤ 9223372036854775807) (hk32 : ∀ x ∈ ks, 0 ≤ x ∧ x ≤ 4294967295) (hq : end10 mk ty seq ti ss ks ps pad pl Q)
include hks hps hp hpd hq
theorem l3_10 (hk0 : ks.length = 0) : vc_10_3 mk ty seq ti ss tc ks tx ps pad pl Q := by
  refine ⟨.inl ⟨0, ⟨rfl⟩, rfl, rfl, rfl, rfl, rfl, rfl, rfl, rfl, trivial⟩, ?_, ?_⟩
  · rintro _ ⟨rfl⟩
    refine ⟨_, rfl, _, rfl, splitD (fun hlt => ⟨_, rfl, splitD (fun _ => ?_) (fun h => by exfalso; omega)⟩) (fun h => hq .nils .nils [] (e_nil1 hk0) (e_nil2 (by omega)))⟩
    have h0 : 0 < ps.length := by omega
    have hm := hp _ (List.getElem_mem h0)
    have hm60 : Int.tmod ps[0].1 60 = ps[0].1 % 60 := Int.tmod_eq_emod_of_nonneg hm.1
    have ht := pcs_take h0
    have hs := pcId_succ h0
    have hz : pcIdM ps 0 = 0 := rfl
    refine ⟨_, rfl, wrapI (by omega) (by omega) ⟨_, rfl, ckI (by simp; omega) (ckI (by rw [cellsPc_len]; simp; omega) (getPn (i := 0) h0 (by simp) ⟨Int.tmod ps[0].1 60, rfl, wrapI (by rw [hm60]; omega) (by rw [hm60]; omega) (wrapI (by rw [hm60]; omega) (by rw [hm60]; omega) ⟨_, rfl, ckI (by simp; omega) (ckI (by rw [cellsPc_len]; simp; omega) (getPs (i := 0) h0 (by simp) ⟨_, rfl, ckI (by simp; omega) (ckI (by rw [cellsPc_len]; simp; omega) (getPs (i := 0) h0 (by simp) ⟨_, rfl, iminI (b := 20) rfl (ckI (by simp; omega) ⟨ps[0].2.take 20, by rw [take_imin], ⟨_, rfl, wrapI (by omega) (by omega) ⟨⟨trivial, rfl⟩, .inr ⟨1, ⟨by omega, by omega, by omega⟩, by omega, rfl, rfl, rfl, ?_, ?_, rfl, rfl, ?_, rfl, rfl, trivial⟩⟩⟩⟩)⟩))⟩))⟩)⟩))⟩⟩
    · rw [ht, hz, hm60]; rfl
    · rw [ht, hz, hm60]; rfl
    · rw [hs, hz, hm60]
  · rintro j ⟨h1, h4, hj⟩
    have hb := pcId_le ps j hj
    refine ⟨_, rfl, _, rfl, splitD (fun hlt => ⟨_, rfl, splitD (fun hj4 => ?_) (fun h => ?_)⟩) (fun h => ?_)⟩
    · have hlt' : j < ps.length := by omega
      have hm := hp _ (List.getElem_mem hlt')
      have hm60 : Int.tmod ps[j].1 60 = ps[j].1 % 60 := Int.tmod_eq_emod_of_nonneg hm.1
      have ht := pcs_take hlt'
      have hs := pcId_succ hlt'
      have hl : (pcsM 0 (ps.take j)).length = j := by rw [pcs_len, List.length_take]; omega
      refine ⟨_, rfl, wrapI (by omega) (by omega) ⟨_, rfl, ckI (by simp; omega) (ckI (by rw [cellsPc_len]; simp; omega) (getPn (i := j) hlt' (by simp) ⟨Int.tmod ps[j].1 60, rfl, wrapI (by rw [hm60]; omega) (by rw [hm60]; omega) (wrapI (by rw [hm60]; omega) (by rw [hm60]; omega) ⟨_, rfl, ckI (by simp; omega) (ckI (by rw [cellsPc_len]; simp; omega) (getPs (i := j) hlt' (by simp) ⟨_, rfl, ckI (by simp; omega) (ckI (by rw [cellsPc_len]; simp; omega) (getPs (i := j) hlt' (by simp) ⟨_, rfl, iminI (b := 20) rfl (ckI (by simp; omega) ⟨ps[j].2.take 20, by rw [take_imin], ckI (by rw [cellsX_len, hl]; simp; omega) ⟨_, rfl, wrapI (by omega) (by omega) ⟨⟨trivial, rfl⟩, .inr ⟨j + 1, ⟨by omega, by omega, by omega⟩, by omega, rfl, rfl, ?_, rfl, ?_, rfl, rfl, ?_, rfl, rfl, trivial⟩⟩⟩⟩)⟩))⟩))⟩)⟩))⟩⟩
      · rw [show 2 * j + 2 = 2 * (j + 1) by omega]
      · rw [ht, cellsX_app, hm60]; rfl
      · rw [hs, hm60]
    · exact hq .nils (.sl 4 (2 * j) 0 j 2) _ (e_nil1 hk0) (e_own2 hj (by omega) h4 rfl)
    · exact hq .nils (.sl 4 (2 * j) 0 j 2) _ (e_nil1 hk0) (e_own2 hj (by omega) h4 rfl)
end
section
variable {mk : Bool} {ty seq ti ss : Int} {tc : Nat} {ks : List Int} {tx : Nat} {ps : List Xt} {pad : Int} {pl : List UInt8} {Q : Out → List Blk → Gh → Prop} (hks : ks.length ≤ 9223372036854775807) (hps : ps.length ≤ 9223372036854775807) (hp : ∀ x ∈ ps, 0 ≤ x.1 ∧ x.1 ≤ 255) (hpd : ∀ x ∈ ps, x.2.length ≤ 9223372036854775807) (hk32 : ∀ x ∈ ks, 0 ≤ x ∧ x ≤ 4294967295) (hq : end10 mk ty seq ti ss ks ps pad pl Q)
include hks hps hp hpd hq
theorem l4_10 : vc_10_4 mk ty seq ti ss tc ks tx ps pad pl Q := by
  refine ⟨?_, ?_⟩
  · rintro ⟨_, m⟩ ⟨e0, g1, g3, gm, gor⟩
    dsimp only at e0 g1 g3 gm gor ⊢
    subst e0
    refine ⟨_, rfl, _, rfl, splitD (fun hlt => ⟨_, rfl, splitD (fun _ => ?_) (fun h => by exfalso; omega)⟩) (fun h => hq (.sl 4 m 0 m 1) .nils _ (e_own1 gm gor g3 rfl) (e_nil2 (by omega)))⟩
    have h0 : 0 < ps.length := by omega
    have hm := hp _ (List.getElem_mem h0)
    have hm60 : Int.tmod ps[0].1 60 = ps[0].1 % 60 := Int.tmod_eq_emod_of_nonneg hm.1
    have ht := pcs_take h0
    have hs := pcId_succ h0
    have hz : pcIdM ps 0 = 0 := rfl
    refine ⟨_, rfl, wrapI (by omega) (by omega) ⟨_, rfl, ckI (by simp; omega) (ckI (by rw [cellsPc_len]; simp; omega) (getPn (i := 0) h0 (by simp) ⟨Int.tmod ps[0].1 60, rfl, wrapI (by rw [hm60]; omega) (by rw [hm60]; omega) (wrapI (by rw [hm60]; omega) (by rw [hm60]; omega) ⟨_, rfl, ckI (by simp; omega) (ckI (by rw [cellsPc_len]; simp; omega) (getPs (i := 0) h0 (by simp) ⟨_, rfl, ckI (by simp; omega) (ckI (by rw [cellsPc_len]; simp; omega) (getPs (i := 0) h0 (by simp) ⟨_, rfl, iminI (b := 20) rfl (ckI (by simp; omega) ⟨ps[0].2.take 20, by rw [take_imin], ⟨_, rfl, wrapI (by omega) (by omega) ⟨⟨trivial, rfl⟩, .inr ⟨(1, m), ⟨by omega, by omega, by omega, g1, g3, gm, gor⟩, by (try dsimp only); omega, rfl, rfl, rfl, rfl, rfl, ?_, ?_, rfl, rfl, ?_, rfl, rfl, trivial⟩⟩⟩⟩)⟩))⟩))⟩)⟩))⟩⟩
    · rw [ht, hz, hm60]; rfl
    · (try dsimp only); rw [ht, hz, hm60]; rfl
    · (try dsimp only); rw [hs, hz, hm60]
  · rintro ⟨j, m⟩ ⟨h1, h4, hj, g1, g3, gm, gor⟩
    dsimp only at h1 h4 hj g1 g3 gm gor ⊢
    have hb := pcId_le ps j hj
    refine ⟨_, rfl, _, rfl, splitD (fun hlt => ⟨_, rfl, splitD (fun hj4 => ?_) (fun h => ?_)⟩) (fun h => ?_)⟩
    · have hlt' : j < ps.length := by omega
      have hm := hp _ (List.getElem_mem hlt')
      have hm60 : Int.tmod ps[j].1 60 = ps[j].1 % 60 := Int.tmod_eq_emod_of_nonneg hm.1
      have ht := pcs_take hlt'
      have hs := pcId_succ hlt'
      have hl : (pcsM 0 (ps.take j)).length = j := by rw [pcs_len, List.length_take]; omega
      refine ⟨_, rfl, wrapI (by omega) (by omega) ⟨_, rfl, ckI (by simp; omega) (ckI (by rw [cellsPc_len]; simp; omega) (getPn (i := j) hlt' (by simp) ⟨Int.tmod ps[j].1 60, rfl, wrapI (by rw [hm60]; omega) (by rw [hm60]; omega) (wrapI (by rw [hm60]; omega) (by rw [hm60]; omega) ⟨_, rfl, ckI (by simp; omega) (ckI (by rw [cellsPc_len]; simp; omega) (getPs (i := j) hlt' (by simp) ⟨_, rfl, ckI (by simp; omega) (ckI (by rw [cellsPc_len]; simp; omega) (getPs (i := j) hlt' (by simp) ⟨_, rfl, iminI (b := 20) rfl (ckI (by simp; omega) ⟨ps[j].2.take 20, by rw [take_imin], ckI (by (try dsimp only); rw [cellsX_len, hl]; simp; omega) ⟨_, rfl, wrapI (by omega) (by omega) ⟨⟨trivial, rfl⟩, .inr ⟨(j + 1, m), ⟨by (try dsimp only); omega, by (try dsimp only); omega, by (try dsimp only); omega, g1, g3, gm, gor⟩, by (try dsimp only); omega, rfl, rfl, ?_, rfl, rfl, rfl, ?_, rfl, rfl, ?_, rfl, rfl, trivial⟩⟩⟩⟩)⟩))⟩))⟩)⟩))⟩⟩
      · (try dsimp only); rw [show 2 * j + 2 = 2 * (j + 1) by omega]
      · (try dsimp only); rw [ht, cellsX_app, hm60]; rfl
      · (try dsimp only); rw [hs, hm60]
    · exact hq (.sl 4 m 0 m 1) (.sl 6 (2 * j) 0 j 2) _ (e_own1 gm gor g3 rfl) (e_own2 hj (by omega) h4 rfl)
    · exact hq (.sl 4 m 0 m 1) (.sl 6 (2 * j) 0 j 2) _ (e_own1 gm gor g3 rfl) (e_own2 hj (by omega) h4 rfl)
include hk32
theorem l5_10 : vc_10_5 mk ty seq ti ss tc ks tx ps pad pl Q := by
  refine ⟨?_, ?_⟩
  · rintro _ ⟨rfl⟩
    refine ⟨_, rfl, _, rfl, splitD (fun hlt => ⟨_, rfl, splitD (fun _ => ?_) (fun h => by exfalso; omega)⟩) (fun h => l3_10 hks hps hp hpd hq (by omega))⟩
    have h0 : 0 < ks.length := by omega
    have hm := hk32 _ (List.getElem_mem h0)
    have e1 : ks.getD 0 0 = ks[0] := by rw [List.getD_eq_getElem?_getD, List.getElem?_eq_getElem h0]; rfl
    refine ⟨_, rfl, ckI (by simp; omega) (ckI (by rw [cells32_len]; simp; omega) (get32 (i := 0) h0 (by simp) (wrapI (by omega) (by omega) ⟨_, rfl, wrapI (by omega) (by omega) ⟨⟨trivial, rfl⟩, .inr ⟨1, ⟨by omega, by omega, by omega⟩, by omega, rfl, rfl, rfl, by rw [e1], ?_, rfl, rfl, rfl, rfl, trivial⟩⟩⟩)))⟩
    rw [← cellsI_take h0]
    rfl
  · rintro i ⟨h1, h3, hi⟩
    have ex : ∀ (h : i = 3 ∨ i = ks.length), _ := fun h => l4_10 (tc := tc) (tx := tx) hks hps hp hpd hq
    refine ⟨_, rfl, _, rfl, splitD (fun hlt => ⟨_, rfl, splitD (fun hj4 => ?_) (fun h => ?_)⟩) (fun h => ?_)⟩
    · have hlt' : i < ks.length := by omega
      have hm := hk32 _ (List.getElem_mem hlt')
      have hl : (ks.take i).length = i := by rw [List.length_take]; omega
      refine ⟨_, rfl, ckI (by simp; omega) (ckI (by rw [cells32_len]; simp; omega) (get32 (i := i) hlt' (by simp) (wrapI (by omega) (by omega) (ckI (by rw [cellsI_length, hl]; simp; omega) ⟨_, rfl, wrapI (by omega) (by omega) ⟨⟨trivial, rfl⟩, .inr ⟨i + 1, ⟨by omega, by omega, by omega⟩, by omega, rfl, rfl, rfl, rfl, cellsI_take hlt', rfl, rfl, rfl, rfl, trivial⟩⟩⟩))))⟩
    · exact ⟨.inl ⟨(0, i), ⟨rfl, h1, h3, hi, by (try dsimp only); omega⟩, rfl, rfl, rfl, rfl, rfl, rfl, rfl, rfl, rfl, rfl, trivial⟩, l4_10 hks hps hp hpd hq⟩
    · exact ⟨.inl ⟨(0, i), ⟨rfl, h1, h3, hi, by (try dsimp only); omega⟩, rfl, rfl, rfl, rfl, rfl, rfl, rfl, rfl, rfl, rfl, trivial⟩, l4_10 hks hps hp hpd hq⟩
end
theorem draft_run (mk : Bool) (ty seq ti ss : Int) (tc : Nat) (ks : List Int) (tx : Nat) (ps : List Xt) (pad : Int) (pl : List UInt8) (hks : ks.length ≤ 9223372036854775807) (hps : ps.length ≤ 9223372036854775807) (hp : ∀ x ∈ ps, 0 ≤ x.1 ∧ x.1 ≤ 255) (hpd : ∀ x ∈ ps, x.2.length ≤ 9223372036854775807) (hk32 : ∀ x ∈ ks, 0 ≤ x ∧ x ≤ 4294967295)
    (hty : 0 ≤ ty ∧ ty ≤ 255) (hseq : 0 ≤ seq ∧ seq ≤ 65535) (hti : 0 ≤ ti ∧ ti ≤ 4294967295) (hss : 0 ≤ ss ∧ ss ≤ 4294967295) (hpad : 0 ≤ pad ∧ pad ≤ 255) (Q : Out → List Blk → Gh → Prop) (hq : end10 mk ty seq ti ss ks ps pad pl Q) : ∃ hv hb, goal_10 hv hb mk ty seq ti ss tc ks tx ps pad pl Q := by
  obtain ⟨hv, hb', e⟩ : ∃ hv hb, goal_10 hv hb mk ty seq ti ss tc ks tx ps pad pl Q = _ := ⟨_, _, vc_10 mk ty seq ti ss tc ks tx ps pad pl Q⟩
  refine ⟨hv, hb', e.mpr ?_⟩
  clear e
  have ht : Int.tmod ty 128 = ty % 128 := Int.tmod_eq_emod_of_nonneg hty.1
  refine splitI (fun hm => ?_) (fun hm => ?_) <;> subst hm
  all_goals
    refine ⟨Int.tmod ty 128, rfl, wrapI (by rw [ht]; omega) (by rw [ht]; omega) (wrapI (by omega) (by omega) (wrapI (by omega) (by omega) (wrapI (by omega) (by omega) (wrapI (by omega) (by omega) ⟨_, rfl, iminI (b := 60) rfl (ckI (by simp; omega) ⟨pl.take 60, by rw [take_imin], .inl ⟨0, ⟨rfl⟩, rfl, rfl, by rw [ht], rfl, rfl, rfl, rfl, trivial⟩, l5_10 hks hps hp hpd hk32 hq⟩)⟩))))⟩
def aggK : AV → AV
  | .agg l => .agg (nlL [0, 0, 0, 0, 0, 1, 2] l)
  | v => v
theorem wk_aggK (v : AV) : wk v (aggK v) := by
  cases v with
  | agg l => exact wk_agg (wk_nlL _ l)
  | _ => exact wk_refl _
def draftK (c5 : List AV) (n5 : Nat) (c6 : List AV) (n6 : Nat) (ks : List Int) (ps : List Xt) : Prop := c5 = cells32M ks ∧ n5 = ks.length ∧ c6 = cellsPcM ps ∧ n6 = ps.length ∧ ks.length ≤ 9223372036854775807 ∧ ps.length ≤ 9223372036854775807 ∧ (∀ x ∈ ks, 0 ≤ x ∧ x ≤ 4294967295) ∧ (∀ x ∈ ps, 0 ≤ x.1 ∧ x.1 ≤ 255) ∧ (∀ x ∈ ps, x.2.length ≤ 9223372036854775807)
def cDraft : Con
  | [.agg [.bool mk, .int .u8 ty, .int .u16 seq, .int .u32 ti, .int .u32 ss, .lst _ c5 n5 1, .lst _ c6 n6 2, .int .u8 pad, .str pl]], H, K => ∃ (ks : List Int) (ps : List Xt), Lf (draftK c5 n5 c6 n6 ks ps ∧ (0 ≤ ty ∧ ty ≤ 255) ∧ (0 ≤ seq ∧ seq ≤ 65535) ∧ (0 ≤ ti ∧ ti ≤ 4294967295) ∧ (0 ≤ ss ∧ ss ≤ 4294967295) ∧ (0 ≤ pad ∧ pad ≤ 255)) ∧
      ∀ (ty' : Int) (cs : List Int) (ex : List Xt) (p' : List UInt8), Lf (ty' = ty % 128 ∧ cs = ks.take 3 ∧ ex = pcsM 0 (ps.take 4) ∧ p' = pl.take 60) → K (.ret (.agg [.bool mk, .int .i64 ty', .int .i64 seq, .int .i64 ti, .int .i64 ss, .lst 0 (cellsI cs) cs.length 1, .lst 0 (cellsXM ex) ex.length 2, .int .i64 pad, .str p'])) H
  | _, _, _ => False
theorem draft_ok : ValidF Tryd.prog gl0 10 cDraft := by
  refine valid_frz (enters_of (by kernel_rfl)) gl0_noY 9 aggK wk_aggK fun args H Q hc => ?_
  unfold cDraft at hc
  split at hc
  · rename_i mk ty seq ti ss tc c5 n5 tx c6 n6 pad pl
    obtain ⟨ks, ps, ⟨⟨rfl, rfl, rfl, rfl, k1, k2, k3, k4, k5⟩, a1, a2, a3, a4, a5⟩, hq⟩ := hc
    obtain ⟨hv, hb', h⟩ := draft_run mk ty seq ti ss tc ks tx ps pad pl k1 k2 k4 k5 k3 a1 a2 a3 a4 a5 (fun o H' _ => ∃ v, o = .ret v ∧ Q (.ret (aggK (frzV 0 H' 9 v))) H) (fun a b H' e1 e2 => ⟨_, rfl, by
      have := hq _ _ _ _ ⟨rfl, rfl, rfl, rfl⟩
      rw [← e1, ← e2] at this
      exact this⟩)
    refine ⟨rfl, rfl, _, 1000, ?_, rfl, h⟩
    exact ⟨mixed23, names23, tabA_ok, sm0_ok⟩
  · exact hc.elim
end Go.Proofs.YtbchmkhliehbfaaDoor

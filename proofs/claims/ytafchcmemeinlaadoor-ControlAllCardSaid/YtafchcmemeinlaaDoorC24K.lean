/-
  Chapter 24: ControlAll's run.
-/
import Derived.Test.YtafchcmemeinlaaDoorC24J
set_option linter.unusedSimpArgs false
set_option linter.unusedVariables false
namespace Go.Proofs.YtafchcmemeinlaaDoor
open Go.RowKit
set_option maxRecDepth 1000000

def smK : SM := lookS [(17, cTrue), (18, cPairsEV), (26, cEqualIV)]
theorem smK_ok : ∀ f g, smK f = some g → ValidF Tryd.prog glC f g := lookS_ok _ (by simp only [List.mem_cons, List.not_mem_nil, or_false, forall_eq_or_imp, forall_eq]; exact ⟨works_ok, pairsE_ok, equalI_ok⟩)

def fstM (ps : List (Int × Int)) (i : Nat) : Int := (ps.getD i (0, 0)).1
def sndM (ps : List (Int × Int)) (i : Nat) : Int := (ps.getD i (0, 0)).2
/-- the loop that makes the numbers: nothing is appended yet; something is -/
def invA_60 (f : Int) (ks : List Int) : LInv where
  α := Nat
  pre _ := Lf True
  st _ := ⟨mkT [(5, .int .i64 f), (6, .sl 0 1 0 1 1), (25, .lst 0 (cells8M ks) ks.length 1), (26, .int .i64 ks.length), (27, .int .i64 0)], [⟨.exact, true, [.int .i64 f]⟩]⟩
  mu _ := ks.length + 1
def invB_60 (f : Int) (ks : List Int) : LInv where
  α := Nat
  pre i := Lf (1 ≤ i ∧ i ≤ ks.length)
  st i := ⟨mkT [(5, .int .i64 (atM f (ks.take i))), (6, .sl 1 (i + 1) 0 (i + 1) 1), (25, .lst 0 (cells8M ks) ks.length 1), (26, .int .i64 ks.length), (27, .int .i64 i)], [⟨.exact, true, [.int .i64 f]⟩, ⟨.grow, true, cellsI (lM f (ks.take i))⟩]⟩
  mu i := ks.length - i
/-- the loop over the pairs -/
def invA_62 (pre : List Blk) (v : AV) (ps : List (Int × Int)) : LInv where
  α := Nat
  pre _ := Lf True
  st _ := ⟨mkT [(6, v), (9, .lst 0 (cellsPM ps) ps.length 2), (11, .nils), (62, .lst 0 (cellsPM ps) ps.length 2), (63, .int .i64 ps.length), (64, .int .i64 0)], pre⟩
  mu _ := ps.length + 1
def invB_62 (pre : List Blk) (q : Nat) (v : AV) (ps : List (Int × Int)) : LInv where
  α := Nat
  pre i := Lf (1 ≤ i ∧ i ≤ ps.length)
  st i := ⟨mkT [(6, v), (9, .lst 0 (cellsPM ps) ps.length 2), (11, .sl (q + 1) (allM (ps.take i)).length 0 (allM (ps.take i)).length 1), (62, .lst 0 (cellsPM ps) ps.length 2), (63, .int .i64 ps.length), (64, .int .i64 i)],
    pre ++ [⟨.exact, true, [.int .i64 (fstM ps 0), .int .i64 (sndM ps 0)]⟩, ⟨.grow, true, cellsI (allM (ps.take i))⟩]⟩
  mu i := ps.length - i
/-- the loop over a mask -/
def invA_64 (pre : List Blk) (q : Nat) (v : AV) (ps : List (Int × Int)) : LInv where
  α := Nat
  pre k := Lf (k ≤ 16)
  st k := ⟨mkT [(6, v), (9, .lst 0 (cellsPM ps) ps.length 2), (11, .sl (q + 1) (decM (fstM ps 0) (sndM ps 0) k).length 0 (decM (fstM ps 0) (sndM ps 0) k).length 1), (13, .ptr q 2 0), (62, .lst 0 (cellsPM ps) ps.length 2), (63, .int .i64 ps.length), (64, .int .i64 0), (100, .int .i64 k)],
    pre ++ [⟨.exact, true, [.int .i64 (fstM ps 0), .int .i64 (sndM ps 0)]⟩, ⟨.grow, true, cellsI (decM (fstM ps 0) (sndM ps 0) k)⟩]⟩
  mu k := 16 - k
def invB_64 (pre : List Blk) (q : Nat) (v : AV) (ps : List (Int × Int)) (i : Nat) : LInv where
  α := Nat
  pre k := Lf (k ≤ 16)
  st k := ⟨mkT [(6, v), (9, .lst 0 (cellsPM ps) ps.length 2), (11, .sl (q + 1) (allM (ps.take i) ++ decM (fstM ps i) (sndM ps i) k).length 0 (allM (ps.take i) ++ decM (fstM ps i) (sndM ps i) k).length 1), (13, .ptr (q + 2) 2 0), (62, .lst 0 (cellsPM ps) ps.length 2), (63, .int .i64 ps.length), (64, .int .i64 i), (100, .int .i64 k)],
    pre ++ [⟨.exact, true, [.int .i64 (fstM ps 0), .int .i64 (sndM ps 0)]⟩, ⟨.grow, true, cellsI (allM (ps.take i) ++ decM (fstM ps i) (sndM ps i) k)⟩, ⟨.exact, true, [.int .i64 (fstM ps i), .int .i64 (sndM ps i)]⟩]⟩
  mu k := 16 - k
/-- the first pair's box is the first block, another one's the third -/
def inv_64 (pre : List Blk) (q : Nat) (v : AV) (ps : List (Int × Int)) (s : S) : List (List LInv) := match s.tm.get 13, s.tm.get 64 with
  | .ptr id _ _, .int _ n => bif Nat.beq id q then [[invA_64 pre q v ps]] else [[invB_64 pre q v ps n.toNat]]
  | _, _ => []

/-- no steps -/
def preA (f : Int) : List Blk := [⟨.exact, true, [.int .i64 f]⟩]
noncomputable def env_6a (hv : Nat → Option Pa) (hb : Nat → Option Bool) (f : Int) (ps : List (Int × Int)) : Env := e24 smK (fun i => bif Nat.beq i 6002 then some (fun _ => [[invA_62 (preA f) (.sl 0 1 0 1 1) ps, invB_62 (preA f) 1 (.sl 0 1 0 1 1) ps]]) else bif Nat.beq i 6004 then some (inv_64 (preA f) 1 (.sl 0 1 0 1 1) ps) else none) hv hb
noncomputable def goal_6a (hv : Nat → Option Pa) (hb : Nat → Option Bool) (f : Int) (ps : List (Int × Int)) : Prop :=
  callx (env_6a hv hb f ps) (wpx (env_6a hv hb f ps) 1000) 6 [.int .u16 f, .lst 0 [] 0 1] [] {} isT
theorem vc_6a (f : Int) (ps : List (Int × Int)) : goal_6a (lookV [(24594, .int .i64), (24623, .int .i64), (24628, .int .i64), (24633, .int .i64), (24639, .int .i64), (24644, .agg [.int .i64, .int .i64]), (24678, .int .i64), (24680, .int .i64), (24682, .int .i64), (24683, .int .i64), (24687, .int .i64), (24688, .int .i64), (24690, .int .i64), (24691, .int .i64), (24694, .int .i64), (24642, .int .i64), (24652, .int .i64), (24655, .int .i64), (24656, .int .i64), (24657, .int .i64), (24658, .int .i64), (24695, .int .i64)]) (lookB []) f ps = (
(∃ n_0 : Int, (((AV.int IntKind.i64 (IntKind.wrap IntKind.i64 f)) = (AV.int IntKind.i64 n_0)) ∧
 (∃ xs_1 : (List Int), ((Lf ((((AV.int IntKind.i64 n_0) :: []) = (cellsI xs_1)) ∧
 (((1 : Nat) = (List.length xs_1)) ∧
 ((List.length xs_1) ≤ (4611686018427387904 : Nat))))) ∧
 (∃ n_2 : Int, (((AV.int IntKind.i64 (pairsNM xs_1)) = (AV.int IntKind.i64 n_2)) ∧
 (bif (n_2 != (0 : Int)) then False
else (∃ n_3 : Int, (((AV.int IntKind.i64 (Nat.cast (List.length (pairsEM xs_1)) : Int)) = (AV.int IntKind.i64 n_3)) ∧
 (bif (decide (n_3 < (1 : Int))) then False
else (∃ n_4 : Int, (((AV.int IntKind.i64 (Nat.cast (List.length (pairsEM xs_1)) : Int)) = (AV.int IntKind.i64 n_4)) ∧
 (bif (decide (n_4 > (1 : Int))) then False
else (∃ n_5 : Int, (((AV.int IntKind.i64 (Nat.cast (List.length (pairsEM xs_1)) : Int)) = (AV.int IntKind.i64 n_5)) ∧
 (((∃ x_6 : Nat, ((Lf True) ∧
 ((((AV.int IntKind.i64 n_0) :: []) = ((AV.int IntKind.i64 f) :: [])) ∧
 (((AV.int IntKind.i64 n_5) = (AV.int IntKind.i64 (Nat.cast (List.length ps) : Int))) ∧
 ((AV.nils = AV.nils) ∧
 (((AV.lst (0 : Nat) (cellsPM (pairsEM xs_1)) (List.length (pairsEM xs_1)) (2 : Nat)) = (AV.lst (0 : Nat) (cellsPM ps) (List.length ps) (2 : Nat))) ∧
 (((AV.int IntKind.i64 (0 : Int)) = (AV.int IntKind.i64 (0 : Int))) ∧
 (((AV.sl (0 : Nat) (1 : Nat) (0 : Nat) (1 : Nat) (1 : Nat)) = (AV.sl (0 : Nat) (1 : Nat) (0 : Nat) (1 : Nat) (1 : Nat))) ∧
 (((AV.lst (0 : Nat) (cellsPM (pairsEM xs_1)) (List.length (pairsEM xs_1)) (2 : Nat)) = (AV.lst (0 : Nat) (cellsPM ps) (List.length ps) (2 : Nat))) ∧
 True))))))))) ∨
 (∃ x_6 : Nat, ((Lf (((1 : Nat) ≤ x_6) ∧
 (x_6 ≤ (List.length ps)))) ∧
 ((((AV.int IntKind.i64 n_0) :: []) = ((AV.int IntKind.i64 f) :: [])) ∧
 False)))) ∧
 ((Nat →
((Lf True) →
(bif (decide ((0 : Int) < (Nat.cast (List.length ps) : Int))) then (∃ n_6 : Int, (((AV.int IntKind.i64 (0 : Int)) = (AV.int IntKind.i64 n_6)) ∧
 (bif ((Nat.blt (0 : Nat) (List.length ps)) && Bool.true) then (bif (Nat.ble (2 : Nat) (List.length (cellsPM ps))) then (∃ n_7 : Int, (∃ n_8 : Int, (((AV.agg (List.take (2 : Nat) (List.drop (0 : Nat) (cellsPM ps)))) = (AV.agg ((AV.int IntKind.i64 n_7) :: ((AV.int IntKind.i64 n_8) :: [])))) ∧
 (bif (decide (n_6 > (0 : Int))) then (∃ n_9 : Int, (((AV.int IntKind.i64 (IntKind.wrap IntKind.i64 (n_6 - (1 : Int)))) = (AV.int IntKind.i64 n_9)) ∧
 (bif (((decide ((0 : Int) ≤ n_9)) && (Nat.blt (Int.toNat n_9) (List.length ps))) && Bool.true) then (bif (Nat.blt (((Int.toNat n_9) * (2 : Nat)) + (0 : Nat)) (List.length (cellsPM ps))) then (∃ n_10 : Int, (((List.getD (cellsPM ps) (((Int.toNat n_9) * (2 : Nat)) + (0 : Nat)) AV.undef) = (AV.int IntKind.i64 n_10)) ∧
 (∃ n_11 : Int, (((AV.int IntKind.i64 (IntKind.wrap IntKind.i64 (n_7 - n_10))) = (AV.int IntKind.i64 n_11)) ∧
 (∃ n_12 : Int, (((AV.int IntKind.i64 (IntKind.wrap IntKind.i64 (n_11 + (65536 : Int)))) = (AV.int IntKind.i64 n_12)) ∧
 (∃ n_13 : Int, (((AV.int IntKind.i64 (Int.tmod n_12 (65536 : Int))) = (AV.int IntKind.i64 n_13)) ∧
 (bif (decide (n_13 ≤ (16 : Int))) then False
else (bif (decide (n_8 < (0 : Int))) then False
else (bif (decide (n_8 > (65535 : Int))) then False
else ((∃ x_14 : Nat, ((Lf (x_14 ≤ (16 : Nat))) ∧
 ((((AV.int IntKind.i64 f) :: []) = ((AV.int IntKind.i64 f) :: [])) ∧
 ((((AV.int IntKind.i64 n_7) :: ((AV.int IntKind.i64 n_8) :: [])) = ((AV.int IntKind.i64 (fstM ps (0 : Nat))) :: ((AV.int IntKind.i64 (sndM ps (0 : Nat))) :: []))) ∧
 ((((AV.int IntKind.i64 n_7) :: []) = (cellsI (decM (fstM ps (0 : Nat)) (sndM ps (0 : Nat)) x_14))) ∧
 (((AV.int IntKind.i64 (Nat.cast (List.length ps) : Int)) = (AV.int IntKind.i64 (Nat.cast (List.length ps) : Int))) ∧
 (((AV.sl (2 : Nat) (1 : Nat) (0 : Nat) (1 : Nat) (1 : Nat)) = (AV.sl (2 : Nat) (List.length (decM (fstM ps (0 : Nat)) (sndM ps (0 : Nat)) x_14)) (0 : Nat) (List.length (decM (fstM ps (0 : Nat)) (sndM ps (0 : Nat)) x_14)) (1 : Nat))) ∧
 (((AV.lst (0 : Nat) (cellsPM ps) (List.length ps) (2 : Nat)) = (AV.lst (0 : Nat) (cellsPM ps) (List.length ps) (2 : Nat))) ∧
 (((AV.ptr (1 : Nat) (2 : Nat) (0 : Nat)) = (AV.ptr (1 : Nat) (2 : Nat) (0 : Nat))) ∧
 (((AV.int IntKind.i64 (0 : Int)) = (AV.int IntKind.i64 (0 : Int))) ∧
 (((AV.int IntKind.i64 (0 : Int)) = (AV.int IntKind.i64 (Nat.cast x_14 : Int))) ∧
 (((AV.sl (0 : Nat) (1 : Nat) (0 : Nat) (1 : Nat) (1 : Nat)) = (AV.sl (0 : Nat) (1 : Nat) (0 : Nat) (1 : Nat) (1 : Nat))) ∧
 (((AV.lst (0 : Nat) (cellsPM ps) (List.length ps) (2 : Nat)) = (AV.lst (0 : Nat) (cellsPM ps) (List.length ps) (2 : Nat))) ∧
 True))))))))))))) ∧
 (∀ x_14 : Nat, ((Lf (x_14 ≤ (16 : Nat))) →
(bif (decide ((Nat.cast x_14 : Int) < (16 : Int))) then (∃ n_15 : Int, (((AV.int IntKind.i64 (Nat.cast x_14 : Int)) = (AV.int IntKind.i64 n_15)) ∧
 (∃ n_16 : Int, (((AV.int IntKind.i64 (sndM ps (0 : Nat))) = (AV.int IntKind.i64 n_16)) ∧
 (bif ((decide ((0 : Int) ≤ n_15)) && Bool.true) then (∃ n_17 : Int, (((AV.int IntKind.i64 (Int.fdiv n_16 ((2 : Int) ^ (Min.min (Int.toNat n_15) (64 : Nat))))) = (AV.int IntKind.i64 n_17)) ∧
 (∃ n_18 : Int, (((AV.int IntKind.i64 (IntKind.wrap IntKind.i64 (Nat.cast ((Int.toNat (n_17 % (18446744073709551616 : Int))) &&& (1 : Nat)) : Int))) = (AV.int IntKind.i64 n_18)) ∧
 (bif (n_18 == (1 : Int)) then (∃ n_19 : Int, (((AV.int IntKind.i64 (fstM ps (0 : Nat))) = (AV.int IntKind.i64 n_19)) ∧
 (∃ n_20 : Int, (((AV.int IntKind.i64 (IntKind.wrap IntKind.i64 (n_19 + (1 : Int)))) = (AV.int IntKind.i64 n_20)) ∧
 (∃ n_21 : Int, (((AV.int IntKind.i64 (IntKind.wrap IntKind.i64 (n_20 + n_15))) = (AV.int IntKind.i64 n_21)) ∧
 (∃ n_22 : Int, (((AV.int IntKind.i64 (Int.tmod n_21 (65536 : Int))) = (AV.int IntKind.i64 n_22)) ∧
 (bif (((((Nat.beq (List.length (cellsI (decM (fstM ps (0 : Nat)) (sndM ps (0 : Nat)) x_14))) (List.length (decM (fstM ps (0 : Nat)) (sndM ps (0 : Nat)) x_14))) && Bool.true) && (Nat.beq ((0 : Nat) + ((List.length (decM (fstM ps (0 : Nat)) (sndM ps (0 : Nat)) x_14)) * (1 : Nat))) (List.length (decM (fstM ps (0 : Nat)) (sndM ps (0 : Nat)) x_14)))) && (Nat.ble ((List.length (decM (fstM ps (0 : Nat)) (sndM ps (0 : Nat)) x_14)) + (1 : Nat)) (1099511627776 : Nat))) && (Nat.ble (((List.length (decM (fstM ps (0 : Nat)) (sndM ps (0 : Nat)) x_14)) + (1 : Nat)) * (8 : Nat)) (1099511627776 : Nat))) then (∃ n_23 : Int, (((AV.int IntKind.i64 (IntKind.wrap IntKind.i64 ((Nat.cast x_14 : Int) + (1 : Int)))) = (AV.int IntKind.i64 n_23)) ∧
 ((True ∧
 ((0 : Nat) = (0 : Nat))) ∧
 (∃ y_24 : Nat, ((Lf (y_24 ≤ (16 : Nat))) ∧
 ((((16 : Nat) - y_24) < ((16 : Nat) - x_14)) ∧
 ((((AV.int IntKind.i64 f) :: []) = ((AV.int IntKind.i64 f) :: [])) ∧
 ((((AV.int IntKind.i64 (fstM ps (0 : Nat))) :: ((AV.int IntKind.i64 (sndM ps (0 : Nat))) :: [])) = ((AV.int IntKind.i64 (fstM ps (0 : Nat))) :: ((AV.int IntKind.i64 (sndM ps (0 : Nat))) :: []))) ∧
 ((((cellsI (decM (fstM ps (0 : Nat)) (sndM ps (0 : Nat)) x_14)) ++ ((AV.int IntKind.i64 n_22) :: [])) = (cellsI (decM (fstM ps (0 : Nat)) (sndM ps (0 : Nat)) y_24))) ∧
 (((AV.int IntKind.i64 (Nat.cast (List.length ps) : Int)) = (AV.int IntKind.i64 (Nat.cast (List.length ps) : Int))) ∧
 (((AV.sl (2 : Nat) ((List.length (decM (fstM ps (0 : Nat)) (sndM ps (0 : Nat)) x_14)) + (1 : Nat)) (0 : Nat) ((List.length (decM (fstM ps (0 : Nat)) (sndM ps (0 : Nat)) x_14)) + (1 : Nat)) (1 : Nat)) = (AV.sl (2 : Nat) (List.length (decM (fstM ps (0 : Nat)) (sndM ps (0 : Nat)) y_24)) (0 : Nat) (List.length (decM (fstM ps (0 : Nat)) (sndM ps (0 : Nat)) y_24)) (1 : Nat))) ∧
 (((AV.lst (0 : Nat) (cellsPM ps) (List.length ps) (2 : Nat)) = (AV.lst (0 : Nat) (cellsPM ps) (List.length ps) (2 : Nat))) ∧
 (((AV.ptr (1 : Nat) (2 : Nat) (0 : Nat)) = (AV.ptr (1 : Nat) (2 : Nat) (0 : Nat))) ∧
 (((AV.int IntKind.i64 (0 : Int)) = (AV.int IntKind.i64 (0 : Int))) ∧
 (((AV.int IntKind.i64 n_23) = (AV.int IntKind.i64 (Nat.cast y_24 : Int))) ∧
 (((AV.sl (0 : Nat) (1 : Nat) (0 : Nat) (1 : Nat) (1 : Nat)) = (AV.sl (0 : Nat) (1 : Nat) (0 : Nat) (1 : Nat) (1 : Nat))) ∧
 (((AV.lst (0 : Nat) (cellsPM ps) (List.length ps) (2 : Nat)) = (AV.lst (0 : Nat) (cellsPM ps) (List.length ps) (2 : Nat))) ∧
 True)))))))))))))))))
else False)))))))))
else (∃ n_19 : Int, (((AV.int IntKind.i64 (IntKind.wrap IntKind.i64 ((Nat.cast x_14 : Int) + (1 : Int)))) = (AV.int IntKind.i64 n_19)) ∧
 ((True ∧
 ((0 : Nat) = (0 : Nat))) ∧
 (∃ y_20 : Nat, ((Lf (y_20 ≤ (16 : Nat))) ∧
 ((((16 : Nat) - y_20) < ((16 : Nat) - x_14)) ∧
 ((((AV.int IntKind.i64 f) :: []) = ((AV.int IntKind.i64 f) :: [])) ∧
 ((((AV.int IntKind.i64 (fstM ps (0 : Nat))) :: ((AV.int IntKind.i64 (sndM ps (0 : Nat))) :: [])) = ((AV.int IntKind.i64 (fstM ps (0 : Nat))) :: ((AV.int IntKind.i64 (sndM ps (0 : Nat))) :: []))) ∧
 (((cellsI (decM (fstM ps (0 : Nat)) (sndM ps (0 : Nat)) x_14)) = (cellsI (decM (fstM ps (0 : Nat)) (sndM ps (0 : Nat)) y_20))) ∧
 (((AV.int IntKind.i64 (Nat.cast (List.length ps) : Int)) = (AV.int IntKind.i64 (Nat.cast (List.length ps) : Int))) ∧
 (((AV.sl (2 : Nat) (List.length (decM (fstM ps (0 : Nat)) (sndM ps (0 : Nat)) x_14)) (0 : Nat) (List.length (decM (fstM ps (0 : Nat)) (sndM ps (0 : Nat)) x_14)) (1 : Nat)) = (AV.sl (2 : Nat) (List.length (decM (fstM ps (0 : Nat)) (sndM ps (0 : Nat)) y_20)) (0 : Nat) (List.length (decM (fstM ps (0 : Nat)) (sndM ps (0 : Nat)) y_20)) (1 : Nat))) ∧
 (((AV.lst (0 : Nat) (cellsPM ps) (List.length ps) (2 : Nat)) = (AV.lst (0 : Nat) (cellsPM ps) (List.length ps) (2 : Nat))) ∧
 (((AV.ptr (1 : Nat) (2 : Nat) (0 : Nat)) = (AV.ptr (1 : Nat) (2 : Nat) (0 : Nat))) ∧
 (((AV.int IntKind.i64 (0 : Int)) = (AV.int IntKind.i64 (0 : Int))) ∧
 (((AV.int IntKind.i64 n_19) = (AV.int IntKind.i64 (Nat.cast y_20 : Int))) ∧
 (((AV.sl (0 : Nat) (1 : Nat) (0 : Nat) (1 : Nat) (1 : Nat)) = (AV.sl (0 : Nat) (1 : Nat) (0 : Nat) (1 : Nat) (1 : Nat))) ∧
 (((AV.lst (0 : Nat) (cellsPM ps) (List.length ps) (2 : Nat)) = (AV.lst (0 : Nat) (cellsPM ps) (List.length ps) (2 : Nat))) ∧
 True))))))))))))))))))))))
else False)))))
else (∃ n_15 : Int, (((AV.int IntKind.i64 (1 : Int)) = (AV.int IntKind.i64 n_15)) ∧
 ((True ∧
 ((0 : Nat) = (0 : Nat))) ∧
 ((∃ y_16 : Nat, ((Lf True) ∧
 ((((List.length ps) + (1 : Nat)) < ((List.length ps) + (1 : Nat))) ∧
 ((((AV.int IntKind.i64 f) :: []) = ((AV.int IntKind.i64 f) :: [])) ∧
 False)))) ∨
 (∃ y_16 : Nat, ((Lf (((1 : Nat) ≤ y_16) ∧
 (y_16 ≤ (List.length ps)))) ∧
 ((((List.length ps) - y_16) < ((List.length ps) + (1 : Nat))) ∧
 ((((AV.int IntKind.i64 f) :: []) = ((AV.int IntKind.i64 f) :: [])) ∧
 ((((AV.int IntKind.i64 (fstM ps (0 : Nat))) :: ((AV.int IntKind.i64 (sndM ps (0 : Nat))) :: [])) = ((AV.int IntKind.i64 (fstM ps (0 : Nat))) :: ((AV.int IntKind.i64 (sndM ps (0 : Nat))) :: []))) ∧
 (((cellsI (decM (fstM ps (0 : Nat)) (sndM ps (0 : Nat)) x_14)) = (cellsI (allM (List.take y_16 ps)))) ∧
 (((AV.int IntKind.i64 (Nat.cast (List.length ps) : Int)) = (AV.int IntKind.i64 (Nat.cast (List.length ps) : Int))) ∧
 (((AV.sl (2 : Nat) (List.length (decM (fstM ps (0 : Nat)) (sndM ps (0 : Nat)) x_14)) (0 : Nat) (List.length (decM (fstM ps (0 : Nat)) (sndM ps (0 : Nat)) x_14)) (1 : Nat)) = (AV.sl (2 : Nat) (List.length (allM (List.take y_16 ps))) (0 : Nat) (List.length (allM (List.take y_16 ps))) (1 : Nat))) ∧
 (((AV.lst (0 : Nat) (cellsPM ps) (List.length ps) (2 : Nat)) = (AV.lst (0 : Nat) (cellsPM ps) (List.length ps) (2 : Nat))) ∧
 (((AV.int IntKind.i64 n_15) = (AV.int IntKind.i64 (Nat.cast y_16 : Int))) ∧
 (((AV.sl (0 : Nat) (1 : Nat) (0 : Nat) (1 : Nat) (1 : Nat)) = (AV.sl (0 : Nat) (1 : Nat) (0 : Nat) (1 : Nat) (1 : Nat))) ∧
 (((AV.lst (0 : Nat) (cellsPM ps) (List.length ps) (2 : Nat)) = (AV.lst (0 : Nat) (cellsPM ps) (List.length ps) (2 : Nat))) ∧
 True)))))))))))))))))))))))))))))))
else False)
else False)))
else (bif (decide (n_8 < (0 : Int))) then False
else (bif (decide (n_8 > (65535 : Int))) then False
else ((∃ x_9 : Nat, ((Lf (x_9 ≤ (16 : Nat))) ∧
 ((((AV.int IntKind.i64 f) :: []) = ((AV.int IntKind.i64 f) :: [])) ∧
 ((((AV.int IntKind.i64 n_7) :: ((AV.int IntKind.i64 n_8) :: [])) = ((AV.int IntKind.i64 (fstM ps (0 : Nat))) :: ((AV.int IntKind.i64 (sndM ps (0 : Nat))) :: []))) ∧
 ((((AV.int IntKind.i64 n_7) :: []) = (cellsI (decM (fstM ps (0 : Nat)) (sndM ps (0 : Nat)) x_9))) ∧
 (((AV.int IntKind.i64 (Nat.cast (List.length ps) : Int)) = (AV.int IntKind.i64 (Nat.cast (List.length ps) : Int))) ∧
 (((AV.sl (2 : Nat) (1 : Nat) (0 : Nat) (1 : Nat) (1 : Nat)) = (AV.sl (2 : Nat) (List.length (decM (fstM ps (0 : Nat)) (sndM ps (0 : Nat)) x_9)) (0 : Nat) (List.length (decM (fstM ps (0 : Nat)) (sndM ps (0 : Nat)) x_9)) (1 : Nat))) ∧
 (((AV.lst (0 : Nat) (cellsPM ps) (List.length ps) (2 : Nat)) = (AV.lst (0 : Nat) (cellsPM ps) (List.length ps) (2 : Nat))) ∧
 (((AV.ptr (1 : Nat) (2 : Nat) (0 : Nat)) = (AV.ptr (1 : Nat) (2 : Nat) (0 : Nat))) ∧
 (((AV.int IntKind.i64 (0 : Int)) = (AV.int IntKind.i64 (0 : Int))) ∧
 (((AV.int IntKind.i64 (0 : Int)) = (AV.int IntKind.i64 (Nat.cast x_9 : Int))) ∧
 (((AV.sl (0 : Nat) (1 : Nat) (0 : Nat) (1 : Nat) (1 : Nat)) = (AV.sl (0 : Nat) (1 : Nat) (0 : Nat) (1 : Nat) (1 : Nat))) ∧
 (((AV.lst (0 : Nat) (cellsPM ps) (List.length ps) (2 : Nat)) = (AV.lst (0 : Nat) (cellsPM ps) (List.length ps) (2 : Nat))) ∧
 True))))))))))))) ∧
 (∀ x_9 : Nat, ((Lf (x_9 ≤ (16 : Nat))) →
(bif (decide ((Nat.cast x_9 : Int) < (16 : Int))) then (∃ n_10 : Int, (((AV.int IntKind.i64 (Nat.cast x_9 : Int)) = (AV.int IntKind.i64 n_10)) ∧
 (∃ n_11 : Int, (((AV.int IntKind.i64 (sndM ps (0 : Nat))) = (AV.int IntKind.i64 n_11)) ∧
 (bif ((decide ((0 : Int) ≤ n_10)) && Bool.true) then (∃ n_12 : Int, (((AV.int IntKind.i64 (Int.fdiv n_11 ((2 : Int) ^ (Min.min (Int.toNat n_10) (64 : Nat))))) = (AV.int IntKind.i64 n_12)) ∧
 (∃ n_13 : Int, (((AV.int IntKind.i64 (IntKind.wrap IntKind.i64 (Nat.cast ((Int.toNat (n_12 % (18446744073709551616 : Int))) &&& (1 : Nat)) : Int))) = (AV.int IntKind.i64 n_13)) ∧
 (bif (n_13 == (1 : Int)) then (∃ n_14 : Int, (((AV.int IntKind.i64 (fstM ps (0 : Nat))) = (AV.int IntKind.i64 n_14)) ∧
 (∃ n_15 : Int, (((AV.int IntKind.i64 (IntKind.wrap IntKind.i64 (n_14 + (1 : Int)))) = (AV.int IntKind.i64 n_15)) ∧
 (∃ n_16 : Int, (((AV.int IntKind.i64 (IntKind.wrap IntKind.i64 (n_15 + n_10))) = (AV.int IntKind.i64 n_16)) ∧
 (∃ n_17 : Int, (((AV.int IntKind.i64 (Int.tmod n_16 (65536 : Int))) = (AV.int IntKind.i64 n_17)) ∧
 (bif (((((Nat.beq (List.length (cellsI (decM (fstM ps (0 : Nat)) (sndM ps (0 : Nat)) x_9))) (List.length (decM (fstM ps (0 : Nat)) (sndM ps (0 : Nat)) x_9))) && Bool.true) && (Nat.beq ((0 : Nat) + ((List.length (decM (fstM ps (0 : Nat)) (sndM ps (0 : Nat)) x_9)) * (1 : Nat))) (List.length (decM (fstM ps (0 : Nat)) (sndM ps (0 : Nat)) x_9)))) && (Nat.ble ((List.length (decM (fstM ps (0 : Nat)) (sndM ps (0 : Nat)) x_9)) + (1 : Nat)) (1099511627776 : Nat))) && (Nat.ble (((List.length (decM (fstM ps (0 : Nat)) (sndM ps (0 : Nat)) x_9)) + (1 : Nat)) * (8 : Nat)) (1099511627776 : Nat))) then (∃ n_18 : Int, (((AV.int IntKind.i64 (IntKind.wrap IntKind.i64 ((Nat.cast x_9 : Int) + (1 : Int)))) = (AV.int IntKind.i64 n_18)) ∧
 ((True ∧
 ((0 : Nat) = (0 : Nat))) ∧
 (∃ y_19 : Nat, ((Lf (y_19 ≤ (16 : Nat))) ∧
 ((((16 : Nat) - y_19) < ((16 : Nat) - x_9)) ∧
 ((((AV.int IntKind.i64 f) :: []) = ((AV.int IntKind.i64 f) :: [])) ∧
 ((((AV.int IntKind.i64 (fstM ps (0 : Nat))) :: ((AV.int IntKind.i64 (sndM ps (0 : Nat))) :: [])) = ((AV.int IntKind.i64 (fstM ps (0 : Nat))) :: ((AV.int IntKind.i64 (sndM ps (0 : Nat))) :: []))) ∧
 ((((cellsI (decM (fstM ps (0 : Nat)) (sndM ps (0 : Nat)) x_9)) ++ ((AV.int IntKind.i64 n_17) :: [])) = (cellsI (decM (fstM ps (0 : Nat)) (sndM ps (0 : Nat)) y_19))) ∧
 (((AV.int IntKind.i64 (Nat.cast (List.length ps) : Int)) = (AV.int IntKind.i64 (Nat.cast (List.length ps) : Int))) ∧
 (((AV.sl (2 : Nat) ((List.length (decM (fstM ps (0 : Nat)) (sndM ps (0 : Nat)) x_9)) + (1 : Nat)) (0 : Nat) ((List.length (decM (fstM ps (0 : Nat)) (sndM ps (0 : Nat)) x_9)) + (1 : Nat)) (1 : Nat)) = (AV.sl (2 : Nat) (List.length (decM (fstM ps (0 : Nat)) (sndM ps (0 : Nat)) y_19)) (0 : Nat) (List.length (decM (fstM ps (0 : Nat)) (sndM ps (0 : Nat)) y_19)) (1 : Nat))) ∧
 (((AV.lst (0 : Nat) (cellsPM ps) (List.length ps) (2 : Nat)) = (AV.lst (0 : Nat) (cellsPM ps) (List.length ps) (2 : Nat))) ∧
 (((AV.ptr (1 : Nat) (2 : Nat) (0 : Nat)) = (AV.ptr (1 : Nat) (2 : Nat) (0 : Nat))) ∧
 (((AV.int IntKind.i64 (0 : Int)) = (AV.int IntKind.i64 (0 : Int))) ∧
 (((AV.int IntKind.i64 n_18) = (AV.int IntKind.i64 (Nat.cast y_19 : Int))) ∧
 (((AV.sl (0 : Nat) (1 : Nat) (0 : Nat) (1 : Nat) (1 : Nat)) = (AV.sl (0 : Nat) (1 : Nat) (0 : Nat) (1 : Nat) (1 : Nat))) ∧
 (((AV.lst (0 : Nat) (cellsPM ps) (List.length ps) (2 : Nat)) = (AV.lst (0 : Nat) (cellsPM ps) (List.length ps) (2 : Nat))) ∧
 True)))))))))))))))))
else False)))))))))
else (∃ n_14 : Int, (((AV.int IntKind.i64 (IntKind.wrap IntKind.i64 ((Nat.cast x_9 : Int) + (1 : Int)))) = (AV.int IntKind.i64 n_14)) ∧
 ((True ∧
 ((0 : Nat) = (0 : Nat))) ∧
 (∃ y_15 : Nat, ((Lf (y_15 ≤ (16 : Nat))) ∧
 ((((16 : Nat) - y_15) < ((16 : Nat) - x_9)) ∧
 ((((AV.int IntKind.i64 f) :: []) = ((AV.int IntKind.i64 f) :: [])) ∧
 ((((AV.int IntKind.i64 (fstM ps (0 : Nat))) :: ((AV.int IntKind.i64 (sndM ps (0 : Nat))) :: [])) = ((AV.int IntKind.i64 (fstM ps (0 : Nat))) :: ((AV.int IntKind.i64 (sndM ps (0 : Nat))) :: []))) ∧
 (((cellsI (decM (fstM ps (0 : Nat)) (sndM ps (0 : Nat)) x_9)) = (cellsI (decM (fstM ps (0 : Nat)) (sndM ps (0 : Nat)) y_15))) ∧
 (((AV.int IntKind.i64 (Nat.cast (List.length ps) : Int)) = (AV.int IntKind.i64 (Nat.cast (List.length ps) : Int))) ∧
 (((AV.sl (2 : Nat) (List.length (decM (fstM ps (0 : Nat)) (sndM ps (0 : Nat)) x_9)) (0 : Nat) (List.length (decM (fstM ps (0 : Nat)) (sndM ps (0 : Nat)) x_9)) (1 : Nat)) = (AV.sl (2 : Nat) (List.length (decM (fstM ps (0 : Nat)) (sndM ps (0 : Nat)) y_15)) (0 : Nat) (List.length (decM (fstM ps (0 : Nat)) (sndM ps (0 : Nat)) y_15)) (1 : Nat))) ∧
 (((AV.lst (0 : Nat) (cellsPM ps) (List.length ps) (2 : Nat)) = (AV.lst (0 : Nat) (cellsPM ps) (List.length ps) (2 : Nat))) ∧
 (((AV.ptr (1 : Nat) (2 : Nat) (0 : Nat)) = (AV.ptr (1 : Nat) (2 : Nat) (0 : Nat))) ∧
 (((AV.int IntKind.i64 (0 : Int)) = (AV.int IntKind.i64 (0 : Int))) ∧
 (((AV.int IntKind.i64 n_14) = (AV.int IntKind.i64 (Nat.cast y_15 : Int))) ∧
 (((AV.sl (0 : Nat) (1 : Nat) (0 : Nat) (1 : Nat) (1 : Nat)) = (AV.sl (0 : Nat) (1 : Nat) (0 : Nat) (1 : Nat) (1 : Nat))) ∧
 (((AV.lst (0 : Nat) (cellsPM ps) (List.length ps) (2 : Nat)) = (AV.lst (0 : Nat) (cellsPM ps) (List.length ps) (2 : Nat))) ∧
 True))))))))))))))))))))))
else False)))))
else (∃ n_10 : Int, (((AV.int IntKind.i64 (1 : Int)) = (AV.int IntKind.i64 n_10)) ∧
 ((True ∧
 ((0 : Nat) = (0 : Nat))) ∧
 ((∃ y_11 : Nat, ((Lf True) ∧
 ((((List.length ps) + (1 : Nat)) < ((List.length ps) + (1 : Nat))) ∧
 ((((AV.int IntKind.i64 f) :: []) = ((AV.int IntKind.i64 f) :: [])) ∧
 False)))) ∨
 (∃ y_11 : Nat, ((Lf (((1 : Nat) ≤ y_11) ∧
 (y_11 ≤ (List.length ps)))) ∧
 ((((List.length ps) - y_11) < ((List.length ps) + (1 : Nat))) ∧
 ((((AV.int IntKind.i64 f) :: []) = ((AV.int IntKind.i64 f) :: [])) ∧
 ((((AV.int IntKind.i64 (fstM ps (0 : Nat))) :: ((AV.int IntKind.i64 (sndM ps (0 : Nat))) :: [])) = ((AV.int IntKind.i64 (fstM ps (0 : Nat))) :: ((AV.int IntKind.i64 (sndM ps (0 : Nat))) :: []))) ∧
 (((cellsI (decM (fstM ps (0 : Nat)) (sndM ps (0 : Nat)) x_9)) = (cellsI (allM (List.take y_11 ps)))) ∧
 (((AV.int IntKind.i64 (Nat.cast (List.length ps) : Int)) = (AV.int IntKind.i64 (Nat.cast (List.length ps) : Int))) ∧
 (((AV.sl (2 : Nat) (List.length (decM (fstM ps (0 : Nat)) (sndM ps (0 : Nat)) x_9)) (0 : Nat) (List.length (decM (fstM ps (0 : Nat)) (sndM ps (0 : Nat)) x_9)) (1 : Nat)) = (AV.sl (2 : Nat) (List.length (allM (List.take y_11 ps))) (0 : Nat) (List.length (allM (List.take y_11 ps))) (1 : Nat))) ∧
 (((AV.lst (0 : Nat) (cellsPM ps) (List.length ps) (2 : Nat)) = (AV.lst (0 : Nat) (cellsPM ps) (List.length ps) (2 : Nat))) ∧
 (((AV.int IntKind.i64 n_10) = (AV.int IntKind.i64 (Nat.cast y_11 : Int))) ∧
 (((AV.sl (0 : Nat) (1 : Nat) (0 : Nat) (1 : Nat) (1 : Nat)) = (AV.sl (0 : Nat) (1 : Nat) (0 : Nat) (1 : Nat) (1 : Nat))) ∧
 (((AV.lst (0 : Nat) (cellsPM ps) (List.length ps) (2 : Nat)) = (AV.lst (0 : Nat) (cellsPM ps) (List.length ps) (2 : Nat))) ∧
 True))))))))))))))))))))))))))
else False)
else False)))
else (∃ xs_6 : (List Int), (∃ ys_7 : (List Int), ((Lf (([] = (cellsI xs_6)) ∧
 (((0 : Nat) = (List.length xs_6)) ∧
 (((List.length xs_6) ≤ (4611686018427387904 : Nat)) ∧
 ((((AV.int IntKind.i64 f) :: []) = (cellsI ys_7)) ∧
 (((1 : Nat) = (List.length ys_7)) ∧
 ((List.length ys_7) ≤ (4611686018427387904 : Nat)))))))) ∧
 (bif (decide (xs_6 = ys_7)) then True
else False))))))) ∧
 (∀ x_6 : Nat, ((Lf (((1 : Nat) ≤ x_6) ∧
 (x_6 ≤ (List.length ps)))) →
(bif (decide ((Nat.cast x_6 : Int) < (Nat.cast (List.length ps) : Int))) then (∃ n_7 : Int, (((AV.int IntKind.i64 (Nat.cast x_6 : Int)) = (AV.int IntKind.i64 n_7)) ∧
 (bif ((Nat.blt (Int.toNat (Nat.cast x_6 : Int)) (List.length ps)) && Bool.true) then (bif (Nat.ble (((Int.toNat (Nat.cast x_6 : Int)) * (2 : Nat)) + (2 : Nat)) (List.length (cellsPM ps))) then (∃ n_8 : Int, (∃ n_9 : Int, (((AV.agg (List.take (2 : Nat) (List.drop ((Int.toNat (Nat.cast x_6 : Int)) * (2 : Nat)) (cellsPM ps)))) = (AV.agg ((AV.int IntKind.i64 n_8) :: ((AV.int IntKind.i64 n_9) :: [])))) ∧
 (bif (decide (n_7 > (0 : Int))) then (∃ n_10 : Int, (((AV.int IntKind.i64 (IntKind.wrap IntKind.i64 (n_7 - (1 : Int)))) = (AV.int IntKind.i64 n_10)) ∧
 (bif (((decide ((0 : Int) ≤ n_10)) && (Nat.blt (Int.toNat n_10) (List.length ps))) && Bool.true) then (bif (Nat.blt (((Int.toNat n_10) * (2 : Nat)) + (0 : Nat)) (List.length (cellsPM ps))) then (∃ n_11 : Int, (((List.getD (cellsPM ps) (((Int.toNat n_10) * (2 : Nat)) + (0 : Nat)) AV.undef) = (AV.int IntKind.i64 n_11)) ∧
 (∃ n_12 : Int, (((AV.int IntKind.i64 (IntKind.wrap IntKind.i64 (n_8 - n_11))) = (AV.int IntKind.i64 n_12)) ∧
 (∃ n_13 : Int, (((AV.int IntKind.i64 (IntKind.wrap IntKind.i64 (n_12 + (65536 : Int)))) = (AV.int IntKind.i64 n_13)) ∧
 (∃ n_14 : Int, (((AV.int IntKind.i64 (Int.tmod n_13 (65536 : Int))) = (AV.int IntKind.i64 n_14)) ∧
 (bif (decide (n_14 ≤ (16 : Int))) then False
else (bif (decide (n_9 < (0 : Int))) then False
else (bif (decide (n_9 > (65535 : Int))) then False
else (bif (((((Nat.beq (List.length (cellsI (allM (List.take x_6 ps)))) (List.length (allM (List.take x_6 ps)))) && Bool.true) && (Nat.beq ((0 : Nat) + ((List.length (allM (List.take x_6 ps))) * (1 : Nat))) (List.length (allM (List.take x_6 ps))))) && (Nat.ble ((List.length (allM (List.take x_6 ps))) + (1 : Nat)) (1099511627776 : Nat))) && (Nat.ble (((List.length (allM (List.take x_6 ps))) + (1 : Nat)) * (8 : Nat)) (1099511627776 : Nat))) then ((∃ x_15 : Nat, ((Lf (x_15 ≤ (16 : Nat))) ∧
 ((((AV.int IntKind.i64 f) :: []) = ((AV.int IntKind.i64 f) :: [])) ∧
 ((((AV.int IntKind.i64 (fstM ps (0 : Nat))) :: ((AV.int IntKind.i64 (sndM ps (0 : Nat))) :: [])) = ((AV.int IntKind.i64 (fstM ps (0 : Nat))) :: ((AV.int IntKind.i64 (sndM ps (0 : Nat))) :: []))) ∧
 ((((cellsI (allM (List.take x_6 ps))) ++ ((AV.int IntKind.i64 n_8) :: [])) = (cellsI ((allM (List.take (Int.toNat (Nat.cast x_6 : Int)) ps)) ++ (decM (fstM ps (Int.toNat (Nat.cast x_6 : Int))) (sndM ps (Int.toNat (Nat.cast x_6 : Int))) x_15)))) ∧
 ((((AV.int IntKind.i64 n_8) :: ((AV.int IntKind.i64 n_9) :: [])) = ((AV.int IntKind.i64 (fstM ps (Int.toNat (Nat.cast x_6 : Int)))) :: ((AV.int IntKind.i64 (sndM ps (Int.toNat (Nat.cast x_6 : Int)))) :: []))) ∧
 (((AV.int IntKind.i64 (Nat.cast (List.length ps) : Int)) = (AV.int IntKind.i64 (Nat.cast (List.length ps) : Int))) ∧
 (((AV.sl (2 : Nat) ((List.length (allM (List.take x_6 ps))) + (1 : Nat)) (0 : Nat) ((List.length (allM (List.take x_6 ps))) + (1 : Nat)) (1 : Nat)) = (AV.sl (2 : Nat) (List.length ((allM (List.take (Int.toNat (Nat.cast x_6 : Int)) ps)) ++ (decM (fstM ps (Int.toNat (Nat.cast x_6 : Int))) (sndM ps (Int.toNat (Nat.cast x_6 : Int))) x_15))) (0 : Nat) (List.length ((allM (List.take (Int.toNat (Nat.cast x_6 : Int)) ps)) ++ (decM (fstM ps (Int.toNat (Nat.cast x_6 : Int))) (sndM ps (Int.toNat (Nat.cast x_6 : Int))) x_15))) (1 : Nat))) ∧
 (((AV.lst (0 : Nat) (cellsPM ps) (List.length ps) (2 : Nat)) = (AV.lst (0 : Nat) (cellsPM ps) (List.length ps) (2 : Nat))) ∧
 (((AV.ptr (3 : Nat) (2 : Nat) (0 : Nat)) = (AV.ptr (3 : Nat) (2 : Nat) (0 : Nat))) ∧
 (((AV.int IntKind.i64 (Nat.cast x_6 : Int)) = (AV.int IntKind.i64 (Nat.cast (Int.toNat (Nat.cast x_6 : Int)) : Int))) ∧
 (((AV.int IntKind.i64 (0 : Int)) = (AV.int IntKind.i64 (Nat.cast x_15 : Int))) ∧
 (((AV.sl (0 : Nat) (1 : Nat) (0 : Nat) (1 : Nat) (1 : Nat)) = (AV.sl (0 : Nat) (1 : Nat) (0 : Nat) (1 : Nat) (1 : Nat))) ∧
 (((AV.lst (0 : Nat) (cellsPM ps) (List.length ps) (2 : Nat)) = (AV.lst (0 : Nat) (cellsPM ps) (List.length ps) (2 : Nat))) ∧
 True)))))))))))))) ∧
 (∀ x_15 : Nat, ((Lf (x_15 ≤ (16 : Nat))) →
(bif (decide ((Nat.cast x_15 : Int) < (16 : Int))) then (∃ n_16 : Int, (((AV.int IntKind.i64 (Nat.cast x_15 : Int)) = (AV.int IntKind.i64 n_16)) ∧
 (∃ n_17 : Int, (((AV.int IntKind.i64 (sndM ps (Int.toNat (Nat.cast x_6 : Int)))) = (AV.int IntKind.i64 n_17)) ∧
 (bif ((decide ((0 : Int) ≤ n_16)) && Bool.true) then (∃ n_18 : Int, (((AV.int IntKind.i64 (Int.fdiv n_17 ((2 : Int) ^ (Min.min (Int.toNat n_16) (64 : Nat))))) = (AV.int IntKind.i64 n_18)) ∧
 (∃ n_19 : Int, (((AV.int IntKind.i64 (IntKind.wrap IntKind.i64 (Nat.cast ((Int.toNat (n_18 % (18446744073709551616 : Int))) &&& (1 : Nat)) : Int))) = (AV.int IntKind.i64 n_19)) ∧
 (bif (n_19 == (1 : Int)) then (∃ n_20 : Int, (((AV.int IntKind.i64 (fstM ps (Int.toNat (Nat.cast x_6 : Int)))) = (AV.int IntKind.i64 n_20)) ∧
 (∃ n_21 : Int, (((AV.int IntKind.i64 (IntKind.wrap IntKind.i64 (n_20 + (1 : Int)))) = (AV.int IntKind.i64 n_21)) ∧
 (∃ n_22 : Int, (((AV.int IntKind.i64 (IntKind.wrap IntKind.i64 (n_21 + n_16))) = (AV.int IntKind.i64 n_22)) ∧
 (∃ n_23 : Int, (((AV.int IntKind.i64 (Int.tmod n_22 (65536 : Int))) = (AV.int IntKind.i64 n_23)) ∧
 (bif (((((Nat.beq (List.length (cellsI ((allM (List.take (Int.toNat (Nat.cast x_6 : Int)) ps)) ++ (decM (fstM ps (Int.toNat (Nat.cast x_6 : Int))) (sndM ps (Int.toNat (Nat.cast x_6 : Int))) x_15)))) (List.length ((allM (List.take (Int.toNat (Nat.cast x_6 : Int)) ps)) ++ (decM (fstM ps (Int.toNat (Nat.cast x_6 : Int))) (sndM ps (Int.toNat (Nat.cast x_6 : Int))) x_15)))) && Bool.true) && (Nat.beq ((0 : Nat) + ((List.length ((allM (List.take (Int.toNat (Nat.cast x_6 : Int)) ps)) ++ (decM (fstM ps (Int.toNat (Nat.cast x_6 : Int))) (sndM ps (Int.toNat (Nat.cast x_6 : Int))) x_15))) * (1 : Nat))) (List.length ((allM (List.take (Int.toNat (Nat.cast x_6 : Int)) ps)) ++ (decM (fstM ps (Int.toNat (Nat.cast x_6 : Int))) (sndM ps (Int.toNat (Nat.cast x_6 : Int))) x_15))))) && (Nat.ble ((List.length ((allM (List.take (Int.toNat (Nat.cast x_6 : Int)) ps)) ++ (decM (fstM ps (Int.toNat (Nat.cast x_6 : Int))) (sndM ps (Int.toNat (Nat.cast x_6 : Int))) x_15))) + (1 : Nat)) (1099511627776 : Nat))) && (Nat.ble (((List.length ((allM (List.take (Int.toNat (Nat.cast x_6 : Int)) ps)) ++ (decM (fstM ps (Int.toNat (Nat.cast x_6 : Int))) (sndM ps (Int.toNat (Nat.cast x_6 : Int))) x_15))) + (1 : Nat)) * (8 : Nat)) (1099511627776 : Nat))) then (∃ n_24 : Int, (((AV.int IntKind.i64 (IntKind.wrap IntKind.i64 ((Nat.cast x_15 : Int) + (1 : Int)))) = (AV.int IntKind.i64 n_24)) ∧
 ((True ∧
 ((0 : Nat) = (0 : Nat))) ∧
 (∃ y_25 : Nat, ((Lf (y_25 ≤ (16 : Nat))) ∧
 ((((16 : Nat) - y_25) < ((16 : Nat) - x_15)) ∧
 ((((AV.int IntKind.i64 f) :: []) = ((AV.int IntKind.i64 f) :: [])) ∧
 ((((AV.int IntKind.i64 (fstM ps (0 : Nat))) :: ((AV.int IntKind.i64 (sndM ps (0 : Nat))) :: [])) = ((AV.int IntKind.i64 (fstM ps (0 : Nat))) :: ((AV.int IntKind.i64 (sndM ps (0 : Nat))) :: []))) ∧
 ((((cellsI ((allM (List.take (Int.toNat (Nat.cast x_6 : Int)) ps)) ++ (decM (fstM ps (Int.toNat (Nat.cast x_6 : Int))) (sndM ps (Int.toNat (Nat.cast x_6 : Int))) x_15))) ++ ((AV.int IntKind.i64 n_23) :: [])) = (cellsI ((allM (List.take (Int.toNat (Nat.cast x_6 : Int)) ps)) ++ (decM (fstM ps (Int.toNat (Nat.cast x_6 : Int))) (sndM ps (Int.toNat (Nat.cast x_6 : Int))) y_25)))) ∧
 ((((AV.int IntKind.i64 (fstM ps (Int.toNat (Nat.cast x_6 : Int)))) :: ((AV.int IntKind.i64 (sndM ps (Int.toNat (Nat.cast x_6 : Int)))) :: [])) = ((AV.int IntKind.i64 (fstM ps (Int.toNat (Nat.cast x_6 : Int)))) :: ((AV.int IntKind.i64 (sndM ps (Int.toNat (Nat.cast x_6 : Int)))) :: []))) ∧
 (((AV.int IntKind.i64 (Nat.cast (List.length ps) : Int)) = (AV.int IntKind.i64 (Nat.cast (List.length ps) : Int))) ∧
 (((AV.sl (2 : Nat) ((List.length ((allM (List.take (Int.toNat (Nat.cast x_6 : Int)) ps)) ++ (decM (fstM ps (Int.toNat (Nat.cast x_6 : Int))) (sndM ps (Int.toNat (Nat.cast x_6 : Int))) x_15))) + (1 : Nat)) (0 : Nat) ((List.length ((allM (List.take (Int.toNat (Nat.cast x_6 : Int)) ps)) ++ (decM (fstM ps (Int.toNat (Nat.cast x_6 : Int))) (sndM ps (Int.toNat (Nat.cast x_6 : Int))) x_15))) + (1 : Nat)) (1 : Nat)) = (AV.sl (2 : Nat) (List.length ((allM (List.take (Int.toNat (Nat.cast x_6 : Int)) ps)) ++ (decM (fstM ps (Int.toNat (Nat.cast x_6 : Int))) (sndM ps (Int.toNat (Nat.cast x_6 : Int))) y_25))) (0 : Nat) (List.length ((allM (List.take (Int.toNat (Nat.cast x_6 : Int)) ps)) ++ (decM (fstM ps (Int.toNat (Nat.cast x_6 : Int))) (sndM ps (Int.toNat (Nat.cast x_6 : Int))) y_25))) (1 : Nat))) ∧
 (((AV.lst (0 : Nat) (cellsPM ps) (List.length ps) (2 : Nat)) = (AV.lst (0 : Nat) (cellsPM ps) (List.length ps) (2 : Nat))) ∧
 (((AV.ptr (3 : Nat) (2 : Nat) (0 : Nat)) = (AV.ptr (3 : Nat) (2 : Nat) (0 : Nat))) ∧
 (((AV.int IntKind.i64 (Nat.cast (Int.toNat (Nat.cast x_6 : Int)) : Int)) = (AV.int IntKind.i64 (Nat.cast (Int.toNat (Nat.cast x_6 : Int)) : Int))) ∧
 (((AV.int IntKind.i64 n_24) = (AV.int IntKind.i64 (Nat.cast y_25 : Int))) ∧
 (((AV.sl (0 : Nat) (1 : Nat) (0 : Nat) (1 : Nat) (1 : Nat)) = (AV.sl (0 : Nat) (1 : Nat) (0 : Nat) (1 : Nat) (1 : Nat))) ∧
 (((AV.lst (0 : Nat) (cellsPM ps) (List.length ps) (2 : Nat)) = (AV.lst (0 : Nat) (cellsPM ps) (List.length ps) (2 : Nat))) ∧
 True))))))))))))))))))
else False)))))))))
else (∃ n_20 : Int, (((AV.int IntKind.i64 (IntKind.wrap IntKind.i64 ((Nat.cast x_15 : Int) + (1 : Int)))) = (AV.int IntKind.i64 n_20)) ∧
 ((True ∧
 ((0 : Nat) = (0 : Nat))) ∧
 (∃ y_21 : Nat, ((Lf (y_21 ≤ (16 : Nat))) ∧
 ((((16 : Nat) - y_21) < ((16 : Nat) - x_15)) ∧
 ((((AV.int IntKind.i64 f) :: []) = ((AV.int IntKind.i64 f) :: [])) ∧
 ((((AV.int IntKind.i64 (fstM ps (0 : Nat))) :: ((AV.int IntKind.i64 (sndM ps (0 : Nat))) :: [])) = ((AV.int IntKind.i64 (fstM ps (0 : Nat))) :: ((AV.int IntKind.i64 (sndM ps (0 : Nat))) :: []))) ∧
 (((cellsI ((allM (List.take (Int.toNat (Nat.cast x_6 : Int)) ps)) ++ (decM (fstM ps (Int.toNat (Nat.cast x_6 : Int))) (sndM ps (Int.toNat (Nat.cast x_6 : Int))) x_15))) = (cellsI ((allM (List.take (Int.toNat (Nat.cast x_6 : Int)) ps)) ++ (decM (fstM ps (Int.toNat (Nat.cast x_6 : Int))) (sndM ps (Int.toNat (Nat.cast x_6 : Int))) y_21)))) ∧
 ((((AV.int IntKind.i64 (fstM ps (Int.toNat (Nat.cast x_6 : Int)))) :: ((AV.int IntKind.i64 (sndM ps (Int.toNat (Nat.cast x_6 : Int)))) :: [])) = ((AV.int IntKind.i64 (fstM ps (Int.toNat (Nat.cast x_6 : Int)))) :: ((AV.int IntKind.i64 (sndM ps (Int.toNat (Nat.cast x_6 : Int)))) :: []))) ∧
 (((AV.int IntKind.i64 (Nat.cast (List.length ps) : Int)) = (AV.int IntKind.i64 (Nat.cast (List.length ps) : Int))) ∧
 (((AV.sl (2 : Nat) (List.length ((allM (List.take (Int.toNat (Nat.cast x_6 : Int)) ps)) ++ (decM (fstM ps (Int.toNat (Nat.cast x_6 : Int))) (sndM ps (Int.toNat (Nat.cast x_6 : Int))) x_15))) (0 : Nat) (List.length ((allM (List.take (Int.toNat (Nat.cast x_6 : Int)) ps)) ++ (decM (fstM ps (Int.toNat (Nat.cast x_6 : Int))) (sndM ps (Int.toNat (Nat.cast x_6 : Int))) x_15))) (1 : Nat)) = (AV.sl (2 : Nat) (List.length ((allM (List.take (Int.toNat (Nat.cast x_6 : Int)) ps)) ++ (decM (fstM ps (Int.toNat (Nat.cast x_6 : Int))) (sndM ps (Int.toNat (Nat.cast x_6 : Int))) y_21))) (0 : Nat) (List.length ((allM (List.take (Int.toNat (Nat.cast x_6 : Int)) ps)) ++ (decM (fstM ps (Int.toNat (Nat.cast x_6 : Int))) (sndM ps (Int.toNat (Nat.cast x_6 : Int))) y_21))) (1 : Nat))) ∧
 (((AV.lst (0 : Nat) (cellsPM ps) (List.length ps) (2 : Nat)) = (AV.lst (0 : Nat) (cellsPM ps) (List.length ps) (2 : Nat))) ∧
 (((AV.ptr (3 : Nat) (2 : Nat) (0 : Nat)) = (AV.ptr (3 : Nat) (2 : Nat) (0 : Nat))) ∧
 (((AV.int IntKind.i64 (Nat.cast (Int.toNat (Nat.cast x_6 : Int)) : Int)) = (AV.int IntKind.i64 (Nat.cast (Int.toNat (Nat.cast x_6 : Int)) : Int))) ∧
 (((AV.int IntKind.i64 n_20) = (AV.int IntKind.i64 (Nat.cast y_21 : Int))) ∧
 (((AV.sl (0 : Nat) (1 : Nat) (0 : Nat) (1 : Nat) (1 : Nat)) = (AV.sl (0 : Nat) (1 : Nat) (0 : Nat) (1 : Nat) (1 : Nat))) ∧
 (((AV.lst (0 : Nat) (cellsPM ps) (List.length ps) (2 : Nat)) = (AV.lst (0 : Nat) (cellsPM ps) (List.length ps) (2 : Nat))) ∧
 True)))))))))))))))))))))))
else False)))))
else (∃ n_16 : Int, (((AV.int IntKind.i64 (IntKind.wrap IntKind.i64 ((Nat.cast (Int.toNat (Nat.cast x_6 : Int)) : Int) + (1 : Int)))) = (AV.int IntKind.i64 n_16)) ∧
 ((True ∧
 ((0 : Nat) = (0 : Nat))) ∧
 ((∃ y_17 : Nat, ((Lf True) ∧
 ((((List.length ps) + (1 : Nat)) < ((List.length ps) - x_6)) ∧
 ((((AV.int IntKind.i64 f) :: []) = ((AV.int IntKind.i64 f) :: [])) ∧
 False)))) ∨
 (∃ y_17 : Nat, ((Lf (((1 : Nat) ≤ y_17) ∧
 (y_17 ≤ (List.length ps)))) ∧
 ((((List.length ps) - y_17) < ((List.length ps) - x_6)) ∧
 ((((AV.int IntKind.i64 f) :: []) = ((AV.int IntKind.i64 f) :: [])) ∧
 ((((AV.int IntKind.i64 (fstM ps (0 : Nat))) :: ((AV.int IntKind.i64 (sndM ps (0 : Nat))) :: [])) = ((AV.int IntKind.i64 (fstM ps (0 : Nat))) :: ((AV.int IntKind.i64 (sndM ps (0 : Nat))) :: []))) ∧
 (((cellsI ((allM (List.take (Int.toNat (Nat.cast x_6 : Int)) ps)) ++ (decM (fstM ps (Int.toNat (Nat.cast x_6 : Int))) (sndM ps (Int.toNat (Nat.cast x_6 : Int))) x_15))) = (cellsI (allM (List.take y_17 ps)))) ∧
 (((AV.int IntKind.i64 (Nat.cast (List.length ps) : Int)) = (AV.int IntKind.i64 (Nat.cast (List.length ps) : Int))) ∧
 (((AV.sl (2 : Nat) (List.length ((allM (List.take (Int.toNat (Nat.cast x_6 : Int)) ps)) ++ (decM (fstM ps (Int.toNat (Nat.cast x_6 : Int))) (sndM ps (Int.toNat (Nat.cast x_6 : Int))) x_15))) (0 : Nat) (List.length ((allM (List.take (Int.toNat (Nat.cast x_6 : Int)) ps)) ++ (decM (fstM ps (Int.toNat (Nat.cast x_6 : Int))) (sndM ps (Int.toNat (Nat.cast x_6 : Int))) x_15))) (1 : Nat)) = (AV.sl (2 : Nat) (List.length (allM (List.take y_17 ps))) (0 : Nat) (List.length (allM (List.take y_17 ps))) (1 : Nat))) ∧
 (((AV.lst (0 : Nat) (cellsPM ps) (List.length ps) (2 : Nat)) = (AV.lst (0 : Nat) (cellsPM ps) (List.length ps) (2 : Nat))) ∧
 (((AV.int IntKind.i64 n_16) = (AV.int IntKind.i64 (Nat.cast y_17 : Int))) ∧
 (((AV.sl (0 : Nat) (1 : Nat) (0 : Nat) (1 : Nat) (1 : Nat)) = (AV.sl (0 : Nat) (1 : Nat) (0 : Nat) (1 : Nat) (1 : Nat))) ∧
 (((AV.lst (0 : Nat) (cellsPM ps) (List.length ps) (2 : Nat)) = (AV.lst (0 : Nat) (cellsPM ps) (List.length ps) (2 : Nat))) ∧
 True))))))))))))))))))))
else False))))))))))))
else False)
else False)))
else (bif (decide (n_9 < (0 : Int))) then False
else (bif (decide (n_9 > (65535 : Int))) then False
else (bif (((((Nat.beq (List.length (cellsI (allM (List.take x_6 ps)))) (List.length (allM (List.take x_6 ps)))) && Bool.true) && (Nat.beq ((0 : Nat) + ((List.length (allM (List.take x_6 ps))) * (1 : Nat))) (List.length (allM (List.take x_6 ps))))) && (Nat.ble ((List.length (allM (List.take x_6 ps))) + (1 : Nat)) (1099511627776 : Nat))) && (Nat.ble (((List.length (allM (List.take x_6 ps))) + (1 : Nat)) * (8 : Nat)) (1099511627776 : Nat))) then ((∃ x_10 : Nat, ((Lf (x_10 ≤ (16 : Nat))) ∧
 ((((AV.int IntKind.i64 f) :: []) = ((AV.int IntKind.i64 f) :: [])) ∧
 ((((AV.int IntKind.i64 (fstM ps (0 : Nat))) :: ((AV.int IntKind.i64 (sndM ps (0 : Nat))) :: [])) = ((AV.int IntKind.i64 (fstM ps (0 : Nat))) :: ((AV.int IntKind.i64 (sndM ps (0 : Nat))) :: []))) ∧
 ((((cellsI (allM (List.take x_6 ps))) ++ ((AV.int IntKind.i64 n_8) :: [])) = (cellsI ((allM (List.take (Int.toNat (Nat.cast x_6 : Int)) ps)) ++ (decM (fstM ps (Int.toNat (Nat.cast x_6 : Int))) (sndM ps (Int.toNat (Nat.cast x_6 : Int))) x_10)))) ∧
 ((((AV.int IntKind.i64 n_8) :: ((AV.int IntKind.i64 n_9) :: [])) = ((AV.int IntKind.i64 (fstM ps (Int.toNat (Nat.cast x_6 : Int)))) :: ((AV.int IntKind.i64 (sndM ps (Int.toNat (Nat.cast x_6 : Int)))) :: []))) ∧
 (((AV.int IntKind.i64 (Nat.cast (List.length ps) : Int)) = (AV.int IntKind.i64 (Nat.cast (List.length ps) : Int))) ∧
 (((AV.sl (2 : Nat) ((List.length (allM (List.take x_6 ps))) + (1 : Nat)) (0 : Nat) ((List.length (allM (List.take x_6 ps))) + (1 : Nat)) (1 : Nat)) = (AV.sl (2 : Nat) (List.length ((allM (List.take (Int.toNat (Nat.cast x_6 : Int)) ps)) ++ (decM (fstM ps (Int.toNat (Nat.cast x_6 : Int))) (sndM ps (Int.toNat (Nat.cast x_6 : Int))) x_10))) (0 : Nat) (List.length ((allM (List.take (Int.toNat (Nat.cast x_6 : Int)) ps)) ++ (decM (fstM ps (Int.toNat (Nat.cast x_6 : Int))) (sndM ps (Int.toNat (Nat.cast x_6 : Int))) x_10))) (1 : Nat))) ∧
 (((AV.lst (0 : Nat) (cellsPM ps) (List.length ps) (2 : Nat)) = (AV.lst (0 : Nat) (cellsPM ps) (List.length ps) (2 : Nat))) ∧
 (((AV.ptr (3 : Nat) (2 : Nat) (0 : Nat)) = (AV.ptr (3 : Nat) (2 : Nat) (0 : Nat))) ∧
 (((AV.int IntKind.i64 (Nat.cast x_6 : Int)) = (AV.int IntKind.i64 (Nat.cast (Int.toNat (Nat.cast x_6 : Int)) : Int))) ∧
 (((AV.int IntKind.i64 (0 : Int)) = (AV.int IntKind.i64 (Nat.cast x_10 : Int))) ∧
 (((AV.sl (0 : Nat) (1 : Nat) (0 : Nat) (1 : Nat) (1 : Nat)) = (AV.sl (0 : Nat) (1 : Nat) (0 : Nat) (1 : Nat) (1 : Nat))) ∧
 (((AV.lst (0 : Nat) (cellsPM ps) (List.length ps) (2 : Nat)) = (AV.lst (0 : Nat) (cellsPM ps) (List.length ps) (2 : Nat))) ∧
 True)))))))))))))) ∧
 (∀ x_10 : Nat, ((Lf (x_10 ≤ (16 : Nat))) →
(bif (decide ((Nat.cast x_10 : Int) < (16 : Int))) then (∃ n_11 : Int, (((AV.int IntKind.i64 (Nat.cast x_10 : Int)) = (AV.int IntKind.i64 n_11)) ∧
 (∃ n_12 : Int, (((AV.int IntKind.i64 (sndM ps (Int.toNat (Nat.cast x_6 : Int)))) = (AV.int IntKind.i64 n_12)) ∧
 (bif ((decide ((0 : Int) ≤ n_11)) && Bool.true) then (∃ n_13 : Int, (((AV.int IntKind.i64 (Int.fdiv n_12 ((2 : Int) ^ (Min.min (Int.toNat n_11) (64 : Nat))))) = (AV.int IntKind.i64 n_13)) ∧
 (∃ n_14 : Int, (((AV.int IntKind.i64 (IntKind.wrap IntKind.i64 (Nat.cast ((Int.toNat (n_13 % (18446744073709551616 : Int))) &&& (1 : Nat)) : Int))) = (AV.int IntKind.i64 n_14)) ∧
 (bif (n_14 == (1 : Int)) then (∃ n_15 : Int, (((AV.int IntKind.i64 (fstM ps (Int.toNat (Nat.cast x_6 : Int)))) = (AV.int IntKind.i64 n_15)) ∧
 (∃ n_16 : Int, (((AV.int IntKind.i64 (IntKind.wrap IntKind.i64 (n_15 + (1 : Int)))) = (AV.int IntKind.i64 n_16)) ∧
 (∃ n_17 : Int, (((AV.int IntKind.i64 (IntKind.wrap IntKind.i64 (n_16 + n_11))) = (AV.int IntKind.i64 n_17)) ∧
 (∃ n_18 : Int, (((AV.int IntKind.i64 (Int.tmod n_17 (65536 : Int))) = (AV.int IntKind.i64 n_18)) ∧
 (bif (((((Nat.beq (List.length (cellsI ((allM (List.take (Int.toNat (Nat.cast x_6 : Int)) ps)) ++ (decM (fstM ps (Int.toNat (Nat.cast x_6 : Int))) (sndM ps (Int.toNat (Nat.cast x_6 : Int))) x_10)))) (List.length ((allM (List.take (Int.toNat (Nat.cast x_6 : Int)) ps)) ++ (decM (fstM ps (Int.toNat (Nat.cast x_6 : Int))) (sndM ps (Int.toNat (Nat.cast x_6 : Int))) x_10)))) && Bool.true) && (Nat.beq ((0 : Nat) + ((List.length ((allM (List.take (Int.toNat (Nat.cast x_6 : Int)) ps)) ++ (decM (fstM ps (Int.toNat (Nat.cast x_6 : Int))) (sndM ps (Int.toNat (Nat.cast x_6 : Int))) x_10))) * (1 : Nat))) (List.length ((allM (List.take (Int.toNat (Nat.cast x_6 : Int)) ps)) ++ (decM (fstM ps (Int.toNat (Nat.cast x_6 : Int))) (sndM ps (Int.toNat (Nat.cast x_6 : Int))) x_10))))) && (Nat.ble ((List.length ((allM (List.take (Int.toNat (Nat.cast x_6 : Int)) ps)) ++ (decM (fstM ps (Int.toNat (Nat.cast x_6 : Int))) (sndM ps (Int.toNat (Nat.cast x_6 : Int))) x_10))) + (1 : Nat)) (1099511627776 : Nat))) && (Nat.ble (((List.length ((allM (List.take (Int.toNat (Nat.cast x_6 : Int)) ps)) ++ (decM (fstM ps (Int.toNat (Nat.cast x_6 : Int))) (sndM ps (Int.toNat (Nat.cast x_6 : Int))) x_10))) + (1 : Nat)) * (8 : Nat)) (1099511627776 : Nat))) then (∃ n_19 : Int, (((AV.int IntKind.i64 (IntKind.wrap IntKind.i64 ((Nat.cast x_10 : Int) + (1 : Int)))) = (AV.int IntKind.i64 n_19)) ∧
 ((True ∧
 ((0 : Nat) = (0 : Nat))) ∧
 (∃ y_20 : Nat, ((Lf (y_20 ≤ (16 : Nat))) ∧
 ((((16 : Nat) - y_20) < ((16 : Nat) - x_10)) ∧
 ((((AV.int IntKind.i64 f) :: []) = ((AV.int IntKind.i64 f) :: [])) ∧
 ((((AV.int IntKind.i64 (fstM ps (0 : Nat))) :: ((AV.int IntKind.i64 (sndM ps (0 : Nat))) :: [])) = ((AV.int IntKind.i64 (fstM ps (0 : Nat))) :: ((AV.int IntKind.i64 (sndM ps (0 : Nat))) :: []))) ∧
 ((((cellsI ((allM (List.take (Int.toNat (Nat.cast x_6 : Int)) ps)) ++ (decM (fstM ps (Int.toNat (Nat.cast x_6 : Int))) (sndM ps (Int.toNat (Nat.cast x_6 : Int))) x_10))) ++ ((AV.int IntKind.i64 n_18) :: [])) = (cellsI ((allM (List.take (Int.toNat (Nat.cast x_6 : Int)) ps)) ++ (decM (fstM ps (Int.toNat (Nat.cast x_6 : Int))) (sndM ps (Int.toNat (Nat.cast x_6 : Int))) y_20)))) ∧
 ((((AV.int IntKind.i64 (fstM ps (Int.toNat (Nat.cast x_6 : Int)))) :: ((AV.int IntKind.i64 (sndM ps (Int.toNat (Nat.cast x_6 : Int)))) :: [])) = ((AV.int IntKind.i64 (fstM ps (Int.toNat (Nat.cast x_6 : Int)))) :: ((AV.int IntKind.i64 (sndM ps (Int.toNat (Nat.cast x_6 : Int)))) :: []))) ∧
 (((AV.int IntKind.i64 (Nat.cast (List.length ps) : Int)) = (AV.int IntKind.i64 (Nat.cast (List.length ps) : Int))) ∧
 (((AV.sl (2 : Nat) ((List.length ((allM (List.take (Int.toNat (Nat.cast x_6 : Int)) ps)) ++ (decM (fstM ps (Int.toNat (Nat.cast x_6 : Int))) (sndM ps (Int.toNat (Nat.cast x_6 : Int))) x_10))) + (1 : Nat)) (0 : Nat) ((List.length ((allM (List.take (Int.toNat (Nat.cast x_6 : Int)) ps)) ++ (decM (fstM ps (Int.toNat (Nat.cast x_6 : Int))) (sndM ps (Int.toNat (Nat.cast x_6 : Int))) x_10))) + (1 : Nat)) (1 : Nat)) = (AV.sl (2 : Nat) (List.length ((allM (List.take (Int.toNat (Nat.cast x_6 : Int)) ps)) ++ (decM (fstM ps (Int.toNat (Nat.cast x_6 : Int))) (sndM ps (Int.toNat (Nat.cast x_6 : Int))) y_20))) (0 : Nat) (List.length ((allM (List.take (Int.toNat (Nat.cast x_6 : Int)) ps)) ++ (decM (fstM ps (Int.toNat (Nat.cast x_6 : Int))) (sndM ps (Int.toNat (Nat.cast x_6 : Int))) y_20))) (1 : Nat))) ∧
 (((AV.lst (0 : Nat) (cellsPM ps) (List.length ps) (2 : Nat)) = (AV.lst (0 : Nat) (cellsPM ps) (List.length ps) (2 : Nat))) ∧
 (((AV.ptr (3 : Nat) (2 : Nat) (0 : Nat)) = (AV.ptr (3 : Nat) (2 : Nat) (0 : Nat))) ∧
 (((AV.int IntKind.i64 (Nat.cast (Int.toNat (Nat.cast x_6 : Int)) : Int)) = (AV.int IntKind.i64 (Nat.cast (Int.toNat (Nat.cast x_6 : Int)) : Int))) ∧
 (((AV.int IntKind.i64 n_19) = (AV.int IntKind.i64 (Nat.cast y_20 : Int))) ∧
 (((AV.sl (0 : Nat) (1 : Nat) (0 : Nat) (1 : Nat) (1 : Nat)) = (AV.sl (0 : Nat) (1 : Nat) (0 : Nat) (1 : Nat) (1 : Nat))) ∧
 (((AV.lst (0 : Nat) (cellsPM ps) (List.length ps) (2 : Nat)) = (AV.lst (0 : Nat) (cellsPM ps) (List.length ps) (2 : Nat))) ∧
 True))))))))))))))))))
else False)))))))))
else (∃ n_15 : Int, (((AV.int IntKind.i64 (IntKind.wrap IntKind.i64 ((Nat.cast x_10 : Int) + (1 : Int)))) = (AV.int IntKind.i64 n_15)) ∧
 ((True ∧
 ((0 : Nat) = (0 : Nat))) ∧
 (∃ y_16 : Nat, ((Lf (y_16 ≤ (16 : Nat))) ∧
 ((((16 : Nat) - y_16) < ((16 : Nat) - x_10)) ∧
 ((((AV.int IntKind.i64 f) :: []) = ((AV.int IntKind.i64 f) :: [])) ∧
 ((((AV.int IntKind.i64 (fstM ps (0 : Nat))) :: ((AV.int IntKind.i64 (sndM ps (0 : Nat))) :: [])) = ((AV.int IntKind.i64 (fstM ps (0 : Nat))) :: ((AV.int IntKind.i64 (sndM ps (0 : Nat))) :: []))) ∧
 (((cellsI ((allM (List.take (Int.toNat (Nat.cast x_6 : Int)) ps)) ++ (decM (fstM ps (Int.toNat (Nat.cast x_6 : Int))) (sndM ps (Int.toNat (Nat.cast x_6 : Int))) x_10))) = (cellsI ((allM (List.take (Int.toNat (Nat.cast x_6 : Int)) ps)) ++ (decM (fstM ps (Int.toNat (Nat.cast x_6 : Int))) (sndM ps (Int.toNat (Nat.cast x_6 : Int))) y_16)))) ∧
 ((((AV.int IntKind.i64 (fstM ps (Int.toNat (Nat.cast x_6 : Int)))) :: ((AV.int IntKind.i64 (sndM ps (Int.toNat (Nat.cast x_6 : Int)))) :: [])) = ((AV.int IntKind.i64 (fstM ps (Int.toNat (Nat.cast x_6 : Int)))) :: ((AV.int IntKind.i64 (sndM ps (Int.toNat (Nat.cast x_6 : Int)))) :: []))) ∧
 (((AV.int IntKind.i64 (Nat.cast (List.length ps) : Int)) = (AV.int IntKind.i64 (Nat.cast (List.length ps) : Int))) ∧
 (((AV.sl (2 : Nat) (List.length ((allM (List.take (Int.toNat (Nat.cast x_6 : Int)) ps)) ++ (decM (fstM ps (Int.toNat (Nat.cast x_6 : Int))) (sndM ps (Int.toNat (Nat.cast x_6 : Int))) x_10))) (0 : Nat) (List.length ((allM (List.take (Int.toNat (Nat.cast x_6 : Int)) ps)) ++ (decM (fstM ps (Int.toNat (Nat.cast x_6 : Int))) (sndM ps (Int.toNat (Nat.cast x_6 : Int))) x_10))) (1 : Nat)) = (AV.sl (2 : Nat) (List.length ((allM (List.take (Int.toNat (Nat.cast x_6 : Int)) ps)) ++ (decM (fstM ps (Int.toNat (Nat.cast x_6 : Int))) (sndM ps (Int.toNat (Nat.cast x_6 : Int))) y_16))) (0 : Nat) (List.length ((allM (List.take (Int.toNat (Nat.cast x_6 : Int)) ps)) ++ (decM (fstM ps (Int.toNat (Nat.cast x_6 : Int))) (sndM ps (Int.toNat (Nat.cast x_6 : Int))) y_16))) (1 : Nat))) ∧
 (((AV.lst (0 : Nat) (cellsPM ps) (List.length ps) (2 : Nat)) = (AV.lst (0 : Nat) (cellsPM ps) (List.length ps) (2 : Nat))) ∧
 (((AV.ptr (3 : Nat) (2 : Nat) (0 : Nat)) = (AV.ptr (3 : Nat) (2 : Nat) (0 : Nat))) ∧
 (((AV.int IntKind.i64 (Nat.cast (Int.toNat (Nat.cast x_6 : Int)) : Int)) = (AV.int IntKind.i64 (Nat.cast (Int.toNat (Nat.cast x_6 : Int)) : Int))) ∧
 (((AV.int IntKind.i64 n_15) = (AV.int IntKind.i64 (Nat.cast y_16 : Int))) ∧
 (((AV.sl (0 : Nat) (1 : Nat) (0 : Nat) (1 : Nat) (1 : Nat)) = (AV.sl (0 : Nat) (1 : Nat) (0 : Nat) (1 : Nat) (1 : Nat))) ∧
 (((AV.lst (0 : Nat) (cellsPM ps) (List.length ps) (2 : Nat)) = (AV.lst (0 : Nat) (cellsPM ps) (List.length ps) (2 : Nat))) ∧
 True)))))))))))))))))))))))
else False)))))
else (∃ n_11 : Int, (((AV.int IntKind.i64 (IntKind.wrap IntKind.i64 ((Nat.cast (Int.toNat (Nat.cast x_6 : Int)) : Int) + (1 : Int)))) = (AV.int IntKind.i64 n_11)) ∧
 ((True ∧
 ((0 : Nat) = (0 : Nat))) ∧
 ((∃ y_12 : Nat, ((Lf True) ∧
 ((((List.length ps) + (1 : Nat)) < ((List.length ps) - x_6)) ∧
 ((((AV.int IntKind.i64 f) :: []) = ((AV.int IntKind.i64 f) :: [])) ∧
 False)))) ∨
 (∃ y_12 : Nat, ((Lf (((1 : Nat) ≤ y_12) ∧
 (y_12 ≤ (List.length ps)))) ∧
 ((((List.length ps) - y_12) < ((List.length ps) - x_6)) ∧
 ((((AV.int IntKind.i64 f) :: []) = ((AV.int IntKind.i64 f) :: [])) ∧
 ((((AV.int IntKind.i64 (fstM ps (0 : Nat))) :: ((AV.int IntKind.i64 (sndM ps (0 : Nat))) :: [])) = ((AV.int IntKind.i64 (fstM ps (0 : Nat))) :: ((AV.int IntKind.i64 (sndM ps (0 : Nat))) :: []))) ∧
 (((cellsI ((allM (List.take (Int.toNat (Nat.cast x_6 : Int)) ps)) ++ (decM (fstM ps (Int.toNat (Nat.cast x_6 : Int))) (sndM ps (Int.toNat (Nat.cast x_6 : Int))) x_10))) = (cellsI (allM (List.take y_12 ps)))) ∧
 (((AV.int IntKind.i64 (Nat.cast (List.length ps) : Int)) = (AV.int IntKind.i64 (Nat.cast (List.length ps) : Int))) ∧
 (((AV.sl (2 : Nat) (List.length ((allM (List.take (Int.toNat (Nat.cast x_6 : Int)) ps)) ++ (decM (fstM ps (Int.toNat (Nat.cast x_6 : Int))) (sndM ps (Int.toNat (Nat.cast x_6 : Int))) x_10))) (0 : Nat) (List.length ((allM (List.take (Int.toNat (Nat.cast x_6 : Int)) ps)) ++ (decM (fstM ps (Int.toNat (Nat.cast x_6 : Int))) (sndM ps (Int.toNat (Nat.cast x_6 : Int))) x_10))) (1 : Nat)) = (AV.sl (2 : Nat) (List.length (allM (List.take y_12 ps))) (0 : Nat) (List.length (allM (List.take y_12 ps))) (1 : Nat))) ∧
 (((AV.lst (0 : Nat) (cellsPM ps) (List.length ps) (2 : Nat)) = (AV.lst (0 : Nat) (cellsPM ps) (List.length ps) (2 : Nat))) ∧
 (((AV.int IntKind.i64 n_11) = (AV.int IntKind.i64 (Nat.cast y_12 : Int))) ∧
 (((AV.sl (0 : Nat) (1 : Nat) (0 : Nat) (1 : Nat) (1 : Nat)) = (AV.sl (0 : Nat) (1 : Nat) (0 : Nat) (1 : Nat) (1 : Nat))) ∧
 (((AV.lst (0 : Nat) (cellsPM ps) (List.length ps) (2 : Nat)) = (AV.lst (0 : Nat) (cellsPM ps) (List.length ps) (2 : Nat))) ∧
 True))))))))))))))))))))
else False)))))))
else False)
else False)))
else (bif (((Nat.beq (List.length (cellsI (allM (List.take x_6 ps)))) (List.length (allM (List.take x_6 ps)))) && (Nat.ble ((0 : Nat) + ((List.length (allM (List.take x_6 ps))) * (1 : Nat))) (List.length (allM (List.take x_6 ps))))) && Bool.true) then (∃ xs_7 : (List Int), (∃ ys_8 : (List Int), ((Lf (((List.map (fun x_9 : AV => (frzV (1 : Nat) ((Blk.mk BK.exact Bool.true ((AV.int IntKind.i64 f) :: [])) :: ((Blk.mk BK.exact Bool.true ((AV.int IntKind.i64 (fstM ps (0 : Nat))) :: ((AV.int IntKind.i64 (sndM ps (0 : Nat))) :: []))) :: ((Blk.mk BK.grow Bool.true (cellsI (allM (List.take x_6 ps)))) :: []))) (8 : Nat) x_9)) (List.take ((List.length (allM (List.take x_6 ps))) * (1 : Nat)) (List.drop (0 : Nat) (cellsI (allM (List.take x_6 ps)))))) = (cellsI xs_7)) ∧
 (((List.length (allM (List.take x_6 ps))) = (List.length xs_7)) ∧
 (((List.length xs_7) ≤ (4611686018427387904 : Nat)) ∧
 ((((AV.int IntKind.i64 f) :: []) = (cellsI ys_8)) ∧
 (((1 : Nat) = (List.length ys_8)) ∧
 ((List.length ys_8) ≤ (4611686018427387904 : Nat)))))))) ∧
 (bif (decide (xs_7 = ys_8)) then True
else False))))
else False)))))))))))))))))))))) := by kernel_rfl


end Go.Proofs.YtafchcmemeinlaaDoor

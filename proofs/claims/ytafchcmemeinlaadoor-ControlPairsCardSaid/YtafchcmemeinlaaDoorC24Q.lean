/-
  Chapter 24: ControlPairs' run.
-/
import Derived.Test.YtafchcmemeinlaaDoorC24P
set_option linter.unusedSimpArgs false
set_option linter.unusedVariables false
namespace Go.Proofs.YtafchcmemeinlaaDoor
open Go.RowKit
set_option maxRecDepth 1000000

def smQ : SM := lookS [(17, cTrue), (18, cPairsEV), (19, cNacksV), (20, cEqualPV), (21, cPairsV), (22, cFrac), (23, cFrac)]
theorem smQ_ok : ∀ f g, smQ f = some g → ValidF Tryd.prog glC f g := lookS_ok _ (by simp only [List.mem_cons, List.not_mem_nil, or_false, forall_eq_or_imp, forall_eq]; exact ⟨works_ok, pairsE_ok, refNacks_ok, equalP_ok, ref21_ok, frac_ok, refFrac_ok⟩)
def next4M (a k : Int) : Int := (a + k % 24) % 65536
def gen4M (a : Int) : List Int → List Int
  | [] => []
  | k :: l => next4M a k :: gen4M (next4M a k) l
def l4M (f : Int) (ks : List Int) : List Int := f :: gen4M f ks
def at4M (a : Int) : List Int → Int
  | [] => a
  | k :: l => at4M (next4M a k) l
theorem gen4_snoc (a k : Int) (ks : List Int) : gen4M a (ks ++ [k]) = gen4M a ks ++ [next4M (at4M a ks) k] := by
  induction ks generalizing a with
  | nil => rfl
  | cons x ks ih => simp [gen4M, at4M, ih]
theorem at4_snoc (a k : Int) (ks : List Int) : at4M a (ks ++ [k]) = next4M (at4M a ks) k := by
  induction ks generalizing a with
  | nil => rfl
  | cons x ks ih => simp [at4M, ih]
theorem gen4_len (a : Int) (ks : List Int) : (gen4M a ks).length = ks.length := by
  induction ks generalizing a with
  | nil => rfl
  | cons x ks ih => simp [gen4M, ih]
theorem l4_len (a : Int) (ks : List Int) : (l4M a ks).length = ks.length + 1 := by simp [l4M, gen4_len]
theorem at4_rng (a : Int) (ks : List Int) (h : 0 ≤ a ∧ a ≤ 65535) : 0 ≤ at4M a ks ∧ at4M a ks ≤ 65535 := by
  induction ks generalizing a with
  | nil => exact h
  | cons x ks ih => exact ih _ (by unfold next4M; omega)
/-- a loop that is run a few times, and leaves nothing but its counter -/
def mskM : List Nat → Nat
  | [] => 0
  | k :: l => 2 ^ k + mskM l
def ctrJ (msk slot n : Nat) (s : S) (j : Nat) : LInv where
  α := Nat
  pre _ := Lf True
  st _ := ⟨T.put 12 (s.tm.keep msk 1 0) slot (.int .i64 (Int.ofNat j)), s.hp⟩
  mu _ := n - j
def ctrI (live : List Nat) (slot n : Nat) (s : S) : List (List LInv) := [(List.range (n + 1)).map (ctrJ (mskM live) slot n s)]
def pre4 (f s0 s1 : Int) : List Blk := [⟨.exact, true, [.int .u16 s0, .int .u16 s1]⟩, ⟨.exact, true, [.int .i64 f]⟩]
def invA_4 (f : Int) (ks rr : List Int) (a b s0 s1 : Int) : LInv where
  α := Nat
  pre _ := Lf True
  st _ := ⟨mkT [(2, .lst 0 (cellsI rr) rr.length 1), (3, .int .i64 a), (4, .int .i64 b), (11, .ptr 0 2 0), (13, .int .i64 f), (14, .sl 1 1 0 1 1), (35, .lst 0 (cells8M ks) ks.length 1), (36, .int .i64 ks.length), (37, .int .i64 0)], pre4 f s0 s1⟩
  mu _ := ks.length + 1
def invB_4 (f : Int) (ks rr : List Int) (a b s0 s1 : Int) : LInv where
  α := Nat
  pre i := Lf (1 ≤ i ∧ i ≤ ks.length)
  st i := ⟨mkT [(2, .lst 0 (cellsI rr) rr.length 1), (3, .int .i64 a), (4, .int .i64 b), (11, .ptr 0 2 0), (13, .int .i64 (at4M f (ks.take i))), (14, .sl 2 (i + 1) 0 (i + 1) 1), (35, .lst 0 (cells8M ks) ks.length 1), (36, .int .i64 ks.length), (37, .int .i64 i)], pre4 f s0 s1 ++ [⟨.grow, true, cellsI (l4M f (ks.take i))⟩]⟩
  mu i := ks.length - i
noncomputable def env_4 (hv : Nat → Option Pa) (hb : Nat → Option Bool) (f : Int) (ks rr : List Int) (a b s0 s1 : Int) : Env := e24 smQ (fun i => bif Nat.beq i 4000 then some (fun _ => [[invA_4 f ks rr a b s0 s1, invB_4 f ks rr a b s0 s1]]) else bif Nat.beq i 4002 then some (ctrI [3, 4, 11, 58] 59 2) else bif Nat.beq i 4004 then some (ctrI [102] 103 3) else none) hv hb
noncomputable def goal_4 (hv : Nat → Option Pa) (hb : Nat → Option Bool) (f : Int) (kk ks rr : List Int) (a b s0 s1 : Int) : Prop :=
  callx (env_4 hv hb f ks rr a b s0 s1) (wpx (env_4 hv hb f ks rr a b s0 s1) 1000) 4 [.int .u16 f, .lst 0 (cells8M kk) kk.length 1, .lst 0 (cellsI rr) rr.length 1, .int .i64 a, .int .i64 b, .agg [.int .u16 s0, .int .u16 s1]] [] {} isT
theorem vc_4 (f : Int) (kk : List Int) (ks : List Int) (rr : List Int) (a : Int) (b : Int) (s0 : Int) (s1 : Int) : goal_4 (lookV [(16412, .int .i64), (16417, .int .i64), (16418, .int .i64), (16420, .int .i64), (16424, .int .u8), (16427, .int .u8), (16428, .int .i64), (16429, .int .i64), (16430, .int .i64), (16439, .int .i64), (16440, .int .i64), (16450, .int .i64), (16458, .int .i64), (16476, .int .i64), (16479, .int .i64), (16484, .int .i64), (16425, .int .i64), (16435, .int .i64)]) (lookB []) f kk ks rr a b s0 s1 = (
(∃ n_0 : Int, (((AV.int IntKind.i64 (IntKind.wrap IntKind.i64 f)) = (AV.int IntKind.i64 n_0)) ∧
 (∃ n_1 : Int, (((AV.int IntKind.i64 (Nat.cast (List.length kk) : Int)) = (AV.int IntKind.i64 n_1)) ∧
 (∃ n_2 : Int, (((AV.int IntKind.i64 (imin n_1 (70 : Int))) = (AV.int IntKind.i64 n_2)) ∧
 (bif ((((decide ((0 : Int) ≤ n_2)) && Bool.true) && (Nat.ble (Int.toNat n_2) (List.length kk))) && Bool.true) then (∃ n_3 : Int, (((AV.int IntKind.i64 (Nat.cast ((Int.toNat n_2) - (0 : Nat)) : Int)) = (AV.int IntKind.i64 n_3)) ∧
 (((∃ x_4 : Nat, ((Lf True) ∧
 ((((AV.int IntKind.u16 s0) :: ((AV.int IntKind.u16 s1) :: [])) = ((AV.int IntKind.u16 s0) :: ((AV.int IntKind.u16 s1) :: []))) ∧
 ((((AV.int IntKind.i64 n_0) :: []) = ((AV.int IntKind.i64 f) :: [])) ∧
 (((AV.int IntKind.i64 a) = (AV.int IntKind.i64 a)) ∧
 (((AV.ptr (0 : Nat) (2 : Nat) (0 : Nat)) = (AV.ptr (0 : Nat) (2 : Nat) (0 : Nat))) ∧
 (((AV.lst (0 : Nat) (List.take (((Int.toNat n_2) - (0 : Nat)) * (1 : Nat)) (List.drop (0 : Nat) (cells8M kk))) ((Int.toNat n_2) - (0 : Nat)) (1 : Nat)) = (AV.lst (0 : Nat) (cells8M ks) (List.length ks) (1 : Nat))) ∧
 (((AV.int IntKind.i64 n_0) = (AV.int IntKind.i64 f)) ∧
 (((AV.int IntKind.i64 (0 : Int)) = (AV.int IntKind.i64 (0 : Int))) ∧
 (((AV.lst (0 : Nat) (cellsI rr) (List.length rr) (1 : Nat)) = (AV.lst (0 : Nat) (cellsI rr) (List.length rr) (1 : Nat))) ∧
 (((AV.int IntKind.i64 b) = (AV.int IntKind.i64 b)) ∧
 (((AV.int IntKind.i64 n_3) = (AV.int IntKind.i64 (Nat.cast (List.length ks) : Int))) ∧
 (((AV.sl (1 : Nat) (1 : Nat) (0 : Nat) (1 : Nat) (1 : Nat)) = (AV.sl (1 : Nat) (1 : Nat) (0 : Nat) (1 : Nat) (1 : Nat))) ∧
 True))))))))))))) ∨
 (∃ x_4 : Nat, ((Lf (((1 : Nat) ≤ x_4) ∧
 (x_4 ≤ (List.length ks)))) ∧
 ((((AV.int IntKind.u16 s0) :: ((AV.int IntKind.u16 s1) :: [])) = ((AV.int IntKind.u16 s0) :: ((AV.int IntKind.u16 s1) :: []))) ∧
 ((((AV.int IntKind.i64 n_0) :: []) = ((AV.int IntKind.i64 f) :: [])) ∧
 False))))) ∧
 ((Nat →
((Lf True) →
(bif (decide ((0 : Int) < (Nat.cast (List.length ks) : Int))) then (bif ((Nat.blt (0 : Nat) (List.length ks)) && Bool.true) then (bif (Nat.blt (0 : Nat) (List.length (cells8M ks))) then (∃ n_4 : Int, (((List.getD (cells8M ks) (0 : Nat) AV.undef) = (AV.int IntKind.u8 n_4)) ∧
 (∃ n_5 : Int, (((AV.int IntKind.i64 f) = (AV.int IntKind.i64 n_5)) ∧
 (∃ n_6 : Int, (((AV.int IntKind.u8 (Int.tmod n_4 (24 : Int))) = (AV.int IntKind.u8 n_6)) ∧
 (∃ n_7 : Int, (((AV.int IntKind.i64 (IntKind.wrap IntKind.i64 n_6)) = (AV.int IntKind.i64 n_7)) ∧
 (∃ n_8 : Int, (((AV.int IntKind.i64 (IntKind.wrap IntKind.i64 (n_5 + n_7))) = (AV.int IntKind.i64 n_8)) ∧
 (∃ n_9 : Int, (((AV.int IntKind.i64 (Int.tmod n_8 (65536 : Int))) = (AV.int IntKind.i64 n_9)) ∧
 (∃ n_10 : Int, (((AV.int IntKind.i64 (1 : Int)) = (AV.int IntKind.i64 n_10)) ∧
 ((True ∧
 ((0 : Nat) = (0 : Nat))) ∧
 ((∃ y_11 : Nat, ((Lf True) ∧
 ((((List.length ks) + (1 : Nat)) < ((List.length ks) + (1 : Nat))) ∧
 ((((AV.int IntKind.u16 s0) :: ((AV.int IntKind.u16 s1) :: [])) = ((AV.int IntKind.u16 s0) :: ((AV.int IntKind.u16 s1) :: []))) ∧
 ((((AV.int IntKind.i64 f) :: []) = ((AV.int IntKind.i64 f) :: [])) ∧
 False))))) ∨
 (∃ y_11 : Nat, ((Lf (((1 : Nat) ≤ y_11) ∧
 (y_11 ≤ (List.length ks)))) ∧
 ((((List.length ks) - y_11) < ((List.length ks) + (1 : Nat))) ∧
 ((((AV.int IntKind.u16 s0) :: ((AV.int IntKind.u16 s1) :: [])) = ((AV.int IntKind.u16 s0) :: ((AV.int IntKind.u16 s1) :: []))) ∧
 ((((AV.int IntKind.i64 f) :: []) = ((AV.int IntKind.i64 f) :: [])) ∧
 ((((AV.int IntKind.i64 f) :: ((AV.int IntKind.i64 n_9) :: [])) = (cellsI (l4M f (List.take y_11 ks)))) ∧
 (((AV.int IntKind.i64 a) = (AV.int IntKind.i64 a)) ∧
 (((AV.ptr (0 : Nat) (2 : Nat) (0 : Nat)) = (AV.ptr (0 : Nat) (2 : Nat) (0 : Nat))) ∧
 (((AV.lst (0 : Nat) (cells8M ks) (List.length ks) (1 : Nat)) = (AV.lst (0 : Nat) (cells8M ks) (List.length ks) (1 : Nat))) ∧
 (((AV.int IntKind.i64 n_9) = (AV.int IntKind.i64 (at4M f (List.take y_11 ks)))) ∧
 (((AV.int IntKind.i64 n_10) = (AV.int IntKind.i64 (Nat.cast y_11 : Int))) ∧
 (((AV.lst (0 : Nat) (cellsI rr) (List.length rr) (1 : Nat)) = (AV.lst (0 : Nat) (cellsI rr) (List.length rr) (1 : Nat))) ∧
 (((AV.int IntKind.i64 b) = (AV.int IntKind.i64 b)) ∧
 (((AV.int IntKind.i64 (Nat.cast (List.length ks) : Int)) = (AV.int IntKind.i64 (Nat.cast (List.length ks) : Int))) ∧
 (((AV.sl (2 : Nat) (2 : Nat) (0 : Nat) (2 : Nat) (1 : Nat)) = (AV.sl (2 : Nat) (y_11 + (1 : Nat)) (0 : Nat) (y_11 + (1 : Nat)) (1 : Nat))) ∧
 True)))))))))))))))))))))))))))))))
else False)
else False)
else (∃ n_4 : Int, (((AV.int IntKind.i64 (Nat.cast (List.length rr) : Int)) = (AV.int IntKind.i64 n_4)) ∧
 (∃ n_5 : Int, (((AV.int IntKind.i64 (imin n_4 (66 : Int))) = (AV.int IntKind.i64 n_5)) ∧
 (bif ((((decide ((0 : Int) ≤ n_5)) && Bool.true) && (Nat.ble (Int.toNat n_5) (List.length rr))) && Bool.true) then (((∃ x_6 : Nat, ((Lf True) ∧
 ((((AV.int IntKind.u16 s0) :: ((AV.int IntKind.u16 s1) :: [])) = ((AV.int IntKind.u16 s0) :: ((AV.int IntKind.u16 s1) :: []))) ∧
 ((((AV.int IntKind.i64 f) :: []) = ((AV.int IntKind.i64 f) :: [])) ∧
 (((AV.int IntKind.i64 a) = (AV.int IntKind.i64 a)) ∧
 (((AV.ptr (0 : Nat) (2 : Nat) (0 : Nat)) = (AV.ptr (0 : Nat) (2 : Nat) (0 : Nat))) ∧
 (((AV.int IntKind.i64 (0 : Int)) = (AV.int IntKind.i64 (0 : Int))) ∧
 (((AV.int IntKind.i64 b) = (AV.int IntKind.i64 b)) ∧
 (((AV.agg ((AV.sl (1 : Nat) (1 : Nat) (0 : Nat) (1 : Nat) (1 : Nat)) :: ((AV.lst (0 : Nat) (List.take (((Int.toNat n_5) - (0 : Nat)) * (1 : Nat)) (List.drop (0 : Nat) (cellsI rr))) ((Int.toNat n_5) - (0 : Nat)) (1 : Nat)) :: []))) = (AV.agg ((AV.sl (1 : Nat) (1 : Nat) (0 : Nat) (1 : Nat) (1 : Nat)) :: ((AV.lst (0 : Nat) (List.take (((Int.toNat n_5) - (0 : Nat)) * (1 : Nat)) (List.drop (0 : Nat) (cellsI rr))) ((Int.toNat n_5) - (0 : Nat)) (1 : Nat)) :: [])))) ∧
 True))))))))) ∨
 ((∃ x_6 : Nat, ((Lf True) ∧
 ((((AV.int IntKind.u16 s0) :: ((AV.int IntKind.u16 s1) :: [])) = ((AV.int IntKind.u16 s0) :: ((AV.int IntKind.u16 s1) :: []))) ∧
 ((((AV.int IntKind.i64 f) :: []) = ((AV.int IntKind.i64 f) :: [])) ∧
 (((AV.int IntKind.i64 a) = (AV.int IntKind.i64 a)) ∧
 (((AV.ptr (0 : Nat) (2 : Nat) (0 : Nat)) = (AV.ptr (0 : Nat) (2 : Nat) (0 : Nat))) ∧
 (((AV.int IntKind.i64 (0 : Int)) = (AV.int IntKind.i64 (1 : Int))) ∧
 (((AV.int IntKind.i64 b) = (AV.int IntKind.i64 b)) ∧
 (((AV.agg ((AV.sl (1 : Nat) (1 : Nat) (0 : Nat) (1 : Nat) (1 : Nat)) :: ((AV.lst (0 : Nat) (List.take (((Int.toNat n_5) - (0 : Nat)) * (1 : Nat)) (List.drop (0 : Nat) (cellsI rr))) ((Int.toNat n_5) - (0 : Nat)) (1 : Nat)) :: []))) = (AV.agg ((AV.sl (1 : Nat) (1 : Nat) (0 : Nat) (1 : Nat) (1 : Nat)) :: ((AV.lst (0 : Nat) (List.take (((Int.toNat n_5) - (0 : Nat)) * (1 : Nat)) (List.drop (0 : Nat) (cellsI rr))) ((Int.toNat n_5) - (0 : Nat)) (1 : Nat)) :: [])))) ∧
 True))))))))) ∨
 (∃ x_6 : Nat, ((Lf True) ∧
 ((((AV.int IntKind.u16 s0) :: ((AV.int IntKind.u16 s1) :: [])) = ((AV.int IntKind.u16 s0) :: ((AV.int IntKind.u16 s1) :: []))) ∧
 ((((AV.int IntKind.i64 f) :: []) = ((AV.int IntKind.i64 f) :: [])) ∧
 (((AV.int IntKind.i64 a) = (AV.int IntKind.i64 a)) ∧
 (((AV.ptr (0 : Nat) (2 : Nat) (0 : Nat)) = (AV.ptr (0 : Nat) (2 : Nat) (0 : Nat))) ∧
 (((AV.int IntKind.i64 (0 : Int)) = (AV.int IntKind.i64 (2 : Int))) ∧
 (((AV.int IntKind.i64 b) = (AV.int IntKind.i64 b)) ∧
 (((AV.agg ((AV.sl (1 : Nat) (1 : Nat) (0 : Nat) (1 : Nat) (1 : Nat)) :: ((AV.lst (0 : Nat) (List.take (((Int.toNat n_5) - (0 : Nat)) * (1 : Nat)) (List.drop (0 : Nat) (cellsI rr))) ((Int.toNat n_5) - (0 : Nat)) (1 : Nat)) :: []))) = (AV.agg ((AV.sl (1 : Nat) (1 : Nat) (0 : Nat) (1 : Nat) (1 : Nat)) :: ((AV.lst (0 : Nat) (List.take (((Int.toNat n_5) - (0 : Nat)) * (1 : Nat)) (List.drop (0 : Nat) (cellsI rr))) ((Int.toNat n_5) - (0 : Nat)) (1 : Nat)) :: [])))) ∧
 True))))))))))) ∧
 ((Nat →
((Lf True) →
(∃ xs_6 : (List Int), ((Lf ((((AV.int IntKind.i64 f) :: []) = (cellsI xs_6)) ∧
 (((1 : Nat) = (List.length xs_6)) ∧
 ((List.length xs_6) ≤ (4611686018427387904 : Nat))))) ∧
 (∃ n_7 : Int, (((AV.int IntKind.i64 (pairsNM xs_6)) = (AV.int IntKind.i64 n_7)) ∧
 (∃ xs_8 : (List Int), ((Lf ((((AV.int IntKind.i64 f) :: []) = (cellsI xs_8)) ∧
 (((1 : Nat) = (List.length xs_8)) ∧
 ((List.length xs_8) ≤ (4611686018427387904 : Nat))))) ∧
 (bif (nacksM xs_8) then (bif (n_7 != (0 : Int)) then False
else (∃ xs_9 : (List Int), ((Lf ((((AV.int IntKind.i64 f) :: []) = (cellsI xs_9)) ∧
 (((1 : Nat) = (List.length xs_9)) ∧
 ((nacksM xs_9) = Bool.true)))) ∧
 (∃ xs_10 : (List (Prod Int Int)), (∃ ys_11 : (List (Prod Int Int)), ((Lf (((cellsPM (pairsEM xs_6)) = (cellsPM xs_10)) ∧
 (((List.length (pairsEM xs_6)) = (List.length xs_10)) ∧
 (((List.length xs_10) ≤ (2305843009213693952 : Nat)) ∧
 (((cellsPM (pairsM xs_9)) = (cellsPM ys_11)) ∧
 (((List.length (pairsM xs_9)) = (List.length ys_11)) ∧
 ((List.length ys_11) ≤ (2305843009213693952 : Nat)))))))) ∧
 (bif (decide (xs_10 = ys_11)) then ((True ∧
 ((0 : Nat) = (0 : Nat))) ∧
 ((∃ y_12 : Nat, ((Lf True) ∧
 (((2 : Nat) < (2 : Nat)) ∧
 ((((AV.int IntKind.u16 s0) :: ((AV.int IntKind.u16 s1) :: [])) = ((AV.int IntKind.u16 s0) :: ((AV.int IntKind.u16 s1) :: []))) ∧
 ((((AV.int IntKind.i64 f) :: []) = ((AV.int IntKind.i64 f) :: [])) ∧
 (((AV.int IntKind.i64 a) = (AV.int IntKind.i64 a)) ∧
 (((AV.ptr (0 : Nat) (2 : Nat) (0 : Nat)) = (AV.ptr (0 : Nat) (2 : Nat) (0 : Nat))) ∧
 (((AV.int IntKind.i64 (1 : Int)) = (AV.int IntKind.i64 (0 : Int))) ∧
 (((AV.int IntKind.i64 b) = (AV.int IntKind.i64 b)) ∧
 (((AV.agg ((AV.sl (1 : Nat) (1 : Nat) (0 : Nat) (1 : Nat) (1 : Nat)) :: ((AV.lst (0 : Nat) (List.take (((Int.toNat n_5) - (0 : Nat)) * (1 : Nat)) (List.drop (0 : Nat) (cellsI rr))) ((Int.toNat n_5) - (0 : Nat)) (1 : Nat)) :: []))) = (AV.agg ((AV.sl (1 : Nat) (1 : Nat) (0 : Nat) (1 : Nat) (1 : Nat)) :: ((AV.lst (0 : Nat) (List.take (((Int.toNat n_5) - (0 : Nat)) * (1 : Nat)) (List.drop (0 : Nat) (cellsI rr))) ((Int.toNat n_5) - (0 : Nat)) (1 : Nat)) :: [])))) ∧
 True)))))))))) ∨
 ((∃ y_12 : Nat, ((Lf True) ∧
 (((1 : Nat) < (2 : Nat)) ∧
 ((((AV.int IntKind.u16 s0) :: ((AV.int IntKind.u16 s1) :: [])) = ((AV.int IntKind.u16 s0) :: ((AV.int IntKind.u16 s1) :: []))) ∧
 ((((AV.int IntKind.i64 f) :: []) = ((AV.int IntKind.i64 f) :: [])) ∧
 (((AV.int IntKind.i64 a) = (AV.int IntKind.i64 a)) ∧
 (((AV.ptr (0 : Nat) (2 : Nat) (0 : Nat)) = (AV.ptr (0 : Nat) (2 : Nat) (0 : Nat))) ∧
 (((AV.int IntKind.i64 (1 : Int)) = (AV.int IntKind.i64 (1 : Int))) ∧
 (((AV.int IntKind.i64 b) = (AV.int IntKind.i64 b)) ∧
 (((AV.agg ((AV.sl (1 : Nat) (1 : Nat) (0 : Nat) (1 : Nat) (1 : Nat)) :: ((AV.lst (0 : Nat) (List.take (((Int.toNat n_5) - (0 : Nat)) * (1 : Nat)) (List.drop (0 : Nat) (cellsI rr))) ((Int.toNat n_5) - (0 : Nat)) (1 : Nat)) :: []))) = (AV.agg ((AV.sl (1 : Nat) (1 : Nat) (0 : Nat) (1 : Nat) (1 : Nat)) :: ((AV.lst (0 : Nat) (List.take (((Int.toNat n_5) - (0 : Nat)) * (1 : Nat)) (List.drop (0 : Nat) (cellsI rr))) ((Int.toNat n_5) - (0 : Nat)) (1 : Nat)) :: [])))) ∧
 True)))))))))) ∨
 (∃ y_12 : Nat, ((Lf True) ∧
 (((0 : Nat) < (2 : Nat)) ∧
 ((((AV.int IntKind.u16 s0) :: ((AV.int IntKind.u16 s1) :: [])) = ((AV.int IntKind.u16 s0) :: ((AV.int IntKind.u16 s1) :: []))) ∧
 ((((AV.int IntKind.i64 f) :: []) = ((AV.int IntKind.i64 f) :: [])) ∧
 (((AV.int IntKind.i64 a) = (AV.int IntKind.i64 a)) ∧
 (((AV.ptr (0 : Nat) (2 : Nat) (0 : Nat)) = (AV.ptr (0 : Nat) (2 : Nat) (0 : Nat))) ∧
 (((AV.int IntKind.i64 (1 : Int)) = (AV.int IntKind.i64 (2 : Int))) ∧
 (((AV.int IntKind.i64 b) = (AV.int IntKind.i64 b)) ∧
 (((AV.agg ((AV.sl (1 : Nat) (1 : Nat) (0 : Nat) (1 : Nat) (1 : Nat)) :: ((AV.lst (0 : Nat) (List.take (((Int.toNat n_5) - (0 : Nat)) * (1 : Nat)) (List.drop (0 : Nat) (cellsI rr))) ((Int.toNat n_5) - (0 : Nat)) (1 : Nat)) :: []))) = (AV.agg ((AV.sl (1 : Nat) (1 : Nat) (0 : Nat) (1 : Nat) (1 : Nat)) :: ((AV.lst (0 : Nat) (List.take (((Int.toNat n_5) - (0 : Nat)) * (1 : Nat)) (List.drop (0 : Nat) (cellsI rr))) ((Int.toNat n_5) - (0 : Nat)) (1 : Nat)) :: [])))) ∧
 True)))))))))))))
else False)))))))
else (bif (n_7 != (240 : Int)) then False
else (∃ n_9 : Int, (((AV.int IntKind.i64 (Nat.cast (List.length (pairsEM xs_6)) : Int)) = (AV.int IntKind.i64 n_9)) ∧
 (bif (decide (n_9 > (0 : Int))) then False
else ((True ∧
 ((0 : Nat) = (0 : Nat))) ∧
 ((∃ y_10 : Nat, ((Lf True) ∧
 (((2 : Nat) < (2 : Nat)) ∧
 ((((AV.int IntKind.u16 s0) :: ((AV.int IntKind.u16 s1) :: [])) = ((AV.int IntKind.u16 s0) :: ((AV.int IntKind.u16 s1) :: []))) ∧
 ((((AV.int IntKind.i64 f) :: []) = ((AV.int IntKind.i64 f) :: [])) ∧
 (((AV.int IntKind.i64 a) = (AV.int IntKind.i64 a)) ∧
 (((AV.ptr (0 : Nat) (2 : Nat) (0 : Nat)) = (AV.ptr (0 : Nat) (2 : Nat) (0 : Nat))) ∧
 (((AV.int IntKind.i64 (1 : Int)) = (AV.int IntKind.i64 (0 : Int))) ∧
 (((AV.int IntKind.i64 b) = (AV.int IntKind.i64 b)) ∧
 (((AV.agg ((AV.sl (1 : Nat) (1 : Nat) (0 : Nat) (1 : Nat) (1 : Nat)) :: ((AV.lst (0 : Nat) (List.take (((Int.toNat n_5) - (0 : Nat)) * (1 : Nat)) (List.drop (0 : Nat) (cellsI rr))) ((Int.toNat n_5) - (0 : Nat)) (1 : Nat)) :: []))) = (AV.agg ((AV.sl (1 : Nat) (1 : Nat) (0 : Nat) (1 : Nat) (1 : Nat)) :: ((AV.lst (0 : Nat) (List.take (((Int.toNat n_5) - (0 : Nat)) * (1 : Nat)) (List.drop (0 : Nat) (cellsI rr))) ((Int.toNat n_5) - (0 : Nat)) (1 : Nat)) :: [])))) ∧
 True)))))))))) ∨
 ((∃ y_10 : Nat, ((Lf True) ∧
 (((1 : Nat) < (2 : Nat)) ∧
 ((((AV.int IntKind.u16 s0) :: ((AV.int IntKind.u16 s1) :: [])) = ((AV.int IntKind.u16 s0) :: ((AV.int IntKind.u16 s1) :: []))) ∧
 ((((AV.int IntKind.i64 f) :: []) = ((AV.int IntKind.i64 f) :: [])) ∧
 (((AV.int IntKind.i64 a) = (AV.int IntKind.i64 a)) ∧
 (((AV.ptr (0 : Nat) (2 : Nat) (0 : Nat)) = (AV.ptr (0 : Nat) (2 : Nat) (0 : Nat))) ∧
 (((AV.int IntKind.i64 (1 : Int)) = (AV.int IntKind.i64 (1 : Int))) ∧
 (((AV.int IntKind.i64 b) = (AV.int IntKind.i64 b)) ∧
 (((AV.agg ((AV.sl (1 : Nat) (1 : Nat) (0 : Nat) (1 : Nat) (1 : Nat)) :: ((AV.lst (0 : Nat) (List.take (((Int.toNat n_5) - (0 : Nat)) * (1 : Nat)) (List.drop (0 : Nat) (cellsI rr))) ((Int.toNat n_5) - (0 : Nat)) (1 : Nat)) :: []))) = (AV.agg ((AV.sl (1 : Nat) (1 : Nat) (0 : Nat) (1 : Nat) (1 : Nat)) :: ((AV.lst (0 : Nat) (List.take (((Int.toNat n_5) - (0 : Nat)) * (1 : Nat)) (List.drop (0 : Nat) (cellsI rr))) ((Int.toNat n_5) - (0 : Nat)) (1 : Nat)) :: [])))) ∧
 True)))))))))) ∨
 (∃ y_10 : Nat, ((Lf True) ∧
 (((0 : Nat) < (2 : Nat)) ∧
 ((((AV.int IntKind.u16 s0) :: ((AV.int IntKind.u16 s1) :: [])) = ((AV.int IntKind.u16 s0) :: ((AV.int IntKind.u16 s1) :: []))) ∧
 ((((AV.int IntKind.i64 f) :: []) = ((AV.int IntKind.i64 f) :: [])) ∧
 (((AV.int IntKind.i64 a) = (AV.int IntKind.i64 a)) ∧
 (((AV.ptr (0 : Nat) (2 : Nat) (0 : Nat)) = (AV.ptr (0 : Nat) (2 : Nat) (0 : Nat))) ∧
 (((AV.int IntKind.i64 (1 : Int)) = (AV.int IntKind.i64 (2 : Int))) ∧
 (((AV.int IntKind.i64 b) = (AV.int IntKind.i64 b)) ∧
 (((AV.agg ((AV.sl (1 : Nat) (1 : Nat) (0 : Nat) (1 : Nat) (1 : Nat)) :: ((AV.lst (0 : Nat) (List.take (((Int.toNat n_5) - (0 : Nat)) * (1 : Nat)) (List.drop (0 : Nat) (cellsI rr))) ((Int.toNat n_5) - (0 : Nat)) (1 : Nat)) :: []))) = (AV.agg ((AV.sl (1 : Nat) (1 : Nat) (0 : Nat) (1 : Nat) (1 : Nat)) :: ((AV.lst (0 : Nat) (List.take (((Int.toNat n_5) - (0 : Nat)) * (1 : Nat)) (List.drop (0 : Nat) (cellsI rr))) ((Int.toNat n_5) - (0 : Nat)) (1 : Nat)) :: [])))) ∧
 True)))))))))))))))))))))))))) ∧
 ((Nat →
((Lf True) →
(∃ xs_6 : (List Int), ((Lf (((List.take (((Int.toNat n_5) - (0 : Nat)) * (1 : Nat)) (List.drop (0 : Nat) (cellsI rr))) = (cellsI xs_6)) ∧
 ((((Int.toNat n_5) - (0 : Nat)) = (List.length xs_6)) ∧
 ((List.length xs_6) ≤ (4611686018427387904 : Nat))))) ∧
 (∃ n_7 : Int, (((AV.int IntKind.i64 (pairsNM xs_6)) = (AV.int IntKind.i64 n_7)) ∧
 (∃ xs_8 : (List Int), ((Lf (((List.take (((Int.toNat n_5) - (0 : Nat)) * (1 : Nat)) (List.drop (0 : Nat) (cellsI rr))) = (cellsI xs_8)) ∧
 ((((Int.toNat n_5) - (0 : Nat)) = (List.length xs_8)) ∧
 ((List.length xs_8) ≤ (4611686018427387904 : Nat))))) ∧
 (bif (nacksM xs_8) then (bif (n_7 != (0 : Int)) then False
else (∃ xs_9 : (List Int), ((Lf (((List.take (((Int.toNat n_5) - (0 : Nat)) * (1 : Nat)) (List.drop (0 : Nat) (cellsI rr))) = (cellsI xs_9)) ∧
 ((((Int.toNat n_5) - (0 : Nat)) = (List.length xs_9)) ∧
 ((nacksM xs_9) = Bool.true)))) ∧
 (∃ xs_10 : (List (Prod Int Int)), (∃ ys_11 : (List (Prod Int Int)), ((Lf (((cellsPM (pairsEM xs_6)) = (cellsPM xs_10)) ∧
 (((List.length (pairsEM xs_6)) = (List.length xs_10)) ∧
 (((List.length xs_10) ≤ (2305843009213693952 : Nat)) ∧
 (((cellsPM (pairsM xs_9)) = (cellsPM ys_11)) ∧
 (((List.length (pairsM xs_9)) = (List.length ys_11)) ∧
 ((List.length ys_11) ≤ (2305843009213693952 : Nat)))))))) ∧
 (bif (decide (xs_10 = ys_11)) then ((True ∧
 ((0 : Nat) = (0 : Nat))) ∧
 ((∃ y_12 : Nat, ((Lf True) ∧
 (((2 : Nat) < (1 : Nat)) ∧
 ((((AV.int IntKind.u16 s0) :: ((AV.int IntKind.u16 s1) :: [])) = ((AV.int IntKind.u16 s0) :: ((AV.int IntKind.u16 s1) :: []))) ∧
 ((((AV.int IntKind.i64 f) :: []) = ((AV.int IntKind.i64 f) :: [])) ∧
 (((AV.int IntKind.i64 a) = (AV.int IntKind.i64 a)) ∧
 (((AV.ptr (0 : Nat) (2 : Nat) (0 : Nat)) = (AV.ptr (0 : Nat) (2 : Nat) (0 : Nat))) ∧
 (((AV.int IntKind.i64 (2 : Int)) = (AV.int IntKind.i64 (0 : Int))) ∧
 (((AV.int IntKind.i64 b) = (AV.int IntKind.i64 b)) ∧
 (((AV.agg ((AV.sl (1 : Nat) (1 : Nat) (0 : Nat) (1 : Nat) (1 : Nat)) :: ((AV.lst (0 : Nat) (List.take (((Int.toNat n_5) - (0 : Nat)) * (1 : Nat)) (List.drop (0 : Nat) (cellsI rr))) ((Int.toNat n_5) - (0 : Nat)) (1 : Nat)) :: []))) = (AV.agg ((AV.sl (1 : Nat) (1 : Nat) (0 : Nat) (1 : Nat) (1 : Nat)) :: ((AV.lst (0 : Nat) (List.take (((Int.toNat n_5) - (0 : Nat)) * (1 : Nat)) (List.drop (0 : Nat) (cellsI rr))) ((Int.toNat n_5) - (0 : Nat)) (1 : Nat)) :: [])))) ∧
 True)))))))))) ∨
 ((∃ y_12 : Nat, ((Lf True) ∧
 (((1 : Nat) < (1 : Nat)) ∧
 ((((AV.int IntKind.u16 s0) :: ((AV.int IntKind.u16 s1) :: [])) = ((AV.int IntKind.u16 s0) :: ((AV.int IntKind.u16 s1) :: []))) ∧
 ((((AV.int IntKind.i64 f) :: []) = ((AV.int IntKind.i64 f) :: [])) ∧
 (((AV.int IntKind.i64 a) = (AV.int IntKind.i64 a)) ∧
 (((AV.ptr (0 : Nat) (2 : Nat) (0 : Nat)) = (AV.ptr (0 : Nat) (2 : Nat) (0 : Nat))) ∧
 (((AV.int IntKind.i64 (2 : Int)) = (AV.int IntKind.i64 (1 : Int))) ∧
 (((AV.int IntKind.i64 b) = (AV.int IntKind.i64 b)) ∧
 (((AV.agg ((AV.sl (1 : Nat) (1 : Nat) (0 : Nat) (1 : Nat) (1 : Nat)) :: ((AV.lst (0 : Nat) (List.take (((Int.toNat n_5) - (0 : Nat)) * (1 : Nat)) (List.drop (0 : Nat) (cellsI rr))) ((Int.toNat n_5) - (0 : Nat)) (1 : Nat)) :: []))) = (AV.agg ((AV.sl (1 : Nat) (1 : Nat) (0 : Nat) (1 : Nat) (1 : Nat)) :: ((AV.lst (0 : Nat) (List.take (((Int.toNat n_5) - (0 : Nat)) * (1 : Nat)) (List.drop (0 : Nat) (cellsI rr))) ((Int.toNat n_5) - (0 : Nat)) (1 : Nat)) :: [])))) ∧
 True)))))))))) ∨
 (∃ y_12 : Nat, ((Lf True) ∧
 (((0 : Nat) < (1 : Nat)) ∧
 ((((AV.int IntKind.u16 s0) :: ((AV.int IntKind.u16 s1) :: [])) = ((AV.int IntKind.u16 s0) :: ((AV.int IntKind.u16 s1) :: []))) ∧
 ((((AV.int IntKind.i64 f) :: []) = ((AV.int IntKind.i64 f) :: [])) ∧
 (((AV.int IntKind.i64 a) = (AV.int IntKind.i64 a)) ∧
 (((AV.ptr (0 : Nat) (2 : Nat) (0 : Nat)) = (AV.ptr (0 : Nat) (2 : Nat) (0 : Nat))) ∧
 (((AV.int IntKind.i64 (2 : Int)) = (AV.int IntKind.i64 (2 : Int))) ∧
 (((AV.int IntKind.i64 b) = (AV.int IntKind.i64 b)) ∧
 (((AV.agg ((AV.sl (1 : Nat) (1 : Nat) (0 : Nat) (1 : Nat) (1 : Nat)) :: ((AV.lst (0 : Nat) (List.take (((Int.toNat n_5) - (0 : Nat)) * (1 : Nat)) (List.drop (0 : Nat) (cellsI rr))) ((Int.toNat n_5) - (0 : Nat)) (1 : Nat)) :: []))) = (AV.agg ((AV.sl (1 : Nat) (1 : Nat) (0 : Nat) (1 : Nat) (1 : Nat)) :: ((AV.lst (0 : Nat) (List.take (((Int.toNat n_5) - (0 : Nat)) * (1 : Nat)) (List.drop (0 : Nat) (cellsI rr))) ((Int.toNat n_5) - (0 : Nat)) (1 : Nat)) :: [])))) ∧
 True)))))))))))))
else False)))))))
else (bif (n_7 != (240 : Int)) then False
else (∃ n_9 : Int, (((AV.int IntKind.i64 (Nat.cast (List.length (pairsEM xs_6)) : Int)) = (AV.int IntKind.i64 n_9)) ∧
 (bif (decide (n_9 > (0 : Int))) then False
else ((True ∧
 ((0 : Nat) = (0 : Nat))) ∧
 ((∃ y_10 : Nat, ((Lf True) ∧
 (((2 : Nat) < (1 : Nat)) ∧
 ((((AV.int IntKind.u16 s0) :: ((AV.int IntKind.u16 s1) :: [])) = ((AV.int IntKind.u16 s0) :: ((AV.int IntKind.u16 s1) :: []))) ∧
 ((((AV.int IntKind.i64 f) :: []) = ((AV.int IntKind.i64 f) :: [])) ∧
 (((AV.int IntKind.i64 a) = (AV.int IntKind.i64 a)) ∧
 (((AV.ptr (0 : Nat) (2 : Nat) (0 : Nat)) = (AV.ptr (0 : Nat) (2 : Nat) (0 : Nat))) ∧
 (((AV.int IntKind.i64 (2 : Int)) = (AV.int IntKind.i64 (0 : Int))) ∧
 (((AV.int IntKind.i64 b) = (AV.int IntKind.i64 b)) ∧
 (((AV.agg ((AV.sl (1 : Nat) (1 : Nat) (0 : Nat) (1 : Nat) (1 : Nat)) :: ((AV.lst (0 : Nat) (List.take (((Int.toNat n_5) - (0 : Nat)) * (1 : Nat)) (List.drop (0 : Nat) (cellsI rr))) ((Int.toNat n_5) - (0 : Nat)) (1 : Nat)) :: []))) = (AV.agg ((AV.sl (1 : Nat) (1 : Nat) (0 : Nat) (1 : Nat) (1 : Nat)) :: ((AV.lst (0 : Nat) (List.take (((Int.toNat n_5) - (0 : Nat)) * (1 : Nat)) (List.drop (0 : Nat) (cellsI rr))) ((Int.toNat n_5) - (0 : Nat)) (1 : Nat)) :: [])))) ∧
 True)))))))))) ∨
 ((∃ y_10 : Nat, ((Lf True) ∧
 (((1 : Nat) < (1 : Nat)) ∧
 ((((AV.int IntKind.u16 s0) :: ((AV.int IntKind.u16 s1) :: [])) = ((AV.int IntKind.u16 s0) :: ((AV.int IntKind.u16 s1) :: []))) ∧
 ((((AV.int IntKind.i64 f) :: []) = ((AV.int IntKind.i64 f) :: [])) ∧
 (((AV.int IntKind.i64 a) = (AV.int IntKind.i64 a)) ∧
 (((AV.ptr (0 : Nat) (2 : Nat) (0 : Nat)) = (AV.ptr (0 : Nat) (2 : Nat) (0 : Nat))) ∧
 (((AV.int IntKind.i64 (2 : Int)) = (AV.int IntKind.i64 (1 : Int))) ∧
 (((AV.int IntKind.i64 b) = (AV.int IntKind.i64 b)) ∧
 (((AV.agg ((AV.sl (1 : Nat) (1 : Nat) (0 : Nat) (1 : Nat) (1 : Nat)) :: ((AV.lst (0 : Nat) (List.take (((Int.toNat n_5) - (0 : Nat)) * (1 : Nat)) (List.drop (0 : Nat) (cellsI rr))) ((Int.toNat n_5) - (0 : Nat)) (1 : Nat)) :: []))) = (AV.agg ((AV.sl (1 : Nat) (1 : Nat) (0 : Nat) (1 : Nat) (1 : Nat)) :: ((AV.lst (0 : Nat) (List.take (((Int.toNat n_5) - (0 : Nat)) * (1 : Nat)) (List.drop (0 : Nat) (cellsI rr))) ((Int.toNat n_5) - (0 : Nat)) (1 : Nat)) :: [])))) ∧
 True)))))))))) ∨
 (∃ y_10 : Nat, ((Lf True) ∧
 (((0 : Nat) < (1 : Nat)) ∧
 ((((AV.int IntKind.u16 s0) :: ((AV.int IntKind.u16 s1) :: [])) = ((AV.int IntKind.u16 s0) :: ((AV.int IntKind.u16 s1) :: []))) ∧
 ((((AV.int IntKind.i64 f) :: []) = ((AV.int IntKind.i64 f) :: [])) ∧
 (((AV.int IntKind.i64 a) = (AV.int IntKind.i64 a)) ∧
 (((AV.ptr (0 : Nat) (2 : Nat) (0 : Nat)) = (AV.ptr (0 : Nat) (2 : Nat) (0 : Nat))) ∧
 (((AV.int IntKind.i64 (2 : Int)) = (AV.int IntKind.i64 (2 : Int))) ∧
 (((AV.int IntKind.i64 b) = (AV.int IntKind.i64 b)) ∧
 (((AV.agg ((AV.sl (1 : Nat) (1 : Nat) (0 : Nat) (1 : Nat) (1 : Nat)) :: ((AV.lst (0 : Nat) (List.take (((Int.toNat n_5) - (0 : Nat)) * (1 : Nat)) (List.drop (0 : Nat) (cellsI rr))) ((Int.toNat n_5) - (0 : Nat)) (1 : Nat)) :: []))) = (AV.agg ((AV.sl (1 : Nat) (1 : Nat) (0 : Nat) (1 : Nat) (1 : Nat)) :: ((AV.lst (0 : Nat) (List.take (((Int.toNat n_5) - (0 : Nat)) * (1 : Nat)) (List.drop (0 : Nat) (cellsI rr))) ((Int.toNat n_5) - (0 : Nat)) (1 : Nat)) :: [])))) ∧
 True)))))))))))))))))))))))))) ∧
 (Nat →
((Lf True) →
(∃ n_6 : Int, (((AV.int IntKind.i64 (IntKind.wrap IntKind.i64 s0)) = (AV.int IntKind.i64 n_6)) ∧
 (∃ n_7 : Int, (((AV.int IntKind.i64 (IntKind.wrap IntKind.i64 s1)) = (AV.int IntKind.i64 n_7)) ∧
 (∃ n_8 : Int, (((AV.int IntKind.i64 (IntKind.wrap IntKind.i64 s1)) = (AV.int IntKind.i64 n_8)) ∧
 (((∃ x_9 : Nat, ((Lf True) ∧
 ((((AV.int IntKind.u16 s0) :: ((AV.int IntKind.u16 s1) :: [])) = ((AV.int IntKind.u16 s0) :: ((AV.int IntKind.u16 s1) :: []))) ∧
 ((((AV.int IntKind.i64 f) :: []) = ((AV.int IntKind.i64 f) :: [])) ∧
 (((AV.int IntKind.i64 (0 : Int)) = (AV.int IntKind.i64 (0 : Int))) ∧
 (((AV.agg ((AV.int IntKind.i64 a) :: ((AV.int IntKind.i64 b) :: ((AV.int IntKind.i64 n_6) :: ((AV.int IntKind.i64 n_7) :: ((AV.int IntKind.i64 a) :: ((AV.int IntKind.i64 n_8) :: []))))))) = (AV.agg ((AV.int IntKind.i64 a) :: ((AV.int IntKind.i64 b) :: ((AV.int IntKind.i64 n_6) :: ((AV.int IntKind.i64 n_7) :: ((AV.int IntKind.i64 a) :: ((AV.int IntKind.i64 n_8) :: [])))))))) ∧
 True)))))) ∨
 ((∃ x_9 : Nat, ((Lf True) ∧
 ((((AV.int IntKind.u16 s0) :: ((AV.int IntKind.u16 s1) :: [])) = ((AV.int IntKind.u16 s0) :: ((AV.int IntKind.u16 s1) :: []))) ∧
 ((((AV.int IntKind.i64 f) :: []) = ((AV.int IntKind.i64 f) :: [])) ∧
 (((AV.int IntKind.i64 (0 : Int)) = (AV.int IntKind.i64 (1 : Int))) ∧
 (((AV.agg ((AV.int IntKind.i64 a) :: ((AV.int IntKind.i64 b) :: ((AV.int IntKind.i64 n_6) :: ((AV.int IntKind.i64 n_7) :: ((AV.int IntKind.i64 a) :: ((AV.int IntKind.i64 n_8) :: []))))))) = (AV.agg ((AV.int IntKind.i64 a) :: ((AV.int IntKind.i64 b) :: ((AV.int IntKind.i64 n_6) :: ((AV.int IntKind.i64 n_7) :: ((AV.int IntKind.i64 a) :: ((AV.int IntKind.i64 n_8) :: [])))))))) ∧
 True)))))) ∨
 ((∃ x_9 : Nat, ((Lf True) ∧
 ((((AV.int IntKind.u16 s0) :: ((AV.int IntKind.u16 s1) :: [])) = ((AV.int IntKind.u16 s0) :: ((AV.int IntKind.u16 s1) :: []))) ∧
 ((((AV.int IntKind.i64 f) :: []) = ((AV.int IntKind.i64 f) :: [])) ∧
 (((AV.int IntKind.i64 (0 : Int)) = (AV.int IntKind.i64 (2 : Int))) ∧
 (((AV.agg ((AV.int IntKind.i64 a) :: ((AV.int IntKind.i64 b) :: ((AV.int IntKind.i64 n_6) :: ((AV.int IntKind.i64 n_7) :: ((AV.int IntKind.i64 a) :: ((AV.int IntKind.i64 n_8) :: []))))))) = (AV.agg ((AV.int IntKind.i64 a) :: ((AV.int IntKind.i64 b) :: ((AV.int IntKind.i64 n_6) :: ((AV.int IntKind.i64 n_7) :: ((AV.int IntKind.i64 a) :: ((AV.int IntKind.i64 n_8) :: [])))))))) ∧
 True)))))) ∨
 (∃ x_9 : Nat, ((Lf True) ∧
 ((((AV.int IntKind.u16 s0) :: ((AV.int IntKind.u16 s1) :: [])) = ((AV.int IntKind.u16 s0) :: ((AV.int IntKind.u16 s1) :: []))) ∧
 ((((AV.int IntKind.i64 f) :: []) = ((AV.int IntKind.i64 f) :: [])) ∧
 (((AV.int IntKind.i64 (0 : Int)) = (AV.int IntKind.i64 (3 : Int))) ∧
 (((AV.agg ((AV.int IntKind.i64 a) :: ((AV.int IntKind.i64 b) :: ((AV.int IntKind.i64 n_6) :: ((AV.int IntKind.i64 n_7) :: ((AV.int IntKind.i64 a) :: ((AV.int IntKind.i64 n_8) :: []))))))) = (AV.agg ((AV.int IntKind.i64 a) :: ((AV.int IntKind.i64 b) :: ((AV.int IntKind.i64 n_6) :: ((AV.int IntKind.i64 n_7) :: ((AV.int IntKind.i64 a) :: ((AV.int IntKind.i64 n_8) :: [])))))))) ∧
 True))))))))) ∧
 ((Nat →
((Lf True) →
(∀ x_9 : Int, (∀ y_10 : Int, ((Lf ((fracM a b) = (Prod.mk x_9 y_10))) →
(∀ x_11 : Int, (∀ y_12 : Int, ((Lf ((fracM a b) = (Prod.mk x_11 y_12))) →
(bif (x_9 != x_11) then False
else (bif (y_10 != y_12) then False
else ((True ∧
 ((0 : Nat) = (0 : Nat))) ∧
 ((∃ y_13 : Nat, ((Lf True) ∧
 (((3 : Nat) < (3 : Nat)) ∧
 ((((AV.int IntKind.u16 s0) :: ((AV.int IntKind.u16 s1) :: [])) = ((AV.int IntKind.u16 s0) :: ((AV.int IntKind.u16 s1) :: []))) ∧
 ((((AV.int IntKind.i64 f) :: []) = ((AV.int IntKind.i64 f) :: [])) ∧
 (((AV.int IntKind.i64 (1 : Int)) = (AV.int IntKind.i64 (0 : Int))) ∧
 (((AV.agg ((AV.int IntKind.i64 a) :: ((AV.int IntKind.i64 b) :: ((AV.int IntKind.i64 n_6) :: ((AV.int IntKind.i64 n_7) :: ((AV.int IntKind.i64 a) :: ((AV.int IntKind.i64 n_8) :: []))))))) = (AV.agg ((AV.int IntKind.i64 a) :: ((AV.int IntKind.i64 b) :: ((AV.int IntKind.i64 n_6) :: ((AV.int IntKind.i64 n_7) :: ((AV.int IntKind.i64 a) :: ((AV.int IntKind.i64 n_8) :: [])))))))) ∧
 True))))))) ∨
 ((∃ y_13 : Nat, ((Lf True) ∧
 (((2 : Nat) < (3 : Nat)) ∧
 ((((AV.int IntKind.u16 s0) :: ((AV.int IntKind.u16 s1) :: [])) = ((AV.int IntKind.u16 s0) :: ((AV.int IntKind.u16 s1) :: []))) ∧
 ((((AV.int IntKind.i64 f) :: []) = ((AV.int IntKind.i64 f) :: [])) ∧
 (((AV.int IntKind.i64 (1 : Int)) = (AV.int IntKind.i64 (1 : Int))) ∧
 (((AV.agg ((AV.int IntKind.i64 a) :: ((AV.int IntKind.i64 b) :: ((AV.int IntKind.i64 n_6) :: ((AV.int IntKind.i64 n_7) :: ((AV.int IntKind.i64 a) :: ((AV.int IntKind.i64 n_8) :: []))))))) = (AV.agg ((AV.int IntKind.i64 a) :: ((AV.int IntKind.i64 b) :: ((AV.int IntKind.i64 n_6) :: ((AV.int IntKind.i64 n_7) :: ((AV.int IntKind.i64 a) :: ((AV.int IntKind.i64 n_8) :: [])))))))) ∧
 True))))))) ∨
 ((∃ y_13 : Nat, ((Lf True) ∧
 (((1 : Nat) < (3 : Nat)) ∧
 ((((AV.int IntKind.u16 s0) :: ((AV.int IntKind.u16 s1) :: [])) = ((AV.int IntKind.u16 s0) :: ((AV.int IntKind.u16 s1) :: []))) ∧
 ((((AV.int IntKind.i64 f) :: []) = ((AV.int IntKind.i64 f) :: [])) ∧
 (((AV.int IntKind.i64 (1 : Int)) = (AV.int IntKind.i64 (2 : Int))) ∧
 (((AV.agg ((AV.int IntKind.i64 a) :: ((AV.int IntKind.i64 b) :: ((AV.int IntKind.i64 n_6) :: ((AV.int IntKind.i64 n_7) :: ((AV.int IntKind.i64 a) :: ((AV.int IntKind.i64 n_8) :: []))))))) = (AV.agg ((AV.int IntKind.i64 a) :: ((AV.int IntKind.i64 b) :: ((AV.int IntKind.i64 n_6) :: ((AV.int IntKind.i64 n_7) :: ((AV.int IntKind.i64 a) :: ((AV.int IntKind.i64 n_8) :: [])))))))) ∧
 True))))))) ∨
 (∃ y_13 : Nat, ((Lf True) ∧
 (((0 : Nat) < (3 : Nat)) ∧
 ((((AV.int IntKind.u16 s0) :: ((AV.int IntKind.u16 s1) :: [])) = ((AV.int IntKind.u16 s0) :: ((AV.int IntKind.u16 s1) :: []))) ∧
 ((((AV.int IntKind.i64 f) :: []) = ((AV.int IntKind.i64 f) :: [])) ∧
 (((AV.int IntKind.i64 (1 : Int)) = (AV.int IntKind.i64 (3 : Int))) ∧
 (((AV.agg ((AV.int IntKind.i64 a) :: ((AV.int IntKind.i64 b) :: ((AV.int IntKind.i64 n_6) :: ((AV.int IntKind.i64 n_7) :: ((AV.int IntKind.i64 a) :: ((AV.int IntKind.i64 n_8) :: []))))))) = (AV.agg ((AV.int IntKind.i64 a) :: ((AV.int IntKind.i64 b) :: ((AV.int IntKind.i64 n_6) :: ((AV.int IntKind.i64 n_7) :: ((AV.int IntKind.i64 a) :: ((AV.int IntKind.i64 n_8) :: [])))))))) ∧
 True))))))))))))))))))))) ∧
 ((Nat →
((Lf True) →
(∀ x_9 : Int, (∀ y_10 : Int, ((Lf ((fracM n_6 n_7) = (Prod.mk x_9 y_10))) →
(∀ x_11 : Int, (∀ y_12 : Int, ((Lf ((fracM n_6 n_7) = (Prod.mk x_11 y_12))) →
(bif (x_9 != x_11) then False
else (bif (y_10 != y_12) then False
else ((True ∧
 ((0 : Nat) = (0 : Nat))) ∧
 ((∃ y_13 : Nat, ((Lf True) ∧
 (((3 : Nat) < (2 : Nat)) ∧
 ((((AV.int IntKind.u16 s0) :: ((AV.int IntKind.u16 s1) :: [])) = ((AV.int IntKind.u16 s0) :: ((AV.int IntKind.u16 s1) :: []))) ∧
 ((((AV.int IntKind.i64 f) :: []) = ((AV.int IntKind.i64 f) :: [])) ∧
 (((AV.int IntKind.i64 (2 : Int)) = (AV.int IntKind.i64 (0 : Int))) ∧
 (((AV.agg ((AV.int IntKind.i64 a) :: ((AV.int IntKind.i64 b) :: ((AV.int IntKind.i64 n_6) :: ((AV.int IntKind.i64 n_7) :: ((AV.int IntKind.i64 a) :: ((AV.int IntKind.i64 n_8) :: []))))))) = (AV.agg ((AV.int IntKind.i64 a) :: ((AV.int IntKind.i64 b) :: ((AV.int IntKind.i64 n_6) :: ((AV.int IntKind.i64 n_7) :: ((AV.int IntKind.i64 a) :: ((AV.int IntKind.i64 n_8) :: [])))))))) ∧
 True))))))) ∨
 ((∃ y_13 : Nat, ((Lf True) ∧
 (((2 : Nat) < (2 : Nat)) ∧
 ((((AV.int IntKind.u16 s0) :: ((AV.int IntKind.u16 s1) :: [])) = ((AV.int IntKind.u16 s0) :: ((AV.int IntKind.u16 s1) :: []))) ∧
 ((((AV.int IntKind.i64 f) :: []) = ((AV.int IntKind.i64 f) :: [])) ∧
 (((AV.int IntKind.i64 (2 : Int)) = (AV.int IntKind.i64 (1 : Int))) ∧
 (((AV.agg ((AV.int IntKind.i64 a) :: ((AV.int IntKind.i64 b) :: ((AV.int IntKind.i64 n_6) :: ((AV.int IntKind.i64 n_7) :: ((AV.int IntKind.i64 a) :: ((AV.int IntKind.i64 n_8) :: []))))))) = (AV.agg ((AV.int IntKind.i64 a) :: ((AV.int IntKind.i64 b) :: ((AV.int IntKind.i64 n_6) :: ((AV.int IntKind.i64 n_7) :: ((AV.int IntKind.i64 a) :: ((AV.int IntKind.i64 n_8) :: [])))))))) ∧
 True))))))) ∨
 ((∃ y_13 : Nat, ((Lf True) ∧
 (((1 : Nat) < (2 : Nat)) ∧
 ((((AV.int IntKind.u16 s0) :: ((AV.int IntKind.u16 s1) :: [])) = ((AV.int IntKind.u16 s0) :: ((AV.int IntKind.u16 s1) :: []))) ∧
 ((((AV.int IntKind.i64 f) :: []) = ((AV.int IntKind.i64 f) :: [])) ∧
 (((AV.int IntKind.i64 (2 : Int)) = (AV.int IntKind.i64 (2 : Int))) ∧
 (((AV.agg ((AV.int IntKind.i64 a) :: ((AV.int IntKind.i64 b) :: ((AV.int IntKind.i64 n_6) :: ((AV.int IntKind.i64 n_7) :: ((AV.int IntKind.i64 a) :: ((AV.int IntKind.i64 n_8) :: []))))))) = (AV.agg ((AV.int IntKind.i64 a) :: ((AV.int IntKind.i64 b) :: ((AV.int IntKind.i64 n_6) :: ((AV.int IntKind.i64 n_7) :: ((AV.int IntKind.i64 a) :: ((AV.int IntKind.i64 n_8) :: [])))))))) ∧
 True))))))) ∨
 (∃ y_13 : Nat, ((Lf True) ∧
 (((0 : Nat) < (2 : Nat)) ∧
 ((((AV.int IntKind.u16 s0) :: ((AV.int IntKind.u16 s1) :: [])) = ((AV.int IntKind.u16 s0) :: ((AV.int IntKind.u16 s1) :: []))) ∧
 ((((AV.int IntKind.i64 f) :: []) = ((AV.int IntKind.i64 f) :: [])) ∧
 (((AV.int IntKind.i64 (2 : Int)) = (AV.int IntKind.i64 (3 : Int))) ∧
 (((AV.agg ((AV.int IntKind.i64 a) :: ((AV.int IntKind.i64 b) :: ((AV.int IntKind.i64 n_6) :: ((AV.int IntKind.i64 n_7) :: ((AV.int IntKind.i64 a) :: ((AV.int IntKind.i64 n_8) :: []))))))) = (AV.agg ((AV.int IntKind.i64 a) :: ((AV.int IntKind.i64 b) :: ((AV.int IntKind.i64 n_6) :: ((AV.int IntKind.i64 n_7) :: ((AV.int IntKind.i64 a) :: ((AV.int IntKind.i64 n_8) :: [])))))))) ∧
 True))))))))))))))))))))) ∧
 ((Nat →
((Lf True) →
(∀ x_9 : Int, (∀ y_10 : Int, ((Lf ((fracM a n_8) = (Prod.mk x_9 y_10))) →
(∀ x_11 : Int, (∀ y_12 : Int, ((Lf ((fracM a n_8) = (Prod.mk x_11 y_12))) →
(bif (x_9 != x_11) then False
else (bif (y_10 != y_12) then False
else ((True ∧
 ((0 : Nat) = (0 : Nat))) ∧
 ((∃ y_13 : Nat, ((Lf True) ∧
 (((3 : Nat) < (1 : Nat)) ∧
 ((((AV.int IntKind.u16 s0) :: ((AV.int IntKind.u16 s1) :: [])) = ((AV.int IntKind.u16 s0) :: ((AV.int IntKind.u16 s1) :: []))) ∧
 ((((AV.int IntKind.i64 f) :: []) = ((AV.int IntKind.i64 f) :: [])) ∧
 (((AV.int IntKind.i64 (3 : Int)) = (AV.int IntKind.i64 (0 : Int))) ∧
 (((AV.agg ((AV.int IntKind.i64 a) :: ((AV.int IntKind.i64 b) :: ((AV.int IntKind.i64 n_6) :: ((AV.int IntKind.i64 n_7) :: ((AV.int IntKind.i64 a) :: ((AV.int IntKind.i64 n_8) :: []))))))) = (AV.agg ((AV.int IntKind.i64 a) :: ((AV.int IntKind.i64 b) :: ((AV.int IntKind.i64 n_6) :: ((AV.int IntKind.i64 n_7) :: ((AV.int IntKind.i64 a) :: ((AV.int IntKind.i64 n_8) :: [])))))))) ∧
 True))))))) ∨
 ((∃ y_13 : Nat, ((Lf True) ∧
 (((2 : Nat) < (1 : Nat)) ∧
 ((((AV.int IntKind.u16 s0) :: ((AV.int IntKind.u16 s1) :: [])) = ((AV.int IntKind.u16 s0) :: ((AV.int IntKind.u16 s1) :: []))) ∧
 ((((AV.int IntKind.i64 f) :: []) = ((AV.int IntKind.i64 f) :: [])) ∧
 (((AV.int IntKind.i64 (3 : Int)) = (AV.int IntKind.i64 (1 : Int))) ∧
 (((AV.agg ((AV.int IntKind.i64 a) :: ((AV.int IntKind.i64 b) :: ((AV.int IntKind.i64 n_6) :: ((AV.int IntKind.i64 n_7) :: ((AV.int IntKind.i64 a) :: ((AV.int IntKind.i64 n_8) :: []))))))) = (AV.agg ((AV.int IntKind.i64 a) :: ((AV.int IntKind.i64 b) :: ((AV.int IntKind.i64 n_6) :: ((AV.int IntKind.i64 n_7) :: ((AV.int IntKind.i64 a) :: ((AV.int IntKind.i64 n_8) :: [])))))))) ∧
 True))))))) ∨
 ((∃ y_13 : Nat, ((Lf True) ∧
 (((1 : Nat) < (1 : Nat)) ∧
 ((((AV.int IntKind.u16 s0) :: ((AV.int IntKind.u16 s1) :: [])) = ((AV.int IntKind.u16 s0) :: ((AV.int IntKind.u16 s1) :: []))) ∧
 ((((AV.int IntKind.i64 f) :: []) = ((AV.int IntKind.i64 f) :: [])) ∧
 (((AV.int IntKind.i64 (3 : Int)) = (AV.int IntKind.i64 (2 : Int))) ∧
 (((AV.agg ((AV.int IntKind.i64 a) :: ((AV.int IntKind.i64 b) :: ((AV.int IntKind.i64 n_6) :: ((AV.int IntKind.i64 n_7) :: ((AV.int IntKind.i64 a) :: ((AV.int IntKind.i64 n_8) :: []))))))) = (AV.agg ((AV.int IntKind.i64 a) :: ((AV.int IntKind.i64 b) :: ((AV.int IntKind.i64 n_6) :: ((AV.int IntKind.i64 n_7) :: ((AV.int IntKind.i64 a) :: ((AV.int IntKind.i64 n_8) :: [])))))))) ∧
 True))))))) ∨
 (∃ y_13 : Nat, ((Lf True) ∧
 (((0 : Nat) < (1 : Nat)) ∧
 ((((AV.int IntKind.u16 s0) :: ((AV.int IntKind.u16 s1) :: [])) = ((AV.int IntKind.u16 s0) :: ((AV.int IntKind.u16 s1) :: []))) ∧
 ((((AV.int IntKind.i64 f) :: []) = ((AV.int IntKind.i64 f) :: [])) ∧
 (((AV.int IntKind.i64 (3 : Int)) = (AV.int IntKind.i64 (3 : Int))) ∧
 (((AV.agg ((AV.int IntKind.i64 a) :: ((AV.int IntKind.i64 b) :: ((AV.int IntKind.i64 n_6) :: ((AV.int IntKind.i64 n_7) :: ((AV.int IntKind.i64 a) :: ((AV.int IntKind.i64 n_8) :: []))))))) = (AV.agg ((AV.int IntKind.i64 a) :: ((AV.int IntKind.i64 b) :: ((AV.int IntKind.i64 n_6) :: ((AV.int IntKind.i64 n_7) :: ((AV.int IntKind.i64 a) :: ((AV.int IntKind.i64 n_8) :: [])))))))) ∧
 True))))))))))))))))))))) ∧
 (Nat →
((Lf True) →
True)))))))))))))))))
else False)))))))) ∧
 (∀ x_4 : Nat, ((Lf (((1 : Nat) ≤ x_4) ∧
 (x_4 ≤ (List.length ks)))) →
(bif (decide ((Nat.cast x_4 : Int) < (Nat.cast (List.length ks) : Int))) then (bif ((Nat.blt (Int.toNat (Nat.cast x_4 : Int)) (List.length ks)) && Bool.true) then (bif (Nat.blt ((Int.toNat (Nat.cast x_4 : Int)) * (1 : Nat)) (List.length (cells8M ks))) then (∃ n_5 : Int, (((List.getD (cells8M ks) ((Int.toNat (Nat.cast x_4 : Int)) * (1 : Nat)) AV.undef) = (AV.int IntKind.u8 n_5)) ∧
 (∃ n_6 : Int, (((AV.int IntKind.i64 (at4M f (List.take x_4 ks))) = (AV.int IntKind.i64 n_6)) ∧
 (∃ n_7 : Int, (((AV.int IntKind.u8 (Int.tmod n_5 (24 : Int))) = (AV.int IntKind.u8 n_7)) ∧
 (∃ n_8 : Int, (((AV.int IntKind.i64 (IntKind.wrap IntKind.i64 n_7)) = (AV.int IntKind.i64 n_8)) ∧
 (∃ n_9 : Int, (((AV.int IntKind.i64 (IntKind.wrap IntKind.i64 (n_6 + n_8))) = (AV.int IntKind.i64 n_9)) ∧
 (∃ n_10 : Int, (((AV.int IntKind.i64 (Int.tmod n_9 (65536 : Int))) = (AV.int IntKind.i64 n_10)) ∧
 (bif (((((Nat.beq (List.length (cellsI (l4M f (List.take x_4 ks)))) (x_4 + (1 : Nat))) && Bool.true) && (Nat.beq ((0 : Nat) + ((x_4 + (1 : Nat)) * (1 : Nat))) (x_4 + (1 : Nat)))) && (Nat.ble ((x_4 + (1 : Nat)) + (1 : Nat)) (1099511627776 : Nat))) && (Nat.ble (((x_4 + (1 : Nat)) + (1 : Nat)) * (8 : Nat)) (1099511627776 : Nat))) then (∃ n_11 : Int, (((AV.int IntKind.i64 (IntKind.wrap IntKind.i64 ((Nat.cast x_4 : Int) + (1 : Int)))) = (AV.int IntKind.i64 n_11)) ∧
 ((True ∧
 ((0 : Nat) = (0 : Nat))) ∧
 ((∃ y_12 : Nat, ((Lf True) ∧
 ((((List.length ks) + (1 : Nat)) < ((List.length ks) - x_4)) ∧
 ((((AV.int IntKind.u16 s0) :: ((AV.int IntKind.u16 s1) :: [])) = ((AV.int IntKind.u16 s0) :: ((AV.int IntKind.u16 s1) :: []))) ∧
 ((((AV.int IntKind.i64 f) :: []) = ((AV.int IntKind.i64 f) :: [])) ∧
 False))))) ∨
 (∃ y_12 : Nat, ((Lf (((1 : Nat) ≤ y_12) ∧
 (y_12 ≤ (List.length ks)))) ∧
 ((((List.length ks) - y_12) < ((List.length ks) - x_4)) ∧
 ((((AV.int IntKind.u16 s0) :: ((AV.int IntKind.u16 s1) :: [])) = ((AV.int IntKind.u16 s0) :: ((AV.int IntKind.u16 s1) :: []))) ∧
 ((((AV.int IntKind.i64 f) :: []) = ((AV.int IntKind.i64 f) :: [])) ∧
 ((((cellsI (l4M f (List.take x_4 ks))) ++ ((AV.int IntKind.i64 n_10) :: [])) = (cellsI (l4M f (List.take y_12 ks)))) ∧
 (((AV.int IntKind.i64 a) = (AV.int IntKind.i64 a)) ∧
 (((AV.ptr (0 : Nat) (2 : Nat) (0 : Nat)) = (AV.ptr (0 : Nat) (2 : Nat) (0 : Nat))) ∧
 (((AV.lst (0 : Nat) (cells8M ks) (List.length ks) (1 : Nat)) = (AV.lst (0 : Nat) (cells8M ks) (List.length ks) (1 : Nat))) ∧
 (((AV.int IntKind.i64 n_10) = (AV.int IntKind.i64 (at4M f (List.take y_12 ks)))) ∧
 (((AV.int IntKind.i64 n_11) = (AV.int IntKind.i64 (Nat.cast y_12 : Int))) ∧
 (((AV.lst (0 : Nat) (cellsI rr) (List.length rr) (1 : Nat)) = (AV.lst (0 : Nat) (cellsI rr) (List.length rr) (1 : Nat))) ∧
 (((AV.int IntKind.i64 b) = (AV.int IntKind.i64 b)) ∧
 (((AV.int IntKind.i64 (Nat.cast (List.length ks) : Int)) = (AV.int IntKind.i64 (Nat.cast (List.length ks) : Int))) ∧
 (((AV.sl (2 : Nat) ((x_4 + (1 : Nat)) + (1 : Nat)) (0 : Nat) ((x_4 + (1 : Nat)) + (1 : Nat)) (1 : Nat)) = (AV.sl (2 : Nat) (y_12 + (1 : Nat)) (0 : Nat) (y_12 + (1 : Nat)) (1 : Nat))) ∧
 True)))))))))))))))))))
else False)))))))))))))
else False)
else False)
else (∃ n_5 : Int, (((AV.int IntKind.i64 (Nat.cast (List.length rr) : Int)) = (AV.int IntKind.i64 n_5)) ∧
 (∃ n_6 : Int, (((AV.int IntKind.i64 (imin n_5 (66 : Int))) = (AV.int IntKind.i64 n_6)) ∧
 (bif ((((decide ((0 : Int) ≤ n_6)) && Bool.true) && (Nat.ble (Int.toNat n_6) (List.length rr))) && Bool.true) then (((∃ x_7 : Nat, ((Lf True) ∧
 ((((AV.int IntKind.u16 s0) :: ((AV.int IntKind.u16 s1) :: [])) = ((AV.int IntKind.u16 s0) :: ((AV.int IntKind.u16 s1) :: []))) ∧
 ((((AV.int IntKind.i64 f) :: []) = ((AV.int IntKind.i64 f) :: [])) ∧
 (((cellsI (l4M f (List.take x_4 ks))) = (cellsI (l4M f (List.take x_4 ks)))) ∧
 (((AV.int IntKind.i64 a) = (AV.int IntKind.i64 a)) ∧
 (((AV.ptr (0 : Nat) (2 : Nat) (0 : Nat)) = (AV.ptr (0 : Nat) (2 : Nat) (0 : Nat))) ∧
 (((AV.int IntKind.i64 (0 : Int)) = (AV.int IntKind.i64 (0 : Int))) ∧
 (((AV.int IntKind.i64 b) = (AV.int IntKind.i64 b)) ∧
 (((AV.agg ((AV.sl (2 : Nat) (x_4 + (1 : Nat)) (0 : Nat) (x_4 + (1 : Nat)) (1 : Nat)) :: ((AV.lst (0 : Nat) (List.take (((Int.toNat n_6) - (0 : Nat)) * (1 : Nat)) (List.drop (0 : Nat) (cellsI rr))) ((Int.toNat n_6) - (0 : Nat)) (1 : Nat)) :: []))) = (AV.agg ((AV.sl (2 : Nat) (x_4 + (1 : Nat)) (0 : Nat) (x_4 + (1 : Nat)) (1 : Nat)) :: ((AV.lst (0 : Nat) (List.take (((Int.toNat n_6) - (0 : Nat)) * (1 : Nat)) (List.drop (0 : Nat) (cellsI rr))) ((Int.toNat n_6) - (0 : Nat)) (1 : Nat)) :: [])))) ∧
 True)))))))))) ∨
 ((∃ x_7 : Nat, ((Lf True) ∧
 ((((AV.int IntKind.u16 s0) :: ((AV.int IntKind.u16 s1) :: [])) = ((AV.int IntKind.u16 s0) :: ((AV.int IntKind.u16 s1) :: []))) ∧
 ((((AV.int IntKind.i64 f) :: []) = ((AV.int IntKind.i64 f) :: [])) ∧
 (((cellsI (l4M f (List.take x_4 ks))) = (cellsI (l4M f (List.take x_4 ks)))) ∧
 (((AV.int IntKind.i64 a) = (AV.int IntKind.i64 a)) ∧
 (((AV.ptr (0 : Nat) (2 : Nat) (0 : Nat)) = (AV.ptr (0 : Nat) (2 : Nat) (0 : Nat))) ∧
 (((AV.int IntKind.i64 (0 : Int)) = (AV.int IntKind.i64 (1 : Int))) ∧
 (((AV.int IntKind.i64 b) = (AV.int IntKind.i64 b)) ∧
 (((AV.agg ((AV.sl (2 : Nat) (x_4 + (1 : Nat)) (0 : Nat) (x_4 + (1 : Nat)) (1 : Nat)) :: ((AV.lst (0 : Nat) (List.take (((Int.toNat n_6) - (0 : Nat)) * (1 : Nat)) (List.drop (0 : Nat) (cellsI rr))) ((Int.toNat n_6) - (0 : Nat)) (1 : Nat)) :: []))) = (AV.agg ((AV.sl (2 : Nat) (x_4 + (1 : Nat)) (0 : Nat) (x_4 + (1 : Nat)) (1 : Nat)) :: ((AV.lst (0 : Nat) (List.take (((Int.toNat n_6) - (0 : Nat)) * (1 : Nat)) (List.drop (0 : Nat) (cellsI rr))) ((Int.toNat n_6) - (0 : Nat)) (1 : Nat)) :: [])))) ∧
 True)))))))))) ∨
 (∃ x_7 : Nat, ((Lf True) ∧
 ((((AV.int IntKind.u16 s0) :: ((AV.int IntKind.u16 s1) :: [])) = ((AV.int IntKind.u16 s0) :: ((AV.int IntKind.u16 s1) :: []))) ∧
 ((((AV.int IntKind.i64 f) :: []) = ((AV.int IntKind.i64 f) :: [])) ∧
 (((cellsI (l4M f (List.take x_4 ks))) = (cellsI (l4M f (List.take x_4 ks)))) ∧
 (((AV.int IntKind.i64 a) = (AV.int IntKind.i64 a)) ∧
 (((AV.ptr (0 : Nat) (2 : Nat) (0 : Nat)) = (AV.ptr (0 : Nat) (2 : Nat) (0 : Nat))) ∧
 (((AV.int IntKind.i64 (0 : Int)) = (AV.int IntKind.i64 (2 : Int))) ∧
 (((AV.int IntKind.i64 b) = (AV.int IntKind.i64 b)) ∧
 (((AV.agg ((AV.sl (2 : Nat) (x_4 + (1 : Nat)) (0 : Nat) (x_4 + (1 : Nat)) (1 : Nat)) :: ((AV.lst (0 : Nat) (List.take (((Int.toNat n_6) - (0 : Nat)) * (1 : Nat)) (List.drop (0 : Nat) (cellsI rr))) ((Int.toNat n_6) - (0 : Nat)) (1 : Nat)) :: []))) = (AV.agg ((AV.sl (2 : Nat) (x_4 + (1 : Nat)) (0 : Nat) (x_4 + (1 : Nat)) (1 : Nat)) :: ((AV.lst (0 : Nat) (List.take (((Int.toNat n_6) - (0 : Nat)) * (1 : Nat)) (List.drop (0 : Nat) (cellsI rr))) ((Int.toNat n_6) - (0 : Nat)) (1 : Nat)) :: [])))) ∧
 True)))))))))))) ∧
 ((Nat →
((Lf True) →
(bif (((Nat.beq (List.length (cellsI (l4M f (List.take x_4 ks)))) (x_4 + (1 : Nat))) && (Nat.ble ((0 : Nat) + ((x_4 + (1 : Nat)) * (1 : Nat))) (x_4 + (1 : Nat)))) && Bool.true) then (∃ xs_7 : (List Int), ((Lf (((List.map (fun x_8 : AV => (frzV (1 : Nat) ((Blk.mk BK.exact Bool.true ((AV.int IntKind.u16 s0) :: ((AV.int IntKind.u16 s1) :: []))) :: ((Blk.mk BK.exact Bool.true ((AV.int IntKind.i64 f) :: [])) :: ((Blk.mk BK.grow Bool.true (cellsI (l4M f (List.take x_4 ks)))) :: []))) (8 : Nat) x_8)) (List.take ((x_4 + (1 : Nat)) * (1 : Nat)) (List.drop (0 : Nat) (cellsI (l4M f (List.take x_4 ks)))))) = (cellsI xs_7)) ∧
 (((x_4 + (1 : Nat)) = (List.length xs_7)) ∧
 ((List.length xs_7) ≤ (4611686018427387904 : Nat))))) ∧
 (∃ n_8 : Int, (((AV.int IntKind.i64 (pairsNM xs_7)) = (AV.int IntKind.i64 n_8)) ∧
 (bif (((Nat.beq (List.length (cellsI (l4M f (List.take x_4 ks)))) (x_4 + (1 : Nat))) && (Nat.ble ((0 : Nat) + ((x_4 + (1 : Nat)) * (1 : Nat))) (x_4 + (1 : Nat)))) && Bool.true) then (∃ xs_9 : (List Int), ((Lf (((List.map (fun x_10 : AV => (frzV (1 : Nat) ((Blk.mk BK.exact Bool.true ((AV.int IntKind.u16 s0) :: ((AV.int IntKind.u16 s1) :: []))) :: ((Blk.mk BK.exact Bool.true ((AV.int IntKind.i64 f) :: [])) :: ((Blk.mk BK.grow Bool.true (cellsI (l4M f (List.take x_4 ks)))) :: []))) (8 : Nat) x_10)) (List.take ((x_4 + (1 : Nat)) * (1 : Nat)) (List.drop (0 : Nat) (cellsI (l4M f (List.take x_4 ks)))))) = (cellsI xs_9)) ∧
 (((x_4 + (1 : Nat)) = (List.length xs_9)) ∧
 ((List.length xs_9) ≤ (4611686018427387904 : Nat))))) ∧
 (bif (nacksM xs_9) then (bif (n_8 != (0 : Int)) then False
else (bif (((Nat.beq (List.length (cellsI (l4M f (List.take x_4 ks)))) (x_4 + (1 : Nat))) && (Nat.ble ((0 : Nat) + ((x_4 + (1 : Nat)) * (1 : Nat))) (x_4 + (1 : Nat)))) && Bool.true) then (∃ xs_10 : (List Int), ((Lf (((List.map (fun x_11 : AV => (frzV (1 : Nat) ((Blk.mk BK.exact Bool.true ((AV.int IntKind.u16 s0) :: ((AV.int IntKind.u16 s1) :: []))) :: ((Blk.mk BK.exact Bool.true ((AV.int IntKind.i64 f) :: [])) :: ((Blk.mk BK.grow Bool.true (cellsI (l4M f (List.take x_4 ks)))) :: []))) (8 : Nat) x_11)) (List.take ((x_4 + (1 : Nat)) * (1 : Nat)) (List.drop (0 : Nat) (cellsI (l4M f (List.take x_4 ks)))))) = (cellsI xs_10)) ∧
 (((x_4 + (1 : Nat)) = (List.length xs_10)) ∧
 ((nacksM xs_10) = Bool.true)))) ∧
 (∃ xs_11 : (List (Prod Int Int)), (∃ ys_12 : (List (Prod Int Int)), ((Lf (((cellsPM (pairsEM xs_7)) = (cellsPM xs_11)) ∧
 (((List.length (pairsEM xs_7)) = (List.length xs_11)) ∧
 (((List.length xs_11) ≤ (2305843009213693952 : Nat)) ∧
 (((cellsPM (pairsM xs_10)) = (cellsPM ys_12)) ∧
 (((List.length (pairsM xs_10)) = (List.length ys_12)) ∧
 ((List.length ys_12) ≤ (2305843009213693952 : Nat)))))))) ∧
 (bif (decide (xs_11 = ys_12)) then ((True ∧
 ((0 : Nat) = (0 : Nat))) ∧
 ((∃ y_13 : Nat, ((Lf True) ∧
 (((2 : Nat) < (2 : Nat)) ∧
 ((((AV.int IntKind.u16 s0) :: ((AV.int IntKind.u16 s1) :: [])) = ((AV.int IntKind.u16 s0) :: ((AV.int IntKind.u16 s1) :: []))) ∧
 ((((AV.int IntKind.i64 f) :: []) = ((AV.int IntKind.i64 f) :: [])) ∧
 (((cellsI (l4M f (List.take x_4 ks))) = (cellsI (l4M f (List.take x_4 ks)))) ∧
 (((AV.int IntKind.i64 a) = (AV.int IntKind.i64 a)) ∧
 (((AV.ptr (0 : Nat) (2 : Nat) (0 : Nat)) = (AV.ptr (0 : Nat) (2 : Nat) (0 : Nat))) ∧
 (((AV.int IntKind.i64 (1 : Int)) = (AV.int IntKind.i64 (0 : Int))) ∧
 (((AV.int IntKind.i64 b) = (AV.int IntKind.i64 b)) ∧
 (((AV.agg ((AV.sl (2 : Nat) (x_4 + (1 : Nat)) (0 : Nat) (x_4 + (1 : Nat)) (1 : Nat)) :: ((AV.lst (0 : Nat) (List.take (((Int.toNat n_6) - (0 : Nat)) * (1 : Nat)) (List.drop (0 : Nat) (cellsI rr))) ((Int.toNat n_6) - (0 : Nat)) (1 : Nat)) :: []))) = (AV.agg ((AV.sl (2 : Nat) (x_4 + (1 : Nat)) (0 : Nat) (x_4 + (1 : Nat)) (1 : Nat)) :: ((AV.lst (0 : Nat) (List.take (((Int.toNat n_6) - (0 : Nat)) * (1 : Nat)) (List.drop (0 : Nat) (cellsI rr))) ((Int.toNat n_6) - (0 : Nat)) (1 : Nat)) :: [])))) ∧
 True))))))))))) ∨
 ((∃ y_13 : Nat, ((Lf True) ∧
 (((1 : Nat) < (2 : Nat)) ∧
 ((((AV.int IntKind.u16 s0) :: ((AV.int IntKind.u16 s1) :: [])) = ((AV.int IntKind.u16 s0) :: ((AV.int IntKind.u16 s1) :: []))) ∧
 ((((AV.int IntKind.i64 f) :: []) = ((AV.int IntKind.i64 f) :: [])) ∧
 (((cellsI (l4M f (List.take x_4 ks))) = (cellsI (l4M f (List.take x_4 ks)))) ∧
 (((AV.int IntKind.i64 a) = (AV.int IntKind.i64 a)) ∧
 (((AV.ptr (0 : Nat) (2 : Nat) (0 : Nat)) = (AV.ptr (0 : Nat) (2 : Nat) (0 : Nat))) ∧
 (((AV.int IntKind.i64 (1 : Int)) = (AV.int IntKind.i64 (1 : Int))) ∧
 (((AV.int IntKind.i64 b) = (AV.int IntKind.i64 b)) ∧
 (((AV.agg ((AV.sl (2 : Nat) (x_4 + (1 : Nat)) (0 : Nat) (x_4 + (1 : Nat)) (1 : Nat)) :: ((AV.lst (0 : Nat) (List.take (((Int.toNat n_6) - (0 : Nat)) * (1 : Nat)) (List.drop (0 : Nat) (cellsI rr))) ((Int.toNat n_6) - (0 : Nat)) (1 : Nat)) :: []))) = (AV.agg ((AV.sl (2 : Nat) (x_4 + (1 : Nat)) (0 : Nat) (x_4 + (1 : Nat)) (1 : Nat)) :: ((AV.lst (0 : Nat) (List.take (((Int.toNat n_6) - (0 : Nat)) * (1 : Nat)) (List.drop (0 : Nat) (cellsI rr))) ((Int.toNat n_6) - (0 : Nat)) (1 : Nat)) :: [])))) ∧
 True))))))))))) ∨
 (∃ y_13 : Nat, ((Lf True) ∧
 (((0 : Nat) < (2 : Nat)) ∧
 ((((AV.int IntKind.u16 s0) :: ((AV.int IntKind.u16 s1) :: [])) = ((AV.int IntKind.u16 s0) :: ((AV.int IntKind.u16 s1) :: []))) ∧
 ((((AV.int IntKind.i64 f) :: []) = ((AV.int IntKind.i64 f) :: [])) ∧
 (((cellsI (l4M f (List.take x_4 ks))) = (cellsI (l4M f (List.take x_4 ks)))) ∧
 (((AV.int IntKind.i64 a) = (AV.int IntKind.i64 a)) ∧
 (((AV.ptr (0 : Nat) (2 : Nat) (0 : Nat)) = (AV.ptr (0 : Nat) (2 : Nat) (0 : Nat))) ∧
 (((AV.int IntKind.i64 (1 : Int)) = (AV.int IntKind.i64 (2 : Int))) ∧
 (((AV.int IntKind.i64 b) = (AV.int IntKind.i64 b)) ∧
 (((AV.agg ((AV.sl (2 : Nat) (x_4 + (1 : Nat)) (0 : Nat) (x_4 + (1 : Nat)) (1 : Nat)) :: ((AV.lst (0 : Nat) (List.take (((Int.toNat n_6) - (0 : Nat)) * (1 : Nat)) (List.drop (0 : Nat) (cellsI rr))) ((Int.toNat n_6) - (0 : Nat)) (1 : Nat)) :: []))) = (AV.agg ((AV.sl (2 : Nat) (x_4 + (1 : Nat)) (0 : Nat) (x_4 + (1 : Nat)) (1 : Nat)) :: ((AV.lst (0 : Nat) (List.take (((Int.toNat n_6) - (0 : Nat)) * (1 : Nat)) (List.drop (0 : Nat) (cellsI rr))) ((Int.toNat n_6) - (0 : Nat)) (1 : Nat)) :: [])))) ∧
 True))))))))))))))
else False))))))
else False))
else (bif (n_8 != (240 : Int)) then False
else (∃ n_10 : Int, (((AV.int IntKind.i64 (Nat.cast (List.length (pairsEM xs_7)) : Int)) = (AV.int IntKind.i64 n_10)) ∧
 (bif (decide (n_10 > (0 : Int))) then False
else ((True ∧
 ((0 : Nat) = (0 : Nat))) ∧
 ((∃ y_11 : Nat, ((Lf True) ∧
 (((2 : Nat) < (2 : Nat)) ∧
 ((((AV.int IntKind.u16 s0) :: ((AV.int IntKind.u16 s1) :: [])) = ((AV.int IntKind.u16 s0) :: ((AV.int IntKind.u16 s1) :: []))) ∧
 ((((AV.int IntKind.i64 f) :: []) = ((AV.int IntKind.i64 f) :: [])) ∧
 (((cellsI (l4M f (List.take x_4 ks))) = (cellsI (l4M f (List.take x_4 ks)))) ∧
 (((AV.int IntKind.i64 a) = (AV.int IntKind.i64 a)) ∧
 (((AV.ptr (0 : Nat) (2 : Nat) (0 : Nat)) = (AV.ptr (0 : Nat) (2 : Nat) (0 : Nat))) ∧
 (((AV.int IntKind.i64 (1 : Int)) = (AV.int IntKind.i64 (0 : Int))) ∧
 (((AV.int IntKind.i64 b) = (AV.int IntKind.i64 b)) ∧
 (((AV.agg ((AV.sl (2 : Nat) (x_4 + (1 : Nat)) (0 : Nat) (x_4 + (1 : Nat)) (1 : Nat)) :: ((AV.lst (0 : Nat) (List.take (((Int.toNat n_6) - (0 : Nat)) * (1 : Nat)) (List.drop (0 : Nat) (cellsI rr))) ((Int.toNat n_6) - (0 : Nat)) (1 : Nat)) :: []))) = (AV.agg ((AV.sl (2 : Nat) (x_4 + (1 : Nat)) (0 : Nat) (x_4 + (1 : Nat)) (1 : Nat)) :: ((AV.lst (0 : Nat) (List.take (((Int.toNat n_6) - (0 : Nat)) * (1 : Nat)) (List.drop (0 : Nat) (cellsI rr))) ((Int.toNat n_6) - (0 : Nat)) (1 : Nat)) :: [])))) ∧
 True))))))))))) ∨
 ((∃ y_11 : Nat, ((Lf True) ∧
 (((1 : Nat) < (2 : Nat)) ∧
 ((((AV.int IntKind.u16 s0) :: ((AV.int IntKind.u16 s1) :: [])) = ((AV.int IntKind.u16 s0) :: ((AV.int IntKind.u16 s1) :: []))) ∧
 ((((AV.int IntKind.i64 f) :: []) = ((AV.int IntKind.i64 f) :: [])) ∧
 (((cellsI (l4M f (List.take x_4 ks))) = (cellsI (l4M f (List.take x_4 ks)))) ∧
 (((AV.int IntKind.i64 a) = (AV.int IntKind.i64 a)) ∧
 (((AV.ptr (0 : Nat) (2 : Nat) (0 : Nat)) = (AV.ptr (0 : Nat) (2 : Nat) (0 : Nat))) ∧
 (((AV.int IntKind.i64 (1 : Int)) = (AV.int IntKind.i64 (1 : Int))) ∧
 (((AV.int IntKind.i64 b) = (AV.int IntKind.i64 b)) ∧
 (((AV.agg ((AV.sl (2 : Nat) (x_4 + (1 : Nat)) (0 : Nat) (x_4 + (1 : Nat)) (1 : Nat)) :: ((AV.lst (0 : Nat) (List.take (((Int.toNat n_6) - (0 : Nat)) * (1 : Nat)) (List.drop (0 : Nat) (cellsI rr))) ((Int.toNat n_6) - (0 : Nat)) (1 : Nat)) :: []))) = (AV.agg ((AV.sl (2 : Nat) (x_4 + (1 : Nat)) (0 : Nat) (x_4 + (1 : Nat)) (1 : Nat)) :: ((AV.lst (0 : Nat) (List.take (((Int.toNat n_6) - (0 : Nat)) * (1 : Nat)) (List.drop (0 : Nat) (cellsI rr))) ((Int.toNat n_6) - (0 : Nat)) (1 : Nat)) :: [])))) ∧
 True))))))))))) ∨
 (∃ y_11 : Nat, ((Lf True) ∧
 (((0 : Nat) < (2 : Nat)) ∧
 ((((AV.int IntKind.u16 s0) :: ((AV.int IntKind.u16 s1) :: [])) = ((AV.int IntKind.u16 s0) :: ((AV.int IntKind.u16 s1) :: []))) ∧
 ((((AV.int IntKind.i64 f) :: []) = ((AV.int IntKind.i64 f) :: [])) ∧
 (((cellsI (l4M f (List.take x_4 ks))) = (cellsI (l4M f (List.take x_4 ks)))) ∧
 (((AV.int IntKind.i64 a) = (AV.int IntKind.i64 a)) ∧
 (((AV.ptr (0 : Nat) (2 : Nat) (0 : Nat)) = (AV.ptr (0 : Nat) (2 : Nat) (0 : Nat))) ∧
 (((AV.int IntKind.i64 (1 : Int)) = (AV.int IntKind.i64 (2 : Int))) ∧
 (((AV.int IntKind.i64 b) = (AV.int IntKind.i64 b)) ∧
 (((AV.agg ((AV.sl (2 : Nat) (x_4 + (1 : Nat)) (0 : Nat) (x_4 + (1 : Nat)) (1 : Nat)) :: ((AV.lst (0 : Nat) (List.take (((Int.toNat n_6) - (0 : Nat)) * (1 : Nat)) (List.drop (0 : Nat) (cellsI rr))) ((Int.toNat n_6) - (0 : Nat)) (1 : Nat)) :: []))) = (AV.agg ((AV.sl (2 : Nat) (x_4 + (1 : Nat)) (0 : Nat) (x_4 + (1 : Nat)) (1 : Nat)) :: ((AV.lst (0 : Nat) (List.take (((Int.toNat n_6) - (0 : Nat)) * (1 : Nat)) (List.drop (0 : Nat) (cellsI rr))) ((Int.toNat n_6) - (0 : Nat)) (1 : Nat)) :: [])))) ∧
 True)))))))))))))))))))))
else False)))))
else False))) ∧
 ((Nat →
((Lf True) →
(∃ xs_7 : (List Int), ((Lf (((List.take (((Int.toNat n_6) - (0 : Nat)) * (1 : Nat)) (List.drop (0 : Nat) (cellsI rr))) = (cellsI xs_7)) ∧
 ((((Int.toNat n_6) - (0 : Nat)) = (List.length xs_7)) ∧
 ((List.length xs_7) ≤ (4611686018427387904 : Nat))))) ∧
 (∃ n_8 : Int, (((AV.int IntKind.i64 (pairsNM xs_7)) = (AV.int IntKind.i64 n_8)) ∧
 (∃ xs_9 : (List Int), ((Lf (((List.take (((Int.toNat n_6) - (0 : Nat)) * (1 : Nat)) (List.drop (0 : Nat) (cellsI rr))) = (cellsI xs_9)) ∧
 ((((Int.toNat n_6) - (0 : Nat)) = (List.length xs_9)) ∧
 ((List.length xs_9) ≤ (4611686018427387904 : Nat))))) ∧
 (bif (nacksM xs_9) then (bif (n_8 != (0 : Int)) then False
else (∃ xs_10 : (List Int), ((Lf (((List.take (((Int.toNat n_6) - (0 : Nat)) * (1 : Nat)) (List.drop (0 : Nat) (cellsI rr))) = (cellsI xs_10)) ∧
 ((((Int.toNat n_6) - (0 : Nat)) = (List.length xs_10)) ∧
 ((nacksM xs_10) = Bool.true)))) ∧
 (∃ xs_11 : (List (Prod Int Int)), (∃ ys_12 : (List (Prod Int Int)), ((Lf (((cellsPM (pairsEM xs_7)) = (cellsPM xs_11)) ∧
 (((List.length (pairsEM xs_7)) = (List.length xs_11)) ∧
 (((List.length xs_11) ≤ (2305843009213693952 : Nat)) ∧
 (((cellsPM (pairsM xs_10)) = (cellsPM ys_12)) ∧
 (((List.length (pairsM xs_10)) = (List.length ys_12)) ∧
 ((List.length ys_12) ≤ (2305843009213693952 : Nat)))))))) ∧
 (bif (decide (xs_11 = ys_12)) then ((True ∧
 ((0 : Nat) = (0 : Nat))) ∧
 ((∃ y_13 : Nat, ((Lf True) ∧
 (((2 : Nat) < (1 : Nat)) ∧
 ((((AV.int IntKind.u16 s0) :: ((AV.int IntKind.u16 s1) :: [])) = ((AV.int IntKind.u16 s0) :: ((AV.int IntKind.u16 s1) :: []))) ∧
 ((((AV.int IntKind.i64 f) :: []) = ((AV.int IntKind.i64 f) :: [])) ∧
 (((cellsI (l4M f (List.take x_4 ks))) = (cellsI (l4M f (List.take x_4 ks)))) ∧
 (((AV.int IntKind.i64 a) = (AV.int IntKind.i64 a)) ∧
 (((AV.ptr (0 : Nat) (2 : Nat) (0 : Nat)) = (AV.ptr (0 : Nat) (2 : Nat) (0 : Nat))) ∧
 (((AV.int IntKind.i64 (2 : Int)) = (AV.int IntKind.i64 (0 : Int))) ∧
 (((AV.int IntKind.i64 b) = (AV.int IntKind.i64 b)) ∧
 (((AV.agg ((AV.sl (2 : Nat) (x_4 + (1 : Nat)) (0 : Nat) (x_4 + (1 : Nat)) (1 : Nat)) :: ((AV.lst (0 : Nat) (List.take (((Int.toNat n_6) - (0 : Nat)) * (1 : Nat)) (List.drop (0 : Nat) (cellsI rr))) ((Int.toNat n_6) - (0 : Nat)) (1 : Nat)) :: []))) = (AV.agg ((AV.sl (2 : Nat) (x_4 + (1 : Nat)) (0 : Nat) (x_4 + (1 : Nat)) (1 : Nat)) :: ((AV.lst (0 : Nat) (List.take (((Int.toNat n_6) - (0 : Nat)) * (1 : Nat)) (List.drop (0 : Nat) (cellsI rr))) ((Int.toNat n_6) - (0 : Nat)) (1 : Nat)) :: [])))) ∧
 True))))))))))) ∨
 ((∃ y_13 : Nat, ((Lf True) ∧
 (((1 : Nat) < (1 : Nat)) ∧
 ((((AV.int IntKind.u16 s0) :: ((AV.int IntKind.u16 s1) :: [])) = ((AV.int IntKind.u16 s0) :: ((AV.int IntKind.u16 s1) :: []))) ∧
 ((((AV.int IntKind.i64 f) :: []) = ((AV.int IntKind.i64 f) :: [])) ∧
 (((cellsI (l4M f (List.take x_4 ks))) = (cellsI (l4M f (List.take x_4 ks)))) ∧
 (((AV.int IntKind.i64 a) = (AV.int IntKind.i64 a)) ∧
 (((AV.ptr (0 : Nat) (2 : Nat) (0 : Nat)) = (AV.ptr (0 : Nat) (2 : Nat) (0 : Nat))) ∧
 (((AV.int IntKind.i64 (2 : Int)) = (AV.int IntKind.i64 (1 : Int))) ∧
 (((AV.int IntKind.i64 b) = (AV.int IntKind.i64 b)) ∧
 (((AV.agg ((AV.sl (2 : Nat) (x_4 + (1 : Nat)) (0 : Nat) (x_4 + (1 : Nat)) (1 : Nat)) :: ((AV.lst (0 : Nat) (List.take (((Int.toNat n_6) - (0 : Nat)) * (1 : Nat)) (List.drop (0 : Nat) (cellsI rr))) ((Int.toNat n_6) - (0 : Nat)) (1 : Nat)) :: []))) = (AV.agg ((AV.sl (2 : Nat) (x_4 + (1 : Nat)) (0 : Nat) (x_4 + (1 : Nat)) (1 : Nat)) :: ((AV.lst (0 : Nat) (List.take (((Int.toNat n_6) - (0 : Nat)) * (1 : Nat)) (List.drop (0 : Nat) (cellsI rr))) ((Int.toNat n_6) - (0 : Nat)) (1 : Nat)) :: [])))) ∧
 True))))))))))) ∨
 (∃ y_13 : Nat, ((Lf True) ∧
 (((0 : Nat) < (1 : Nat)) ∧
 ((((AV.int IntKind.u16 s0) :: ((AV.int IntKind.u16 s1) :: [])) = ((AV.int IntKind.u16 s0) :: ((AV.int IntKind.u16 s1) :: []))) ∧
 ((((AV.int IntKind.i64 f) :: []) = ((AV.int IntKind.i64 f) :: [])) ∧
 (((cellsI (l4M f (List.take x_4 ks))) = (cellsI (l4M f (List.take x_4 ks)))) ∧
 (((AV.int IntKind.i64 a) = (AV.int IntKind.i64 a)) ∧
 (((AV.ptr (0 : Nat) (2 : Nat) (0 : Nat)) = (AV.ptr (0 : Nat) (2 : Nat) (0 : Nat))) ∧
 (((AV.int IntKind.i64 (2 : Int)) = (AV.int IntKind.i64 (2 : Int))) ∧
 (((AV.int IntKind.i64 b) = (AV.int IntKind.i64 b)) ∧
 (((AV.agg ((AV.sl (2 : Nat) (x_4 + (1 : Nat)) (0 : Nat) (x_4 + (1 : Nat)) (1 : Nat)) :: ((AV.lst (0 : Nat) (List.take (((Int.toNat n_6) - (0 : Nat)) * (1 : Nat)) (List.drop (0 : Nat) (cellsI rr))) ((Int.toNat n_6) - (0 : Nat)) (1 : Nat)) :: []))) = (AV.agg ((AV.sl (2 : Nat) (x_4 + (1 : Nat)) (0 : Nat) (x_4 + (1 : Nat)) (1 : Nat)) :: ((AV.lst (0 : Nat) (List.take (((Int.toNat n_6) - (0 : Nat)) * (1 : Nat)) (List.drop (0 : Nat) (cellsI rr))) ((Int.toNat n_6) - (0 : Nat)) (1 : Nat)) :: [])))) ∧
 True))))))))))))))
else False)))))))
else (bif (n_8 != (240 : Int)) then False
else (∃ n_10 : Int, (((AV.int IntKind.i64 (Nat.cast (List.length (pairsEM xs_7)) : Int)) = (AV.int IntKind.i64 n_10)) ∧
 (bif (decide (n_10 > (0 : Int))) then False
else ((True ∧
 ((0 : Nat) = (0 : Nat))) ∧
 ((∃ y_11 : Nat, ((Lf True) ∧
 (((2 : Nat) < (1 : Nat)) ∧
 ((((AV.int IntKind.u16 s0) :: ((AV.int IntKind.u16 s1) :: [])) = ((AV.int IntKind.u16 s0) :: ((AV.int IntKind.u16 s1) :: []))) ∧
 ((((AV.int IntKind.i64 f) :: []) = ((AV.int IntKind.i64 f) :: [])) ∧
 (((cellsI (l4M f (List.take x_4 ks))) = (cellsI (l4M f (List.take x_4 ks)))) ∧
 (((AV.int IntKind.i64 a) = (AV.int IntKind.i64 a)) ∧
 (((AV.ptr (0 : Nat) (2 : Nat) (0 : Nat)) = (AV.ptr (0 : Nat) (2 : Nat) (0 : Nat))) ∧
 (((AV.int IntKind.i64 (2 : Int)) = (AV.int IntKind.i64 (0 : Int))) ∧
 (((AV.int IntKind.i64 b) = (AV.int IntKind.i64 b)) ∧
 (((AV.agg ((AV.sl (2 : Nat) (x_4 + (1 : Nat)) (0 : Nat) (x_4 + (1 : Nat)) (1 : Nat)) :: ((AV.lst (0 : Nat) (List.take (((Int.toNat n_6) - (0 : Nat)) * (1 : Nat)) (List.drop (0 : Nat) (cellsI rr))) ((Int.toNat n_6) - (0 : Nat)) (1 : Nat)) :: []))) = (AV.agg ((AV.sl (2 : Nat) (x_4 + (1 : Nat)) (0 : Nat) (x_4 + (1 : Nat)) (1 : Nat)) :: ((AV.lst (0 : Nat) (List.take (((Int.toNat n_6) - (0 : Nat)) * (1 : Nat)) (List.drop (0 : Nat) (cellsI rr))) ((Int.toNat n_6) - (0 : Nat)) (1 : Nat)) :: [])))) ∧
 True))))))))))) ∨
 ((∃ y_11 : Nat, ((Lf True) ∧
 (((1 : Nat) < (1 : Nat)) ∧
 ((((AV.int IntKind.u16 s0) :: ((AV.int IntKind.u16 s1) :: [])) = ((AV.int IntKind.u16 s0) :: ((AV.int IntKind.u16 s1) :: []))) ∧
 ((((AV.int IntKind.i64 f) :: []) = ((AV.int IntKind.i64 f) :: [])) ∧
 (((cellsI (l4M f (List.take x_4 ks))) = (cellsI (l4M f (List.take x_4 ks)))) ∧
 (((AV.int IntKind.i64 a) = (AV.int IntKind.i64 a)) ∧
 (((AV.ptr (0 : Nat) (2 : Nat) (0 : Nat)) = (AV.ptr (0 : Nat) (2 : Nat) (0 : Nat))) ∧
 (((AV.int IntKind.i64 (2 : Int)) = (AV.int IntKind.i64 (1 : Int))) ∧
 (((AV.int IntKind.i64 b) = (AV.int IntKind.i64 b)) ∧
 (((AV.agg ((AV.sl (2 : Nat) (x_4 + (1 : Nat)) (0 : Nat) (x_4 + (1 : Nat)) (1 : Nat)) :: ((AV.lst (0 : Nat) (List.take (((Int.toNat n_6) - (0 : Nat)) * (1 : Nat)) (List.drop (0 : Nat) (cellsI rr))) ((Int.toNat n_6) - (0 : Nat)) (1 : Nat)) :: []))) = (AV.agg ((AV.sl (2 : Nat) (x_4 + (1 : Nat)) (0 : Nat) (x_4 + (1 : Nat)) (1 : Nat)) :: ((AV.lst (0 : Nat) (List.take (((Int.toNat n_6) - (0 : Nat)) * (1 : Nat)) (List.drop (0 : Nat) (cellsI rr))) ((Int.toNat n_6) - (0 : Nat)) (1 : Nat)) :: [])))) ∧
 True))))))))))) ∨
 (∃ y_11 : Nat, ((Lf True) ∧
 (((0 : Nat) < (1 : Nat)) ∧
 ((((AV.int IntKind.u16 s0) :: ((AV.int IntKind.u16 s1) :: [])) = ((AV.int IntKind.u16 s0) :: ((AV.int IntKind.u16 s1) :: []))) ∧
 ((((AV.int IntKind.i64 f) :: []) = ((AV.int IntKind.i64 f) :: [])) ∧
 (((cellsI (l4M f (List.take x_4 ks))) = (cellsI (l4M f (List.take x_4 ks)))) ∧
 (((AV.int IntKind.i64 a) = (AV.int IntKind.i64 a)) ∧
 (((AV.ptr (0 : Nat) (2 : Nat) (0 : Nat)) = (AV.ptr (0 : Nat) (2 : Nat) (0 : Nat))) ∧
 (((AV.int IntKind.i64 (2 : Int)) = (AV.int IntKind.i64 (2 : Int))) ∧
 (((AV.int IntKind.i64 b) = (AV.int IntKind.i64 b)) ∧
 (((AV.agg ((AV.sl (2 : Nat) (x_4 + (1 : Nat)) (0 : Nat) (x_4 + (1 : Nat)) (1 : Nat)) :: ((AV.lst (0 : Nat) (List.take (((Int.toNat n_6) - (0 : Nat)) * (1 : Nat)) (List.drop (0 : Nat) (cellsI rr))) ((Int.toNat n_6) - (0 : Nat)) (1 : Nat)) :: []))) = (AV.agg ((AV.sl (2 : Nat) (x_4 + (1 : Nat)) (0 : Nat) (x_4 + (1 : Nat)) (1 : Nat)) :: ((AV.lst (0 : Nat) (List.take (((Int.toNat n_6) - (0 : Nat)) * (1 : Nat)) (List.drop (0 : Nat) (cellsI rr))) ((Int.toNat n_6) - (0 : Nat)) (1 : Nat)) :: [])))) ∧
 True))))))))))))))))))))))))))) ∧
 (Nat →
((Lf True) →
(∃ n_7 : Int, (((AV.int IntKind.i64 (IntKind.wrap IntKind.i64 s0)) = (AV.int IntKind.i64 n_7)) ∧
 (∃ n_8 : Int, (((AV.int IntKind.i64 (IntKind.wrap IntKind.i64 s1)) = (AV.int IntKind.i64 n_8)) ∧
 (∃ n_9 : Int, (((AV.int IntKind.i64 (IntKind.wrap IntKind.i64 s1)) = (AV.int IntKind.i64 n_9)) ∧
 (((∃ x_10 : Nat, ((Lf True) ∧
 ((((AV.int IntKind.u16 s0) :: ((AV.int IntKind.u16 s1) :: [])) = ((AV.int IntKind.u16 s0) :: ((AV.int IntKind.u16 s1) :: []))) ∧
 ((((AV.int IntKind.i64 f) :: []) = ((AV.int IntKind.i64 f) :: [])) ∧
 (((cellsI (l4M f (List.take x_4 ks))) = (cellsI (l4M f (List.take x_4 ks)))) ∧
 (((AV.int IntKind.i64 (0 : Int)) = (AV.int IntKind.i64 (0 : Int))) ∧
 (((AV.agg ((AV.int IntKind.i64 a) :: ((AV.int IntKind.i64 b) :: ((AV.int IntKind.i64 n_7) :: ((AV.int IntKind.i64 n_8) :: ((AV.int IntKind.i64 a) :: ((AV.int IntKind.i64 n_9) :: []))))))) = (AV.agg ((AV.int IntKind.i64 a) :: ((AV.int IntKind.i64 b) :: ((AV.int IntKind.i64 n_7) :: ((AV.int IntKind.i64 n_8) :: ((AV.int IntKind.i64 a) :: ((AV.int IntKind.i64 n_9) :: [])))))))) ∧
 True))))))) ∨
 ((∃ x_10 : Nat, ((Lf True) ∧
 ((((AV.int IntKind.u16 s0) :: ((AV.int IntKind.u16 s1) :: [])) = ((AV.int IntKind.u16 s0) :: ((AV.int IntKind.u16 s1) :: []))) ∧
 ((((AV.int IntKind.i64 f) :: []) = ((AV.int IntKind.i64 f) :: [])) ∧
 (((cellsI (l4M f (List.take x_4 ks))) = (cellsI (l4M f (List.take x_4 ks)))) ∧
 (((AV.int IntKind.i64 (0 : Int)) = (AV.int IntKind.i64 (1 : Int))) ∧
 (((AV.agg ((AV.int IntKind.i64 a) :: ((AV.int IntKind.i64 b) :: ((AV.int IntKind.i64 n_7) :: ((AV.int IntKind.i64 n_8) :: ((AV.int IntKind.i64 a) :: ((AV.int IntKind.i64 n_9) :: []))))))) = (AV.agg ((AV.int IntKind.i64 a) :: ((AV.int IntKind.i64 b) :: ((AV.int IntKind.i64 n_7) :: ((AV.int IntKind.i64 n_8) :: ((AV.int IntKind.i64 a) :: ((AV.int IntKind.i64 n_9) :: [])))))))) ∧
 True))))))) ∨
 ((∃ x_10 : Nat, ((Lf True) ∧
 ((((AV.int IntKind.u16 s0) :: ((AV.int IntKind.u16 s1) :: [])) = ((AV.int IntKind.u16 s0) :: ((AV.int IntKind.u16 s1) :: []))) ∧
 ((((AV.int IntKind.i64 f) :: []) = ((AV.int IntKind.i64 f) :: [])) ∧
 (((cellsI (l4M f (List.take x_4 ks))) = (cellsI (l4M f (List.take x_4 ks)))) ∧
 (((AV.int IntKind.i64 (0 : Int)) = (AV.int IntKind.i64 (2 : Int))) ∧
 (((AV.agg ((AV.int IntKind.i64 a) :: ((AV.int IntKind.i64 b) :: ((AV.int IntKind.i64 n_7) :: ((AV.int IntKind.i64 n_8) :: ((AV.int IntKind.i64 a) :: ((AV.int IntKind.i64 n_9) :: []))))))) = (AV.agg ((AV.int IntKind.i64 a) :: ((AV.int IntKind.i64 b) :: ((AV.int IntKind.i64 n_7) :: ((AV.int IntKind.i64 n_8) :: ((AV.int IntKind.i64 a) :: ((AV.int IntKind.i64 n_9) :: [])))))))) ∧
 True))))))) ∨
 (∃ x_10 : Nat, ((Lf True) ∧
 ((((AV.int IntKind.u16 s0) :: ((AV.int IntKind.u16 s1) :: [])) = ((AV.int IntKind.u16 s0) :: ((AV.int IntKind.u16 s1) :: []))) ∧
 ((((AV.int IntKind.i64 f) :: []) = ((AV.int IntKind.i64 f) :: [])) ∧
 (((cellsI (l4M f (List.take x_4 ks))) = (cellsI (l4M f (List.take x_4 ks)))) ∧
 (((AV.int IntKind.i64 (0 : Int)) = (AV.int IntKind.i64 (3 : Int))) ∧
 (((AV.agg ((AV.int IntKind.i64 a) :: ((AV.int IntKind.i64 b) :: ((AV.int IntKind.i64 n_7) :: ((AV.int IntKind.i64 n_8) :: ((AV.int IntKind.i64 a) :: ((AV.int IntKind.i64 n_9) :: []))))))) = (AV.agg ((AV.int IntKind.i64 a) :: ((AV.int IntKind.i64 b) :: ((AV.int IntKind.i64 n_7) :: ((AV.int IntKind.i64 n_8) :: ((AV.int IntKind.i64 a) :: ((AV.int IntKind.i64 n_9) :: [])))))))) ∧
 True)))))))))) ∧
 ((Nat →
((Lf True) →
(∀ x_10 : Int, (∀ y_11 : Int, ((Lf ((fracM a b) = (Prod.mk x_10 y_11))) →
(∀ x_12 : Int, (∀ y_13 : Int, ((Lf ((fracM a b) = (Prod.mk x_12 y_13))) →
(bif (x_10 != x_12) then False
else (bif (y_11 != y_13) then False
else ((True ∧
 ((0 : Nat) = (0 : Nat))) ∧
 ((∃ y_14 : Nat, ((Lf True) ∧
 (((3 : Nat) < (3 : Nat)) ∧
 ((((AV.int IntKind.u16 s0) :: ((AV.int IntKind.u16 s1) :: [])) = ((AV.int IntKind.u16 s0) :: ((AV.int IntKind.u16 s1) :: []))) ∧
 ((((AV.int IntKind.i64 f) :: []) = ((AV.int IntKind.i64 f) :: [])) ∧
 (((cellsI (l4M f (List.take x_4 ks))) = (cellsI (l4M f (List.take x_4 ks)))) ∧
 (((AV.int IntKind.i64 (1 : Int)) = (AV.int IntKind.i64 (0 : Int))) ∧
 (((AV.agg ((AV.int IntKind.i64 a) :: ((AV.int IntKind.i64 b) :: ((AV.int IntKind.i64 n_7) :: ((AV.int IntKind.i64 n_8) :: ((AV.int IntKind.i64 a) :: ((AV.int IntKind.i64 n_9) :: []))))))) = (AV.agg ((AV.int IntKind.i64 a) :: ((AV.int IntKind.i64 b) :: ((AV.int IntKind.i64 n_7) :: ((AV.int IntKind.i64 n_8) :: ((AV.int IntKind.i64 a) :: ((AV.int IntKind.i64 n_9) :: [])))))))) ∧
 True)))))))) ∨
 ((∃ y_14 : Nat, ((Lf True) ∧
 (((2 : Nat) < (3 : Nat)) ∧
 ((((AV.int IntKind.u16 s0) :: ((AV.int IntKind.u16 s1) :: [])) = ((AV.int IntKind.u16 s0) :: ((AV.int IntKind.u16 s1) :: []))) ∧
 ((((AV.int IntKind.i64 f) :: []) = ((AV.int IntKind.i64 f) :: [])) ∧
 (((cellsI (l4M f (List.take x_4 ks))) = (cellsI (l4M f (List.take x_4 ks)))) ∧
 (((AV.int IntKind.i64 (1 : Int)) = (AV.int IntKind.i64 (1 : Int))) ∧
 (((AV.agg ((AV.int IntKind.i64 a) :: ((AV.int IntKind.i64 b) :: ((AV.int IntKind.i64 n_7) :: ((AV.int IntKind.i64 n_8) :: ((AV.int IntKind.i64 a) :: ((AV.int IntKind.i64 n_9) :: []))))))) = (AV.agg ((AV.int IntKind.i64 a) :: ((AV.int IntKind.i64 b) :: ((AV.int IntKind.i64 n_7) :: ((AV.int IntKind.i64 n_8) :: ((AV.int IntKind.i64 a) :: ((AV.int IntKind.i64 n_9) :: [])))))))) ∧
 True)))))))) ∨
 ((∃ y_14 : Nat, ((Lf True) ∧
 (((1 : Nat) < (3 : Nat)) ∧
 ((((AV.int IntKind.u16 s0) :: ((AV.int IntKind.u16 s1) :: [])) = ((AV.int IntKind.u16 s0) :: ((AV.int IntKind.u16 s1) :: []))) ∧
 ((((AV.int IntKind.i64 f) :: []) = ((AV.int IntKind.i64 f) :: [])) ∧
 (((cellsI (l4M f (List.take x_4 ks))) = (cellsI (l4M f (List.take x_4 ks)))) ∧
 (((AV.int IntKind.i64 (1 : Int)) = (AV.int IntKind.i64 (2 : Int))) ∧
 (((AV.agg ((AV.int IntKind.i64 a) :: ((AV.int IntKind.i64 b) :: ((AV.int IntKind.i64 n_7) :: ((AV.int IntKind.i64 n_8) :: ((AV.int IntKind.i64 a) :: ((AV.int IntKind.i64 n_9) :: []))))))) = (AV.agg ((AV.int IntKind.i64 a) :: ((AV.int IntKind.i64 b) :: ((AV.int IntKind.i64 n_7) :: ((AV.int IntKind.i64 n_8) :: ((AV.int IntKind.i64 a) :: ((AV.int IntKind.i64 n_9) :: [])))))))) ∧
 True)))))))) ∨
 (∃ y_14 : Nat, ((Lf True) ∧
 (((0 : Nat) < (3 : Nat)) ∧
 ((((AV.int IntKind.u16 s0) :: ((AV.int IntKind.u16 s1) :: [])) = ((AV.int IntKind.u16 s0) :: ((AV.int IntKind.u16 s1) :: []))) ∧
 ((((AV.int IntKind.i64 f) :: []) = ((AV.int IntKind.i64 f) :: [])) ∧
 (((cellsI (l4M f (List.take x_4 ks))) = (cellsI (l4M f (List.take x_4 ks)))) ∧
 (((AV.int IntKind.i64 (1 : Int)) = (AV.int IntKind.i64 (3 : Int))) ∧
 (((AV.agg ((AV.int IntKind.i64 a) :: ((AV.int IntKind.i64 b) :: ((AV.int IntKind.i64 n_7) :: ((AV.int IntKind.i64 n_8) :: ((AV.int IntKind.i64 a) :: ((AV.int IntKind.i64 n_9) :: []))))))) = (AV.agg ((AV.int IntKind.i64 a) :: ((AV.int IntKind.i64 b) :: ((AV.int IntKind.i64 n_7) :: ((AV.int IntKind.i64 n_8) :: ((AV.int IntKind.i64 a) :: ((AV.int IntKind.i64 n_9) :: [])))))))) ∧
 True)))))))))))))))))))))) ∧
 ((Nat →
((Lf True) →
(∀ x_10 : Int, (∀ y_11 : Int, ((Lf ((fracM n_7 n_8) = (Prod.mk x_10 y_11))) →
(∀ x_12 : Int, (∀ y_13 : Int, ((Lf ((fracM n_7 n_8) = (Prod.mk x_12 y_13))) →
(bif (x_10 != x_12) then False
else (bif (y_11 != y_13) then False
else ((True ∧
 ((0 : Nat) = (0 : Nat))) ∧
 ((∃ y_14 : Nat, ((Lf True) ∧
 (((3 : Nat) < (2 : Nat)) ∧
 ((((AV.int IntKind.u16 s0) :: ((AV.int IntKind.u16 s1) :: [])) = ((AV.int IntKind.u16 s0) :: ((AV.int IntKind.u16 s1) :: []))) ∧
 ((((AV.int IntKind.i64 f) :: []) = ((AV.int IntKind.i64 f) :: [])) ∧
 (((cellsI (l4M f (List.take x_4 ks))) = (cellsI (l4M f (List.take x_4 ks)))) ∧
 (((AV.int IntKind.i64 (2 : Int)) = (AV.int IntKind.i64 (0 : Int))) ∧
 (((AV.agg ((AV.int IntKind.i64 a) :: ((AV.int IntKind.i64 b) :: ((AV.int IntKind.i64 n_7) :: ((AV.int IntKind.i64 n_8) :: ((AV.int IntKind.i64 a) :: ((AV.int IntKind.i64 n_9) :: []))))))) = (AV.agg ((AV.int IntKind.i64 a) :: ((AV.int IntKind.i64 b) :: ((AV.int IntKind.i64 n_7) :: ((AV.int IntKind.i64 n_8) :: ((AV.int IntKind.i64 a) :: ((AV.int IntKind.i64 n_9) :: [])))))))) ∧
 True)))))))) ∨
 ((∃ y_14 : Nat, ((Lf True) ∧
 (((2 : Nat) < (2 : Nat)) ∧
 ((((AV.int IntKind.u16 s0) :: ((AV.int IntKind.u16 s1) :: [])) = ((AV.int IntKind.u16 s0) :: ((AV.int IntKind.u16 s1) :: []))) ∧
 ((((AV.int IntKind.i64 f) :: []) = ((AV.int IntKind.i64 f) :: [])) ∧
 (((cellsI (l4M f (List.take x_4 ks))) = (cellsI (l4M f (List.take x_4 ks)))) ∧
 (((AV.int IntKind.i64 (2 : Int)) = (AV.int IntKind.i64 (1 : Int))) ∧
 (((AV.agg ((AV.int IntKind.i64 a) :: ((AV.int IntKind.i64 b) :: ((AV.int IntKind.i64 n_7) :: ((AV.int IntKind.i64 n_8) :: ((AV.int IntKind.i64 a) :: ((AV.int IntKind.i64 n_9) :: []))))))) = (AV.agg ((AV.int IntKind.i64 a) :: ((AV.int IntKind.i64 b) :: ((AV.int IntKind.i64 n_7) :: ((AV.int IntKind.i64 n_8) :: ((AV.int IntKind.i64 a) :: ((AV.int IntKind.i64 n_9) :: [])))))))) ∧
 True)))))))) ∨
 ((∃ y_14 : Nat, ((Lf True) ∧
 (((1 : Nat) < (2 : Nat)) ∧
 ((((AV.int IntKind.u16 s0) :: ((AV.int IntKind.u16 s1) :: [])) = ((AV.int IntKind.u16 s0) :: ((AV.int IntKind.u16 s1) :: []))) ∧
 ((((AV.int IntKind.i64 f) :: []) = ((AV.int IntKind.i64 f) :: [])) ∧
 (((cellsI (l4M f (List.take x_4 ks))) = (cellsI (l4M f (List.take x_4 ks)))) ∧
 (((AV.int IntKind.i64 (2 : Int)) = (AV.int IntKind.i64 (2 : Int))) ∧
 (((AV.agg ((AV.int IntKind.i64 a) :: ((AV.int IntKind.i64 b) :: ((AV.int IntKind.i64 n_7) :: ((AV.int IntKind.i64 n_8) :: ((AV.int IntKind.i64 a) :: ((AV.int IntKind.i64 n_9) :: []))))))) = (AV.agg ((AV.int IntKind.i64 a) :: ((AV.int IntKind.i64 b) :: ((AV.int IntKind.i64 n_7) :: ((AV.int IntKind.i64 n_8) :: ((AV.int IntKind.i64 a) :: ((AV.int IntKind.i64 n_9) :: [])))))))) ∧
 True)))))))) ∨
 (∃ y_14 : Nat, ((Lf True) ∧
 (((0 : Nat) < (2 : Nat)) ∧
 ((((AV.int IntKind.u16 s0) :: ((AV.int IntKind.u16 s1) :: [])) = ((AV.int IntKind.u16 s0) :: ((AV.int IntKind.u16 s1) :: []))) ∧
 ((((AV.int IntKind.i64 f) :: []) = ((AV.int IntKind.i64 f) :: [])) ∧
 (((cellsI (l4M f (List.take x_4 ks))) = (cellsI (l4M f (List.take x_4 ks)))) ∧
 (((AV.int IntKind.i64 (2 : Int)) = (AV.int IntKind.i64 (3 : Int))) ∧
 (((AV.agg ((AV.int IntKind.i64 a) :: ((AV.int IntKind.i64 b) :: ((AV.int IntKind.i64 n_7) :: ((AV.int IntKind.i64 n_8) :: ((AV.int IntKind.i64 a) :: ((AV.int IntKind.i64 n_9) :: []))))))) = (AV.agg ((AV.int IntKind.i64 a) :: ((AV.int IntKind.i64 b) :: ((AV.int IntKind.i64 n_7) :: ((AV.int IntKind.i64 n_8) :: ((AV.int IntKind.i64 a) :: ((AV.int IntKind.i64 n_9) :: [])))))))) ∧
 True)))))))))))))))))))))) ∧
 ((Nat →
((Lf True) →
(∀ x_10 : Int, (∀ y_11 : Int, ((Lf ((fracM a n_9) = (Prod.mk x_10 y_11))) →
(∀ x_12 : Int, (∀ y_13 : Int, ((Lf ((fracM a n_9) = (Prod.mk x_12 y_13))) →
(bif (x_10 != x_12) then False
else (bif (y_11 != y_13) then False
else ((True ∧
 ((0 : Nat) = (0 : Nat))) ∧
 ((∃ y_14 : Nat, ((Lf True) ∧
 (((3 : Nat) < (1 : Nat)) ∧
 ((((AV.int IntKind.u16 s0) :: ((AV.int IntKind.u16 s1) :: [])) = ((AV.int IntKind.u16 s0) :: ((AV.int IntKind.u16 s1) :: []))) ∧
 ((((AV.int IntKind.i64 f) :: []) = ((AV.int IntKind.i64 f) :: [])) ∧
 (((cellsI (l4M f (List.take x_4 ks))) = (cellsI (l4M f (List.take x_4 ks)))) ∧
 (((AV.int IntKind.i64 (3 : Int)) = (AV.int IntKind.i64 (0 : Int))) ∧
 (((AV.agg ((AV.int IntKind.i64 a) :: ((AV.int IntKind.i64 b) :: ((AV.int IntKind.i64 n_7) :: ((AV.int IntKind.i64 n_8) :: ((AV.int IntKind.i64 a) :: ((AV.int IntKind.i64 n_9) :: []))))))) = (AV.agg ((AV.int IntKind.i64 a) :: ((AV.int IntKind.i64 b) :: ((AV.int IntKind.i64 n_7) :: ((AV.int IntKind.i64 n_8) :: ((AV.int IntKind.i64 a) :: ((AV.int IntKind.i64 n_9) :: [])))))))) ∧
 True)))))))) ∨
 ((∃ y_14 : Nat, ((Lf True) ∧
 (((2 : Nat) < (1 : Nat)) ∧
 ((((AV.int IntKind.u16 s0) :: ((AV.int IntKind.u16 s1) :: [])) = ((AV.int IntKind.u16 s0) :: ((AV.int IntKind.u16 s1) :: []))) ∧
 ((((AV.int IntKind.i64 f) :: []) = ((AV.int IntKind.i64 f) :: [])) ∧
 (((cellsI (l4M f (List.take x_4 ks))) = (cellsI (l4M f (List.take x_4 ks)))) ∧
 (((AV.int IntKind.i64 (3 : Int)) = (AV.int IntKind.i64 (1 : Int))) ∧
 (((AV.agg ((AV.int IntKind.i64 a) :: ((AV.int IntKind.i64 b) :: ((AV.int IntKind.i64 n_7) :: ((AV.int IntKind.i64 n_8) :: ((AV.int IntKind.i64 a) :: ((AV.int IntKind.i64 n_9) :: []))))))) = (AV.agg ((AV.int IntKind.i64 a) :: ((AV.int IntKind.i64 b) :: ((AV.int IntKind.i64 n_7) :: ((AV.int IntKind.i64 n_8) :: ((AV.int IntKind.i64 a) :: ((AV.int IntKind.i64 n_9) :: [])))))))) ∧
 True)))))))) ∨
 ((∃ y_14 : Nat, ((Lf True) ∧
 (((1 : Nat) < (1 : Nat)) ∧
 ((((AV.int IntKind.u16 s0) :: ((AV.int IntKind.u16 s1) :: [])) = ((AV.int IntKind.u16 s0) :: ((AV.int IntKind.u16 s1) :: []))) ∧
 ((((AV.int IntKind.i64 f) :: []) = ((AV.int IntKind.i64 f) :: [])) ∧
 (((cellsI (l4M f (List.take x_4 ks))) = (cellsI (l4M f (List.take x_4 ks)))) ∧
 (((AV.int IntKind.i64 (3 : Int)) = (AV.int IntKind.i64 (2 : Int))) ∧
 (((AV.agg ((AV.int IntKind.i64 a) :: ((AV.int IntKind.i64 b) :: ((AV.int IntKind.i64 n_7) :: ((AV.int IntKind.i64 n_8) :: ((AV.int IntKind.i64 a) :: ((AV.int IntKind.i64 n_9) :: []))))))) = (AV.agg ((AV.int IntKind.i64 a) :: ((AV.int IntKind.i64 b) :: ((AV.int IntKind.i64 n_7) :: ((AV.int IntKind.i64 n_8) :: ((AV.int IntKind.i64 a) :: ((AV.int IntKind.i64 n_9) :: [])))))))) ∧
 True)))))))) ∨
 (∃ y_14 : Nat, ((Lf True) ∧
 (((0 : Nat) < (1 : Nat)) ∧
 ((((AV.int IntKind.u16 s0) :: ((AV.int IntKind.u16 s1) :: [])) = ((AV.int IntKind.u16 s0) :: ((AV.int IntKind.u16 s1) :: []))) ∧
 ((((AV.int IntKind.i64 f) :: []) = ((AV.int IntKind.i64 f) :: [])) ∧
 (((cellsI (l4M f (List.take x_4 ks))) = (cellsI (l4M f (List.take x_4 ks)))) ∧
 (((AV.int IntKind.i64 (3 : Int)) = (AV.int IntKind.i64 (3 : Int))) ∧
 (((AV.agg ((AV.int IntKind.i64 a) :: ((AV.int IntKind.i64 b) :: ((AV.int IntKind.i64 n_7) :: ((AV.int IntKind.i64 n_8) :: ((AV.int IntKind.i64 a) :: ((AV.int IntKind.i64 n_9) :: []))))))) = (AV.agg ((AV.int IntKind.i64 a) :: ((AV.int IntKind.i64 b) :: ((AV.int IntKind.i64 n_7) :: ((AV.int IntKind.i64 n_8) :: ((AV.int IntKind.i64 a) :: ((AV.int IntKind.i64 n_9) :: [])))))))) ∧
 True)))))))))))))))))))))) ∧
 (Nat →
((Lf True) →
True)))))))))))))))))
else False))))))))))))
else False)))))))) := by kernel_rfl

end Go.Proofs.YtafchcmemeinlaaDoor

/-
  Chapter 23, the reference: Header, Encoding.
-/
import Derived.Test.YtbchmkhliehbfaaDoorM23N
set_option linter.unusedSimpArgs false
set_option linter.unusedVariables false
set_option linter.unusedSectionVars false
namespace Go.Proofs.YtbchmkhliehbfaaDoor
open Go.RowKit
set_option maxRecDepth 1000000

def smR : SM := lookS [(31, cOct), (35, cExt), (36, cShort)]
theorem smR_ok : ∀ f g, smR f = some g → ValidF Tryd.prog gl0 f g := lookS_ok _ (by simp only [List.mem_cons, List.not_mem_nil, or_false, forall_eq_or_imp, forall_eq]; exact ⟨oct_ok, ext_ok, rshort_ok⟩)
/-- the octets ahead of the extensions, the first numbers of a packet apart -/
def headTM (mk : Bool) (ty seq ti ss : Int) (cs' : List Int) (cs : List Int) (n : Nat) (pad : Int) : List UInt8 := putM 1 [fstM cs n pad, kindM mk ty] ++ putM 2 [seq] ++ putM 4 [ti, ss] ++ putM 4 cs'
section
variable (mk : Bool) (ty seq ti ss : Int) (tc : Nat) (cs : List Int) (tx : Nat) (ex : List Xt) (pad : Int) (pl : List UInt8)
def inv_18 : LInv where
  α := Nat
  pre i := Lf (i ≤ cs.length)
  st i := ⟨mkT [(1, .ptr 0 9 0), (5, .str (headTM mk ty seq ti ss (cs.take i) cs ex.length pad)), (6, .int .i64 (i : Nat))], [⟨.exact, true, medM mk ty seq ti ss tc cs tx ex pad pl⟩]⟩
  mu i := cs.length - i
noncomputable def env_18 (hv : Nat → Option Pa) (hb : Nat → Option Bool) : Env := e23 smR (fun i => bif Nat.beq i 18000 then some (fun _ => [[inv_18 mk ty seq ti ss tc cs tx ex pad pl]]) else none) hv hb
end
noncomputable def goal_18 (hv : Nat → Option Pa) (hb : Nat → Option Bool) (mk : Bool) (ty seq ti ss : Int) (tc : Nat) (cs : List Int) (tx : Nat) (ex : List Xt) (pad : Int) (pl : List UInt8) (Q : Out → List Blk → Gh → Prop) : Prop :=
  callx (env_18 mk ty seq ti ss tc cs tx ex pad pl hv hb) (wpx (env_18 mk ty seq ti ss tc cs tx ex pad pl hv hb) 1000) 18 [.agg (medM mk ty seq ti ss tc cs tx ex pad pl)] [] {} Q
def vc_18_1 (mk : Bool) (ty : Int) (seq : Int) (ti : Int) (ss : Int) (tc : Nat) (cs : List Int) (tx : Nat) (ex : List Xt) (pad : Int) (pl : List UInt8) (Q : Out → List Blk → Gh → Prop) : Prop := (
(∀ x_0 : Nat, ((Lf (x_0 ≤ (List.length cs))) →
(∃ n_1 : Int, (((AV.int .i64 (Nat.cast x_0 : Int)) = (AV.int .i64 n_1)) ∧
 (∃ n_2 : Int, (((AV.int .i64 (Nat.cast (List.length cs) : Int)) = (AV.int .i64 n_2)) ∧
 (bif (decide (n_1 < n_2)) then (∃ s_3 : (List UInt8), (((AV.str (headTM mk ty seq ti ss (List.take x_0 cs) cs (List.length ex) pad)) = (AV.str s_3)) ∧
 (∃ n_4 : Int, (((AV.int .i64 (Nat.cast x_0 : Int)) = (AV.int .i64 n_4)) ∧
 (bif (((decide ((0 : Int) ≤ n_4)) && (Nat.blt (Int.toNat n_4) (List.length cs))) && true) then (bif (Nat.blt ((Int.toNat n_4) * (1 : Nat)) (List.length (cellsI cs))) then (∃ n_5 : Int, (((List.getD (cellsI cs) ((Int.toNat n_4) * (1 : Nat)) AV.undef) = (AV.int .i64 n_5)) ∧
 ((Lf ((((0 : Int) ≤ (4 : Int)) ∧
 ((4 : Int) ≤ (8 : Int))) ∧
 (((0 : Int) ≤ n_5) ∧
 (n_5 ≤ (9223372036854775807 : Int))))) ∧
 (∃ s_6 : (List UInt8), (((AV.str (beM n_5 (4 : Nat))) = (AV.str s_6)) ∧
 (bif ((decide (((List.length s_3) + (List.length s_6)) ≤ (9223372036854775807 : Nat))) && true) then (∃ s_7 : (List UInt8), (((AV.str (s_3 ++ s_6)) = (AV.str s_7)) ∧
 (∃ n_8 : Int, (((AV.int .i64 (Nat.cast x_0 : Int)) = (AV.int .i64 n_8)) ∧
 (∃ n_9 : Int, (((AV.int .i64 (IntKind.wrap .i64 (n_8 + (1 : Int)))) = (AV.int .i64 n_9)) ∧
 ((True ∧
 ((0 : Nat) = (0 : Nat))) ∧
 (∃ y_10 : Nat, ((Lf (y_10 ≤ (List.length cs))) ∧
 ((((List.length cs) - y_10) < ((List.length cs) - x_0)) ∧
 ((((AV.bool mk) :: ((AV.int .i64 ty) :: ((AV.int .i64 seq) :: ((AV.int .i64 ti) :: ((AV.int .i64 ss) :: ((AV.lst tc (cellsI cs) (List.length cs) (1 : Nat)) :: ((AV.lst tx (cellsXM ex) (List.length ex) (2 : Nat)) :: ((AV.int .i64 pad) :: ((AV.str pl) :: []))))))))) = ((AV.bool mk) :: ((AV.int .i64 ty) :: ((AV.int .i64 seq) :: ((AV.int .i64 ti) :: ((AV.int .i64 ss) :: ((AV.lst tc (cellsI cs) (List.length cs) (1 : Nat)) :: ((AV.lst tx (cellsXM ex) (List.length ex) (2 : Nat)) :: ((AV.int .i64 pad) :: ((AV.str pl) :: [])))))))))) ∧
 (((AV.ptr (0 : Nat) (9 : Nat) (0 : Nat)) = (AV.ptr (0 : Nat) (9 : Nat) (0 : Nat))) ∧
 (((AV.str s_7) = (AV.str (headTM mk ty seq ti ss (List.take y_10 cs) cs (List.length ex) pad))) ∧
 (((AV.int .i64 n_9) = (AV.int .i64 (Nat.cast y_10 : Int))) ∧
 True))))))))))))))
else False))))))
else False)
else False)))))
else (∃ n_3 : Int, (((AV.int .i64 (Nat.cast (List.length ex) : Int)) = (AV.int .i64 n_3)) ∧
 (bif (decide (n_3 > (0 : Int))) then (∃ ex_4 : (List Xt), ((Lf (((cellsXM ex) = (cellsXM ex_4)) ∧
 (((List.length ex) = (List.length ex_4)) ∧
 (((List.length ex_4) ≤ (16 : Nat)) ∧
 ((extsOkM (0 : Int) ex_4) = true))))) ∧
 (∀ s_5 : (List UInt8), ((Lf (s_5 = (extPM ex_4))) →
(∃ ex_6 : (List Xt), ((Lf (((cellsXM ex) = (cellsXM ex_6)) ∧
 (((List.length ex) = (List.length ex_6)) ∧
 (((List.length ex_6) ≤ (1000000 : Nat)) ∧
 (dataM ex_6))))) ∧
 (bif (shortM ex_6) then (∃ s_7 : (List UInt8), (((AV.str (headTM mk ty seq ti ss (List.take x_0 cs) cs (List.length ex) pad)) = (AV.str s_7)) ∧
 ((Lf ((((0 : Int) ≤ (2 : Int)) ∧
 ((2 : Int) ≤ (8 : Int))) ∧
 (((0 : Int) ≤ (48862 : Int)) ∧
 ((48862 : Int) ≤ (9223372036854775807 : Int))))) ∧
 (bif ((decide (((List.length s_7) + (2 : Nat)) ≤ (9223372036854775807 : Nat))) && true) then (∃ s_8 : (List UInt8), (((AV.str (s_7 ++ (beM (48862 : Int) (2 : Nat)))) = (AV.str s_8)) ∧
 (∃ n_9 : Int, (((AV.int .i64 (Nat.cast (List.length s_5) : Int)) = (AV.int .i64 n_9)) ∧
 (∃ n_10 : Int, (((AV.int .i64 (IntKind.wrap .i64 (Int.tdiv n_9 (4 : Int)))) = (AV.int .i64 n_10)) ∧
 ((Lf ((((0 : Int) ≤ (2 : Int)) ∧
 ((2 : Int) ≤ (8 : Int))) ∧
 (((0 : Int) ≤ n_10) ∧
 (n_10 ≤ (9223372036854775807 : Int))))) ∧
 (∃ s_11 : (List UInt8), (((AV.str (beM n_10 (2 : Nat))) = (AV.str s_11)) ∧
 (bif ((decide (((List.length s_8) + (List.length s_11)) ≤ (9223372036854775807 : Nat))) && true) then (∃ s_12 : (List UInt8), (((AV.str (s_8 ++ s_11)) = (AV.str s_12)) ∧
 (bif ((decide (((List.length s_12) + (List.length s_5)) ≤ (9223372036854775807 : Nat))) && true) then (∃ s_13 : (List UInt8), (((AV.str (s_12 ++ s_5)) = (AV.str s_13)) ∧
 (∃ s_14 : (List UInt8), (((AV.str s_13) = (AV.str s_14)) ∧
 (Q (Out.ret (AV.str s_14)) [] (Gh.mk (0 : Nat) (0 : Nat) []))))))
else False)))
else False))))))))))
else False))))
else (∃ s_7 : (List UInt8), (((AV.str (headTM mk ty seq ti ss (List.take x_0 cs) cs (List.length ex) pad)) = (AV.str s_7)) ∧
 ((Lf ((((0 : Int) ≤ (2 : Int)) ∧
 ((2 : Int) ≤ (8 : Int))) ∧
 (((0 : Int) ≤ (4096 : Int)) ∧
 ((4096 : Int) ≤ (9223372036854775807 : Int))))) ∧
 (bif ((decide (((List.length s_7) + (2 : Nat)) ≤ (9223372036854775807 : Nat))) && true) then (∃ s_8 : (List UInt8), (((AV.str (s_7 ++ (beM (4096 : Int) (2 : Nat)))) = (AV.str s_8)) ∧
 (∃ n_9 : Int, (((AV.int .i64 (Nat.cast (List.length s_5) : Int)) = (AV.int .i64 n_9)) ∧
 (∃ n_10 : Int, (((AV.int .i64 (IntKind.wrap .i64 (Int.tdiv n_9 (4 : Int)))) = (AV.int .i64 n_10)) ∧
 ((Lf ((((0 : Int) ≤ (2 : Int)) ∧
 ((2 : Int) ≤ (8 : Int))) ∧
 (((0 : Int) ≤ n_10) ∧
 (n_10 ≤ (9223372036854775807 : Int))))) ∧
 (∃ s_11 : (List UInt8), (((AV.str (beM n_10 (2 : Nat))) = (AV.str s_11)) ∧
 (bif ((decide (((List.length s_8) + (List.length s_11)) ≤ (9223372036854775807 : Nat))) && true) then (∃ s_12 : (List UInt8), (((AV.str (s_8 ++ s_11)) = (AV.str s_12)) ∧
 (bif ((decide (((List.length s_12) + (List.length s_5)) ≤ (9223372036854775807 : Nat))) && true) then (∃ s_13 : (List UInt8), (((AV.str (s_12 ++ s_5)) = (AV.str s_13)) ∧
 (∃ s_14 : (List UInt8), (((AV.str s_13) = (AV.str s_14)) ∧
 (Q (Out.ret (AV.str s_14)) [] (Gh.mk (0 : Nat) (0 : Nat) []))))))
else False)))
else False))))))))))
else False)))))))))))
else (∃ s_4 : (List UInt8), (((AV.str (headTM mk ty seq ti ss (List.take x_0 cs) cs (List.length ex) pad)) = (AV.str s_4)) ∧
 (Q (Out.ret (AV.str s_4)) [] (Gh.mk (0 : Nat) (0 : Nat) [])))))))))))))))
theorem vc_18 (mk : Bool) (ty : Int) (seq : Int) (ti : Int) (ss : Int) (tc : Nat) (cs : List Int) (tx : Nat) (ex : List Xt) (pad : Int) (pl : List UInt8) (Q : Out → List Blk → Gh → Prop) : goal_18 (lookV [(73738, .int .i64), (73739, .int .i64), (73746, .int .i64), (73749, .int .i64), (73752, .int .i64), (73756, .int .i64), (73758, .str), (73760, .str), (73761, .str), (73764, .str), (73765, .str), (73768, .str), (73769, .str), (73772, .str), (73773, .str), (73774, .int .i64), (73777, .int .i64), (73781, .str), (73784, .int .i64), (73786, .int .i64), (73787, .str), (73788, .str), (73779, .int .i64), (73780, .int .i64), (73791, .int .i64), (73799, .str), (73801, .str), (73807, .int .i64), (73808, .int .i64), (73809, .str), (73810, .str), (73812, .str), (73802, .str), (73804, .str), (73813, .str)]) (lookB []) mk ty seq ti ss tc cs tx ex pad pl Q = (
(∃ n_0 : Int, (((AV.int .i64 (Nat.cast (List.length cs) : Int)) = (AV.int .i64 n_0)) ∧
 (∃ n_1 : Int, (((AV.int .i64 (IntKind.wrap .i64 ((128 : Int) + n_0))) = (AV.int .i64 n_1)) ∧
 (bif (decide (pad > (0 : Int))) then (∃ n_2 : Int, (((AV.int .i64 (IntKind.wrap .i64 (n_1 + (32 : Int)))) = (AV.int .i64 n_2)) ∧
 (∃ n_3 : Int, (((AV.int .i64 (Nat.cast (List.length ex) : Int)) = (AV.int .i64 n_3)) ∧
 (bif (decide (n_3 > (0 : Int))) then (∃ n_4 : Int, (((AV.int .i64 (IntKind.wrap .i64 (n_2 + (16 : Int)))) = (AV.int .i64 n_4)) ∧
 (bif mk then (∃ n_5 : Int, (((AV.int .i64 (IntKind.wrap .i64 (ty + (128 : Int)))) = (AV.int .i64 n_5)) ∧
 ((Lf ((((0 : Int) ≤ (1 : Int)) ∧
 ((1 : Int) ≤ (8 : Int))) ∧
 (((0 : Int) ≤ n_4) ∧
 (n_4 ≤ (9223372036854775807 : Int))))) ∧
 (bif ((eqAVL ((AV.int .i64 ss) :: []) ((AV.int .i64 ss) :: [])) && true) then (bif ((eqAVL ((AV.int .i64 ti) :: []) ((AV.int .i64 ti) :: [])) && true) then (bif ((eqAVL ((AV.int .i64 seq) :: []) ((AV.int .i64 seq) :: [])) && true) then (∃ s_6 : (List UInt8), (((AV.str (beM n_4 (1 : Nat))) = (AV.str s_6)) ∧
 ((Lf ((((0 : Int) ≤ (1 : Int)) ∧
 ((1 : Int) ≤ (8 : Int))) ∧
 (((0 : Int) ≤ n_5) ∧
 (n_5 ≤ (9223372036854775807 : Int))))) ∧
 (bif ((eqAVL ((AV.int .i64 ss) :: []) ((AV.int .i64 ss) :: [])) && true) then (bif ((eqAVL ((AV.int .i64 ti) :: []) ((AV.int .i64 ti) :: [])) && true) then (bif ((eqAVL ((AV.int .i64 seq) :: []) ((AV.int .i64 seq) :: [])) && true) then (∃ s_7 : (List UInt8), (((AV.str (beM n_5 (1 : Nat))) = (AV.str s_7)) ∧
 (bif ((decide (((List.length s_6) + (List.length s_7)) ≤ (9223372036854775807 : Nat))) && true) then (∃ s_8 : (List UInt8), (((AV.str (s_6 ++ s_7)) = (AV.str s_8)) ∧
 ((Lf ((((0 : Int) ≤ (2 : Int)) ∧
 ((2 : Int) ≤ (8 : Int))) ∧
 (((0 : Int) ≤ seq) ∧
 (seq ≤ (9223372036854775807 : Int))))) ∧
 (bif ((eqAVL ((AV.int .i64 ss) :: []) ((AV.int .i64 ss) :: [])) && true) then (bif ((eqAVL ((AV.int .i64 ti) :: []) ((AV.int .i64 ti) :: [])) && true) then (∃ s_9 : (List UInt8), (((AV.str (beM seq (2 : Nat))) = (AV.str s_9)) ∧
 (bif ((decide (((List.length s_8) + (List.length s_9)) ≤ (9223372036854775807 : Nat))) && true) then (∃ s_10 : (List UInt8), (((AV.str (s_8 ++ s_9)) = (AV.str s_10)) ∧
 ((Lf ((((0 : Int) ≤ (4 : Int)) ∧
 ((4 : Int) ≤ (8 : Int))) ∧
 (((0 : Int) ≤ ti) ∧
 (ti ≤ (9223372036854775807 : Int))))) ∧
 (bif ((eqAVL ((AV.int .i64 ss) :: []) ((AV.int .i64 ss) :: [])) && true) then (∃ s_11 : (List UInt8), (((AV.str (beM ti (4 : Nat))) = (AV.str s_11)) ∧
 (bif ((decide (((List.length s_10) + (List.length s_11)) ≤ (9223372036854775807 : Nat))) && true) then (∃ s_12 : (List UInt8), (((AV.str (s_10 ++ s_11)) = (AV.str s_12)) ∧
 ((Lf ((((0 : Int) ≤ (4 : Int)) ∧
 ((4 : Int) ≤ (8 : Int))) ∧
 (((0 : Int) ≤ ss) ∧
 (ss ≤ (9223372036854775807 : Int))))) ∧
 (∃ s_13 : (List UInt8), (((AV.str (beM ss (4 : Nat))) = (AV.str s_13)) ∧
 (bif ((decide (((List.length s_12) + (List.length s_13)) ≤ (9223372036854775807 : Nat))) && true) then (∃ s_14 : (List UInt8), (((AV.str (s_12 ++ s_13)) = (AV.str s_14)) ∧
 ((∃ x_15 : Nat, ((Lf (x_15 ≤ (List.length cs))) ∧
 ((((AV.bool mk) :: ((AV.int .i64 ty) :: ((AV.int .i64 seq) :: ((AV.int .i64 ti) :: ((AV.int .i64 ss) :: ((AV.lst tc (cellsI cs) (List.length cs) (1 : Nat)) :: ((AV.lst tx (cellsXM ex) (List.length ex) (2 : Nat)) :: ((AV.int .i64 pad) :: ((AV.str pl) :: []))))))))) = ((AV.bool mk) :: ((AV.int .i64 ty) :: ((AV.int .i64 seq) :: ((AV.int .i64 ti) :: ((AV.int .i64 ss) :: ((AV.lst tc (cellsI cs) (List.length cs) (1 : Nat)) :: ((AV.lst tx (cellsXM ex) (List.length ex) (2 : Nat)) :: ((AV.int .i64 pad) :: ((AV.str pl) :: [])))))))))) ∧
 (((AV.ptr (0 : Nat) (9 : Nat) (0 : Nat)) = (AV.ptr (0 : Nat) (9 : Nat) (0 : Nat))) ∧
 (((AV.str s_14) = (AV.str (headTM mk ty seq ti ss (List.take x_15 cs) cs (List.length ex) pad))) ∧
 (((AV.int .i64 (0 : Int)) = (AV.int .i64 (Nat.cast x_15 : Int))) ∧
 True)))))) ∧
 (vc_18_1 mk ty seq ti ss tc cs tx ex pad pl Q))))
else False))))))
else False)))
else False))))
else False)))
else False)
else False))))
else False)))
else False)
else False)
else False))))
else False)
else False)
else False))))
else ((Lf ((((0 : Int) ≤ (1 : Int)) ∧
 ((1 : Int) ≤ (8 : Int))) ∧
 (((0 : Int) ≤ n_4) ∧
 (n_4 ≤ (9223372036854775807 : Int))))) ∧
 (bif ((eqAVL ((AV.int .i64 ss) :: []) ((AV.int .i64 ss) :: [])) && true) then (bif ((eqAVL ((AV.int .i64 ti) :: []) ((AV.int .i64 ti) :: [])) && true) then (bif ((eqAVL ((AV.int .i64 seq) :: []) ((AV.int .i64 seq) :: [])) && true) then (∃ s_5 : (List UInt8), (((AV.str (beM n_4 (1 : Nat))) = (AV.str s_5)) ∧
 ((Lf ((((0 : Int) ≤ (1 : Int)) ∧
 ((1 : Int) ≤ (8 : Int))) ∧
 (((0 : Int) ≤ ty) ∧
 (ty ≤ (9223372036854775807 : Int))))) ∧
 (bif ((eqAVL ((AV.int .i64 ss) :: []) ((AV.int .i64 ss) :: [])) && true) then (bif ((eqAVL ((AV.int .i64 ti) :: []) ((AV.int .i64 ti) :: [])) && true) then (bif ((eqAVL ((AV.int .i64 seq) :: []) ((AV.int .i64 seq) :: [])) && true) then (∃ s_6 : (List UInt8), (((AV.str (beM ty (1 : Nat))) = (AV.str s_6)) ∧
 (bif ((decide (((List.length s_5) + (List.length s_6)) ≤ (9223372036854775807 : Nat))) && true) then (∃ s_7 : (List UInt8), (((AV.str (s_5 ++ s_6)) = (AV.str s_7)) ∧
 ((Lf ((((0 : Int) ≤ (2 : Int)) ∧
 ((2 : Int) ≤ (8 : Int))) ∧
 (((0 : Int) ≤ seq) ∧
 (seq ≤ (9223372036854775807 : Int))))) ∧
 (bif ((eqAVL ((AV.int .i64 ss) :: []) ((AV.int .i64 ss) :: [])) && true) then (bif ((eqAVL ((AV.int .i64 ti) :: []) ((AV.int .i64 ti) :: [])) && true) then (∃ s_8 : (List UInt8), (((AV.str (beM seq (2 : Nat))) = (AV.str s_8)) ∧
 (bif ((decide (((List.length s_7) + (List.length s_8)) ≤ (9223372036854775807 : Nat))) && true) then (∃ s_9 : (List UInt8), (((AV.str (s_7 ++ s_8)) = (AV.str s_9)) ∧
 ((Lf ((((0 : Int) ≤ (4 : Int)) ∧
 ((4 : Int) ≤ (8 : Int))) ∧
 (((0 : Int) ≤ ti) ∧
 (ti ≤ (9223372036854775807 : Int))))) ∧
 (bif ((eqAVL ((AV.int .i64 ss) :: []) ((AV.int .i64 ss) :: [])) && true) then (∃ s_10 : (List UInt8), (((AV.str (beM ti (4 : Nat))) = (AV.str s_10)) ∧
 (bif ((decide (((List.length s_9) + (List.length s_10)) ≤ (9223372036854775807 : Nat))) && true) then (∃ s_11 : (List UInt8), (((AV.str (s_9 ++ s_10)) = (AV.str s_11)) ∧
 ((Lf ((((0 : Int) ≤ (4 : Int)) ∧
 ((4 : Int) ≤ (8 : Int))) ∧
 (((0 : Int) ≤ ss) ∧
 (ss ≤ (9223372036854775807 : Int))))) ∧
 (∃ s_12 : (List UInt8), (((AV.str (beM ss (4 : Nat))) = (AV.str s_12)) ∧
 (bif ((decide (((List.length s_11) + (List.length s_12)) ≤ (9223372036854775807 : Nat))) && true) then (∃ s_13 : (List UInt8), (((AV.str (s_11 ++ s_12)) = (AV.str s_13)) ∧
 ((∃ x_14 : Nat, ((Lf (x_14 ≤ (List.length cs))) ∧
 ((((AV.bool mk) :: ((AV.int .i64 ty) :: ((AV.int .i64 seq) :: ((AV.int .i64 ti) :: ((AV.int .i64 ss) :: ((AV.lst tc (cellsI cs) (List.length cs) (1 : Nat)) :: ((AV.lst tx (cellsXM ex) (List.length ex) (2 : Nat)) :: ((AV.int .i64 pad) :: ((AV.str pl) :: []))))))))) = ((AV.bool mk) :: ((AV.int .i64 ty) :: ((AV.int .i64 seq) :: ((AV.int .i64 ti) :: ((AV.int .i64 ss) :: ((AV.lst tc (cellsI cs) (List.length cs) (1 : Nat)) :: ((AV.lst tx (cellsXM ex) (List.length ex) (2 : Nat)) :: ((AV.int .i64 pad) :: ((AV.str pl) :: [])))))))))) ∧
 (((AV.ptr (0 : Nat) (9 : Nat) (0 : Nat)) = (AV.ptr (0 : Nat) (9 : Nat) (0 : Nat))) ∧
 (((AV.str s_13) = (AV.str (headTM mk ty seq ti ss (List.take x_14 cs) cs (List.length ex) pad))) ∧
 (((AV.int .i64 (0 : Int)) = (AV.int .i64 (Nat.cast x_14 : Int))) ∧
 True)))))) ∧
 (vc_18_1 mk ty seq ti ss tc cs tx ex pad pl Q))))
else False))))))
else False)))
else False))))
else False)))
else False)
else False))))
else False)))
else False)
else False)
else False))))
else False)
else False)
else False)))))
else (bif mk then (∃ n_4 : Int, (((AV.int .i64 (IntKind.wrap .i64 (ty + (128 : Int)))) = (AV.int .i64 n_4)) ∧
 ((Lf ((((0 : Int) ≤ (1 : Int)) ∧
 ((1 : Int) ≤ (8 : Int))) ∧
 (((0 : Int) ≤ n_2) ∧
 (n_2 ≤ (9223372036854775807 : Int))))) ∧
 (bif ((eqAVL ((AV.int .i64 ss) :: []) ((AV.int .i64 ss) :: [])) && true) then (bif ((eqAVL ((AV.int .i64 ti) :: []) ((AV.int .i64 ti) :: [])) && true) then (bif ((eqAVL ((AV.int .i64 seq) :: []) ((AV.int .i64 seq) :: [])) && true) then (∃ s_5 : (List UInt8), (((AV.str (beM n_2 (1 : Nat))) = (AV.str s_5)) ∧
 ((Lf ((((0 : Int) ≤ (1 : Int)) ∧
 ((1 : Int) ≤ (8 : Int))) ∧
 (((0 : Int) ≤ n_4) ∧
 (n_4 ≤ (9223372036854775807 : Int))))) ∧
 (bif ((eqAVL ((AV.int .i64 ss) :: []) ((AV.int .i64 ss) :: [])) && true) then (bif ((eqAVL ((AV.int .i64 ti) :: []) ((AV.int .i64 ti) :: [])) && true) then (bif ((eqAVL ((AV.int .i64 seq) :: []) ((AV.int .i64 seq) :: [])) && true) then (∃ s_6 : (List UInt8), (((AV.str (beM n_4 (1 : Nat))) = (AV.str s_6)) ∧
 (bif ((decide (((List.length s_5) + (List.length s_6)) ≤ (9223372036854775807 : Nat))) && true) then (∃ s_7 : (List UInt8), (((AV.str (s_5 ++ s_6)) = (AV.str s_7)) ∧
 ((Lf ((((0 : Int) ≤ (2 : Int)) ∧
 ((2 : Int) ≤ (8 : Int))) ∧
 (((0 : Int) ≤ seq) ∧
 (seq ≤ (9223372036854775807 : Int))))) ∧
 (bif ((eqAVL ((AV.int .i64 ss) :: []) ((AV.int .i64 ss) :: [])) && true) then (bif ((eqAVL ((AV.int .i64 ti) :: []) ((AV.int .i64 ti) :: [])) && true) then (∃ s_8 : (List UInt8), (((AV.str (beM seq (2 : Nat))) = (AV.str s_8)) ∧
 (bif ((decide (((List.length s_7) + (List.length s_8)) ≤ (9223372036854775807 : Nat))) && true) then (∃ s_9 : (List UInt8), (((AV.str (s_7 ++ s_8)) = (AV.str s_9)) ∧
 ((Lf ((((0 : Int) ≤ (4 : Int)) ∧
 ((4 : Int) ≤ (8 : Int))) ∧
 (((0 : Int) ≤ ti) ∧
 (ti ≤ (9223372036854775807 : Int))))) ∧
 (bif ((eqAVL ((AV.int .i64 ss) :: []) ((AV.int .i64 ss) :: [])) && true) then (∃ s_10 : (List UInt8), (((AV.str (beM ti (4 : Nat))) = (AV.str s_10)) ∧
 (bif ((decide (((List.length s_9) + (List.length s_10)) ≤ (9223372036854775807 : Nat))) && true) then (∃ s_11 : (List UInt8), (((AV.str (s_9 ++ s_10)) = (AV.str s_11)) ∧
 ((Lf ((((0 : Int) ≤ (4 : Int)) ∧
 ((4 : Int) ≤ (8 : Int))) ∧
 (((0 : Int) ≤ ss) ∧
 (ss ≤ (9223372036854775807 : Int))))) ∧
 (∃ s_12 : (List UInt8), (((AV.str (beM ss (4 : Nat))) = (AV.str s_12)) ∧
 (bif ((decide (((List.length s_11) + (List.length s_12)) ≤ (9223372036854775807 : Nat))) && true) then (∃ s_13 : (List UInt8), (((AV.str (s_11 ++ s_12)) = (AV.str s_13)) ∧
 ((∃ x_14 : Nat, ((Lf (x_14 ≤ (List.length cs))) ∧
 ((((AV.bool mk) :: ((AV.int .i64 ty) :: ((AV.int .i64 seq) :: ((AV.int .i64 ti) :: ((AV.int .i64 ss) :: ((AV.lst tc (cellsI cs) (List.length cs) (1 : Nat)) :: ((AV.lst tx (cellsXM ex) (List.length ex) (2 : Nat)) :: ((AV.int .i64 pad) :: ((AV.str pl) :: []))))))))) = ((AV.bool mk) :: ((AV.int .i64 ty) :: ((AV.int .i64 seq) :: ((AV.int .i64 ti) :: ((AV.int .i64 ss) :: ((AV.lst tc (cellsI cs) (List.length cs) (1 : Nat)) :: ((AV.lst tx (cellsXM ex) (List.length ex) (2 : Nat)) :: ((AV.int .i64 pad) :: ((AV.str pl) :: [])))))))))) ∧
 (((AV.ptr (0 : Nat) (9 : Nat) (0 : Nat)) = (AV.ptr (0 : Nat) (9 : Nat) (0 : Nat))) ∧
 (((AV.str s_13) = (AV.str (headTM mk ty seq ti ss (List.take x_14 cs) cs (List.length ex) pad))) ∧
 (((AV.int .i64 (0 : Int)) = (AV.int .i64 (Nat.cast x_14 : Int))) ∧
 True)))))) ∧
 (vc_18_1 mk ty seq ti ss tc cs tx ex pad pl Q))))
else False))))))
else False)))
else False))))
else False)))
else False)
else False))))
else False)))
else False)
else False)
else False))))
else False)
else False)
else False))))
else ((Lf ((((0 : Int) ≤ (1 : Int)) ∧
 ((1 : Int) ≤ (8 : Int))) ∧
 (((0 : Int) ≤ n_2) ∧
 (n_2 ≤ (9223372036854775807 : Int))))) ∧
 (bif ((eqAVL ((AV.int .i64 ss) :: []) ((AV.int .i64 ss) :: [])) && true) then (bif ((eqAVL ((AV.int .i64 ti) :: []) ((AV.int .i64 ti) :: [])) && true) then (bif ((eqAVL ((AV.int .i64 seq) :: []) ((AV.int .i64 seq) :: [])) && true) then (∃ s_4 : (List UInt8), (((AV.str (beM n_2 (1 : Nat))) = (AV.str s_4)) ∧
 ((Lf ((((0 : Int) ≤ (1 : Int)) ∧
 ((1 : Int) ≤ (8 : Int))) ∧
 (((0 : Int) ≤ ty) ∧
 (ty ≤ (9223372036854775807 : Int))))) ∧
 (bif ((eqAVL ((AV.int .i64 ss) :: []) ((AV.int .i64 ss) :: [])) && true) then (bif ((eqAVL ((AV.int .i64 ti) :: []) ((AV.int .i64 ti) :: [])) && true) then (bif ((eqAVL ((AV.int .i64 seq) :: []) ((AV.int .i64 seq) :: [])) && true) then (∃ s_5 : (List UInt8), (((AV.str (beM ty (1 : Nat))) = (AV.str s_5)) ∧
 (bif ((decide (((List.length s_4) + (List.length s_5)) ≤ (9223372036854775807 : Nat))) && true) then (∃ s_6 : (List UInt8), (((AV.str (s_4 ++ s_5)) = (AV.str s_6)) ∧
 ((Lf ((((0 : Int) ≤ (2 : Int)) ∧
 ((2 : Int) ≤ (8 : Int))) ∧
 (((0 : Int) ≤ seq) ∧
 (seq ≤ (9223372036854775807 : Int))))) ∧
 (bif ((eqAVL ((AV.int .i64 ss) :: []) ((AV.int .i64 ss) :: [])) && true) then (bif ((eqAVL ((AV.int .i64 ti) :: []) ((AV.int .i64 ti) :: [])) && true) then (∃ s_7 : (List UInt8), (((AV.str (beM seq (2 : Nat))) = (AV.str s_7)) ∧
 (bif ((decide (((List.length s_6) + (List.length s_7)) ≤ (9223372036854775807 : Nat))) && true) then (∃ s_8 : (List UInt8), (((AV.str (s_6 ++ s_7)) = (AV.str s_8)) ∧
 ((Lf ((((0 : Int) ≤ (4 : Int)) ∧
 ((4 : Int) ≤ (8 : Int))) ∧
 (((0 : Int) ≤ ti) ∧
 (ti ≤ (9223372036854775807 : Int))))) ∧
 (bif ((eqAVL ((AV.int .i64 ss) :: []) ((AV.int .i64 ss) :: [])) && true) then (∃ s_9 : (List UInt8), (((AV.str (beM ti (4 : Nat))) = (AV.str s_9)) ∧
 (bif ((decide (((List.length s_8) + (List.length s_9)) ≤ (9223372036854775807 : Nat))) && true) then (∃ s_10 : (List UInt8), (((AV.str (s_8 ++ s_9)) = (AV.str s_10)) ∧
 ((Lf ((((0 : Int) ≤ (4 : Int)) ∧
 ((4 : Int) ≤ (8 : Int))) ∧
 (((0 : Int) ≤ ss) ∧
 (ss ≤ (9223372036854775807 : Int))))) ∧
 (∃ s_11 : (List UInt8), (((AV.str (beM ss (4 : Nat))) = (AV.str s_11)) ∧
 (bif ((decide (((List.length s_10) + (List.length s_11)) ≤ (9223372036854775807 : Nat))) && true) then (∃ s_12 : (List UInt8), (((AV.str (s_10 ++ s_11)) = (AV.str s_12)) ∧
 ((∃ x_13 : Nat, ((Lf (x_13 ≤ (List.length cs))) ∧
 ((((AV.bool mk) :: ((AV.int .i64 ty) :: ((AV.int .i64 seq) :: ((AV.int .i64 ti) :: ((AV.int .i64 ss) :: ((AV.lst tc (cellsI cs) (List.length cs) (1 : Nat)) :: ((AV.lst tx (cellsXM ex) (List.length ex) (2 : Nat)) :: ((AV.int .i64 pad) :: ((AV.str pl) :: []))))))))) = ((AV.bool mk) :: ((AV.int .i64 ty) :: ((AV.int .i64 seq) :: ((AV.int .i64 ti) :: ((AV.int .i64 ss) :: ((AV.lst tc (cellsI cs) (List.length cs) (1 : Nat)) :: ((AV.lst tx (cellsXM ex) (List.length ex) (2 : Nat)) :: ((AV.int .i64 pad) :: ((AV.str pl) :: [])))))))))) ∧
 (((AV.ptr (0 : Nat) (9 : Nat) (0 : Nat)) = (AV.ptr (0 : Nat) (9 : Nat) (0 : Nat))) ∧
 (((AV.str s_12) = (AV.str (headTM mk ty seq ti ss (List.take x_13 cs) cs (List.length ex) pad))) ∧
 (((AV.int .i64 (0 : Int)) = (AV.int .i64 (Nat.cast x_13 : Int))) ∧
 True)))))) ∧
 (vc_18_1 mk ty seq ti ss tc cs tx ex pad pl Q))))
else False))))))
else False)))
else False))))
else False)))
else False)
else False))))
else False)))
else False)
else False)
else False))))
else False)
else False)
else False))))))))
else (∃ n_2 : Int, (((AV.int .i64 (Nat.cast (List.length ex) : Int)) = (AV.int .i64 n_2)) ∧
 (bif (decide (n_2 > (0 : Int))) then (∃ n_3 : Int, (((AV.int .i64 (IntKind.wrap .i64 (n_1 + (16 : Int)))) = (AV.int .i64 n_3)) ∧
 (bif mk then (∃ n_4 : Int, (((AV.int .i64 (IntKind.wrap .i64 (ty + (128 : Int)))) = (AV.int .i64 n_4)) ∧
 ((Lf ((((0 : Int) ≤ (1 : Int)) ∧
 ((1 : Int) ≤ (8 : Int))) ∧
 (((0 : Int) ≤ n_3) ∧
 (n_3 ≤ (9223372036854775807 : Int))))) ∧
 (bif ((eqAVL ((AV.int .i64 ss) :: []) ((AV.int .i64 ss) :: [])) && true) then (bif ((eqAVL ((AV.int .i64 ti) :: []) ((AV.int .i64 ti) :: [])) && true) then (bif ((eqAVL ((AV.int .i64 seq) :: []) ((AV.int .i64 seq) :: [])) && true) then (∃ s_5 : (List UInt8), (((AV.str (beM n_3 (1 : Nat))) = (AV.str s_5)) ∧
 ((Lf ((((0 : Int) ≤ (1 : Int)) ∧
 ((1 : Int) ≤ (8 : Int))) ∧
 (((0 : Int) ≤ n_4) ∧
 (n_4 ≤ (9223372036854775807 : Int))))) ∧
 (bif ((eqAVL ((AV.int .i64 ss) :: []) ((AV.int .i64 ss) :: [])) && true) then (bif ((eqAVL ((AV.int .i64 ti) :: []) ((AV.int .i64 ti) :: [])) && true) then (bif ((eqAVL ((AV.int .i64 seq) :: []) ((AV.int .i64 seq) :: [])) && true) then (∃ s_6 : (List UInt8), (((AV.str (beM n_4 (1 : Nat))) = (AV.str s_6)) ∧
 (bif ((decide (((List.length s_5) + (List.length s_6)) ≤ (9223372036854775807 : Nat))) && true) then (∃ s_7 : (List UInt8), (((AV.str (s_5 ++ s_6)) = (AV.str s_7)) ∧
 ((Lf ((((0 : Int) ≤ (2 : Int)) ∧
 ((2 : Int) ≤ (8 : Int))) ∧
 (((0 : Int) ≤ seq) ∧
 (seq ≤ (9223372036854775807 : Int))))) ∧
 (bif ((eqAVL ((AV.int .i64 ss) :: []) ((AV.int .i64 ss) :: [])) && true) then (bif ((eqAVL ((AV.int .i64 ti) :: []) ((AV.int .i64 ti) :: [])) && true) then (∃ s_8 : (List UInt8), (((AV.str (beM seq (2 : Nat))) = (AV.str s_8)) ∧
 (bif ((decide (((List.length s_7) + (List.length s_8)) ≤ (9223372036854775807 : Nat))) && true) then (∃ s_9 : (List UInt8), (((AV.str (s_7 ++ s_8)) = (AV.str s_9)) ∧
 ((Lf ((((0 : Int) ≤ (4 : Int)) ∧
 ((4 : Int) ≤ (8 : Int))) ∧
 (((0 : Int) ≤ ti) ∧
 (ti ≤ (9223372036854775807 : Int))))) ∧
 (bif ((eqAVL ((AV.int .i64 ss) :: []) ((AV.int .i64 ss) :: [])) && true) then (∃ s_10 : (List UInt8), (((AV.str (beM ti (4 : Nat))) = (AV.str s_10)) ∧
 (bif ((decide (((List.length s_9) + (List.length s_10)) ≤ (9223372036854775807 : Nat))) && true) then (∃ s_11 : (List UInt8), (((AV.str (s_9 ++ s_10)) = (AV.str s_11)) ∧
 ((Lf ((((0 : Int) ≤ (4 : Int)) ∧
 ((4 : Int) ≤ (8 : Int))) ∧
 (((0 : Int) ≤ ss) ∧
 (ss ≤ (9223372036854775807 : Int))))) ∧
 (∃ s_12 : (List UInt8), (((AV.str (beM ss (4 : Nat))) = (AV.str s_12)) ∧
 (bif ((decide (((List.length s_11) + (List.length s_12)) ≤ (9223372036854775807 : Nat))) && true) then (∃ s_13 : (List UInt8), (((AV.str (s_11 ++ s_12)) = (AV.str s_13)) ∧
 ((∃ x_14 : Nat, ((Lf (x_14 ≤ (List.length cs))) ∧
 ((((AV.bool mk) :: ((AV.int .i64 ty) :: ((AV.int .i64 seq) :: ((AV.int .i64 ti) :: ((AV.int .i64 ss) :: ((AV.lst tc (cellsI cs) (List.length cs) (1 : Nat)) :: ((AV.lst tx (cellsXM ex) (List.length ex) (2 : Nat)) :: ((AV.int .i64 pad) :: ((AV.str pl) :: []))))))))) = ((AV.bool mk) :: ((AV.int .i64 ty) :: ((AV.int .i64 seq) :: ((AV.int .i64 ti) :: ((AV.int .i64 ss) :: ((AV.lst tc (cellsI cs) (List.length cs) (1 : Nat)) :: ((AV.lst tx (cellsXM ex) (List.length ex) (2 : Nat)) :: ((AV.int .i64 pad) :: ((AV.str pl) :: [])))))))))) ∧
 (((AV.ptr (0 : Nat) (9 : Nat) (0 : Nat)) = (AV.ptr (0 : Nat) (9 : Nat) (0 : Nat))) ∧
 (((AV.str s_13) = (AV.str (headTM mk ty seq ti ss (List.take x_14 cs) cs (List.length ex) pad))) ∧
 (((AV.int .i64 (0 : Int)) = (AV.int .i64 (Nat.cast x_14 : Int))) ∧
 True)))))) ∧
 (vc_18_1 mk ty seq ti ss tc cs tx ex pad pl Q))))
else False))))))
else False)))
else False))))
else False)))
else False)
else False))))
else False)))
else False)
else False)
else False))))
else False)
else False)
else False))))
else ((Lf ((((0 : Int) ≤ (1 : Int)) ∧
 ((1 : Int) ≤ (8 : Int))) ∧
 (((0 : Int) ≤ n_3) ∧
 (n_3 ≤ (9223372036854775807 : Int))))) ∧
 (bif ((eqAVL ((AV.int .i64 ss) :: []) ((AV.int .i64 ss) :: [])) && true) then (bif ((eqAVL ((AV.int .i64 ti) :: []) ((AV.int .i64 ti) :: [])) && true) then (bif ((eqAVL ((AV.int .i64 seq) :: []) ((AV.int .i64 seq) :: [])) && true) then (∃ s_4 : (List UInt8), (((AV.str (beM n_3 (1 : Nat))) = (AV.str s_4)) ∧
 ((Lf ((((0 : Int) ≤ (1 : Int)) ∧
 ((1 : Int) ≤ (8 : Int))) ∧
 (((0 : Int) ≤ ty) ∧
 (ty ≤ (9223372036854775807 : Int))))) ∧
 (bif ((eqAVL ((AV.int .i64 ss) :: []) ((AV.int .i64 ss) :: [])) && true) then (bif ((eqAVL ((AV.int .i64 ti) :: []) ((AV.int .i64 ti) :: [])) && true) then (bif ((eqAVL ((AV.int .i64 seq) :: []) ((AV.int .i64 seq) :: [])) && true) then (∃ s_5 : (List UInt8), (((AV.str (beM ty (1 : Nat))) = (AV.str s_5)) ∧
 (bif ((decide (((List.length s_4) + (List.length s_5)) ≤ (9223372036854775807 : Nat))) && true) then (∃ s_6 : (List UInt8), (((AV.str (s_4 ++ s_5)) = (AV.str s_6)) ∧
 ((Lf ((((0 : Int) ≤ (2 : Int)) ∧
 ((2 : Int) ≤ (8 : Int))) ∧
 (((0 : Int) ≤ seq) ∧
 (seq ≤ (9223372036854775807 : Int))))) ∧
 (bif ((eqAVL ((AV.int .i64 ss) :: []) ((AV.int .i64 ss) :: [])) && true) then (bif ((eqAVL ((AV.int .i64 ti) :: []) ((AV.int .i64 ti) :: [])) && true) then (∃ s_7 : (List UInt8), (((AV.str (beM seq (2 : Nat))) = (AV.str s_7)) ∧
 (bif ((decide (((List.length s_6) + (List.length s_7)) ≤ (9223372036854775807 : Nat))) && true) then (∃ s_8 : (List UInt8), (((AV.str (s_6 ++ s_7)) = (AV.str s_8)) ∧
 ((Lf ((((0 : Int) ≤ (4 : Int)) ∧
 ((4 : Int) ≤ (8 : Int))) ∧
 (((0 : Int) ≤ ti) ∧
 (ti ≤ (9223372036854775807 : Int))))) ∧
 (bif ((eqAVL ((AV.int .i64 ss) :: []) ((AV.int .i64 ss) :: [])) && true) then (∃ s_9 : (List UInt8), (((AV.str (beM ti (4 : Nat))) = (AV.str s_9)) ∧
 (bif ((decide (((List.length s_8) + (List.length s_9)) ≤ (9223372036854775807 : Nat))) && true) then (∃ s_10 : (List UInt8), (((AV.str (s_8 ++ s_9)) = (AV.str s_10)) ∧
 ((Lf ((((0 : Int) ≤ (4 : Int)) ∧
 ((4 : Int) ≤ (8 : Int))) ∧
 (((0 : Int) ≤ ss) ∧
 (ss ≤ (9223372036854775807 : Int))))) ∧
 (∃ s_11 : (List UInt8), (((AV.str (beM ss (4 : Nat))) = (AV.str s_11)) ∧
 (bif ((decide (((List.length s_10) + (List.length s_11)) ≤ (9223372036854775807 : Nat))) && true) then (∃ s_12 : (List UInt8), (((AV.str (s_10 ++ s_11)) = (AV.str s_12)) ∧
 ((∃ x_13 : Nat, ((Lf (x_13 ≤ (List.length cs))) ∧
 ((((AV.bool mk) :: ((AV.int .i64 ty) :: ((AV.int .i64 seq) :: ((AV.int .i64 ti) :: ((AV.int .i64 ss) :: ((AV.lst tc (cellsI cs) (List.length cs) (1 : Nat)) :: ((AV.lst tx (cellsXM ex) (List.length ex) (2 : Nat)) :: ((AV.int .i64 pad) :: ((AV.str pl) :: []))))))))) = ((AV.bool mk) :: ((AV.int .i64 ty) :: ((AV.int .i64 seq) :: ((AV.int .i64 ti) :: ((AV.int .i64 ss) :: ((AV.lst tc (cellsI cs) (List.length cs) (1 : Nat)) :: ((AV.lst tx (cellsXM ex) (List.length ex) (2 : Nat)) :: ((AV.int .i64 pad) :: ((AV.str pl) :: [])))))))))) ∧
 (((AV.ptr (0 : Nat) (9 : Nat) (0 : Nat)) = (AV.ptr (0 : Nat) (9 : Nat) (0 : Nat))) ∧
 (((AV.str s_12) = (AV.str (headTM mk ty seq ti ss (List.take x_13 cs) cs (List.length ex) pad))) ∧
 (((AV.int .i64 (0 : Int)) = (AV.int .i64 (Nat.cast x_13 : Int))) ∧
 True)))))) ∧
 (vc_18_1 mk ty seq ti ss tc cs tx ex pad pl Q))))
else False))))))
else False)))
else False))))
else False)))
else False)
else False))))
else False)))
else False)
else False)
else False))))
else False)
else False)
else False)))))
else (bif mk then (∃ n_3 : Int, (((AV.int .i64 (IntKind.wrap .i64 (ty + (128 : Int)))) = (AV.int .i64 n_3)) ∧
 ((Lf ((((0 : Int) ≤ (1 : Int)) ∧
 ((1 : Int) ≤ (8 : Int))) ∧
 (((0 : Int) ≤ n_1) ∧
 (n_1 ≤ (9223372036854775807 : Int))))) ∧
 (bif ((eqAVL ((AV.int .i64 ss) :: []) ((AV.int .i64 ss) :: [])) && true) then (bif ((eqAVL ((AV.int .i64 ti) :: []) ((AV.int .i64 ti) :: [])) && true) then (bif ((eqAVL ((AV.int .i64 seq) :: []) ((AV.int .i64 seq) :: [])) && true) then (∃ s_4 : (List UInt8), (((AV.str (beM n_1 (1 : Nat))) = (AV.str s_4)) ∧
 ((Lf ((((0 : Int) ≤ (1 : Int)) ∧
 ((1 : Int) ≤ (8 : Int))) ∧
 (((0 : Int) ≤ n_3) ∧
 (n_3 ≤ (9223372036854775807 : Int))))) ∧
 (bif ((eqAVL ((AV.int .i64 ss) :: []) ((AV.int .i64 ss) :: [])) && true) then (bif ((eqAVL ((AV.int .i64 ti) :: []) ((AV.int .i64 ti) :: [])) && true) then (bif ((eqAVL ((AV.int .i64 seq) :: []) ((AV.int .i64 seq) :: [])) && true) then (∃ s_5 : (List UInt8), (((AV.str (beM n_3 (1 : Nat))) = (AV.str s_5)) ∧
 (bif ((decide (((List.length s_4) + (List.length s_5)) ≤ (9223372036854775807 : Nat))) && true) then (∃ s_6 : (List UInt8), (((AV.str (s_4 ++ s_5)) = (AV.str s_6)) ∧
 ((Lf ((((0 : Int) ≤ (2 : Int)) ∧
 ((2 : Int) ≤ (8 : Int))) ∧
 (((0 : Int) ≤ seq) ∧
 (seq ≤ (9223372036854775807 : Int))))) ∧
 (bif ((eqAVL ((AV.int .i64 ss) :: []) ((AV.int .i64 ss) :: [])) && true) then (bif ((eqAVL ((AV.int .i64 ti) :: []) ((AV.int .i64 ti) :: [])) && true) then (∃ s_7 : (List UInt8), (((AV.str (beM seq (2 : Nat))) = (AV.str s_7)) ∧
 (bif ((decide (((List.length s_6) + (List.length s_7)) ≤ (9223372036854775807 : Nat))) && true) then (∃ s_8 : (List UInt8), (((AV.str (s_6 ++ s_7)) = (AV.str s_8)) ∧
 ((Lf ((((0 : Int) ≤ (4 : Int)) ∧
 ((4 : Int) ≤ (8 : Int))) ∧
 (((0 : Int) ≤ ti) ∧
 (ti ≤ (9223372036854775807 : Int))))) ∧
 (bif ((eqAVL ((AV.int .i64 ss) :: []) ((AV.int .i64 ss) :: [])) && true) then (∃ s_9 : (List UInt8), (((AV.str (beM ti (4 : Nat))) = (AV.str s_9)) ∧
 (bif ((decide (((List.length s_8) + (List.length s_9)) ≤ (9223372036854775807 : Nat))) && true) then (∃ s_10 : (List UInt8), (((AV.str (s_8 ++ s_9)) = (AV.str s_10)) ∧
 ((Lf ((((0 : Int) ≤ (4 : Int)) ∧
 ((4 : Int) ≤ (8 : Int))) ∧
 (((0 : Int) ≤ ss) ∧
 (ss ≤ (9223372036854775807 : Int))))) ∧
 (∃ s_11 : (List UInt8), (((AV.str (beM ss (4 : Nat))) = (AV.str s_11)) ∧
 (bif ((decide (((List.length s_10) + (List.length s_11)) ≤ (9223372036854775807 : Nat))) && true) then (∃ s_12 : (List UInt8), (((AV.str (s_10 ++ s_11)) = (AV.str s_12)) ∧
 ((∃ x_13 : Nat, ((Lf (x_13 ≤ (List.length cs))) ∧
 ((((AV.bool mk) :: ((AV.int .i64 ty) :: ((AV.int .i64 seq) :: ((AV.int .i64 ti) :: ((AV.int .i64 ss) :: ((AV.lst tc (cellsI cs) (List.length cs) (1 : Nat)) :: ((AV.lst tx (cellsXM ex) (List.length ex) (2 : Nat)) :: ((AV.int .i64 pad) :: ((AV.str pl) :: []))))))))) = ((AV.bool mk) :: ((AV.int .i64 ty) :: ((AV.int .i64 seq) :: ((AV.int .i64 ti) :: ((AV.int .i64 ss) :: ((AV.lst tc (cellsI cs) (List.length cs) (1 : Nat)) :: ((AV.lst tx (cellsXM ex) (List.length ex) (2 : Nat)) :: ((AV.int .i64 pad) :: ((AV.str pl) :: [])))))))))) ∧
 (((AV.ptr (0 : Nat) (9 : Nat) (0 : Nat)) = (AV.ptr (0 : Nat) (9 : Nat) (0 : Nat))) ∧
 (((AV.str s_12) = (AV.str (headTM mk ty seq ti ss (List.take x_13 cs) cs (List.length ex) pad))) ∧
 (((AV.int .i64 (0 : Int)) = (AV.int .i64 (Nat.cast x_13 : Int))) ∧
 True)))))) ∧
 (vc_18_1 mk ty seq ti ss tc cs tx ex pad pl Q))))
else False))))))
else False)))
else False))))
else False)))
else False)
else False))))
else False)))
else False)
else False)
else False))))
else False)
else False)
else False))))
else ((Lf ((((0 : Int) ≤ (1 : Int)) ∧
 ((1 : Int) ≤ (8 : Int))) ∧
 (((0 : Int) ≤ n_1) ∧
 (n_1 ≤ (9223372036854775807 : Int))))) ∧
 (bif ((eqAVL ((AV.int .i64 ss) :: []) ((AV.int .i64 ss) :: [])) && true) then (bif ((eqAVL ((AV.int .i64 ti) :: []) ((AV.int .i64 ti) :: [])) && true) then (bif ((eqAVL ((AV.int .i64 seq) :: []) ((AV.int .i64 seq) :: [])) && true) then (∃ s_3 : (List UInt8), (((AV.str (beM n_1 (1 : Nat))) = (AV.str s_3)) ∧
 ((Lf ((((0 : Int) ≤ (1 : Int)) ∧
 ((1 : Int) ≤ (8 : Int))) ∧
 (((0 : Int) ≤ ty) ∧
 (ty ≤ (9223372036854775807 : Int))))) ∧
 (bif ((eqAVL ((AV.int .i64 ss) :: []) ((AV.int .i64 ss) :: [])) && true) then (bif ((eqAVL ((AV.int .i64 ti) :: []) ((AV.int .i64 ti) :: [])) && true) then (bif ((eqAVL ((AV.int .i64 seq) :: []) ((AV.int .i64 seq) :: [])) && true) then (∃ s_4 : (List UInt8), (((AV.str (beM ty (1 : Nat))) = (AV.str s_4)) ∧
 (bif ((decide (((List.length s_3) + (List.length s_4)) ≤ (9223372036854775807 : Nat))) && true) then (∃ s_5 : (List UInt8), (((AV.str (s_3 ++ s_4)) = (AV.str s_5)) ∧
 ((Lf ((((0 : Int) ≤ (2 : Int)) ∧
 ((2 : Int) ≤ (8 : Int))) ∧
 (((0 : Int) ≤ seq) ∧
 (seq ≤ (9223372036854775807 : Int))))) ∧
 (bif ((eqAVL ((AV.int .i64 ss) :: []) ((AV.int .i64 ss) :: [])) && true) then (bif ((eqAVL ((AV.int .i64 ti) :: []) ((AV.int .i64 ti) :: [])) && true) then (∃ s_6 : (List UInt8), (((AV.str (beM seq (2 : Nat))) = (AV.str s_6)) ∧
 (bif ((decide (((List.length s_5) + (List.length s_6)) ≤ (9223372036854775807 : Nat))) && true) then (∃ s_7 : (List UInt8), (((AV.str (s_5 ++ s_6)) = (AV.str s_7)) ∧
 ((Lf ((((0 : Int) ≤ (4 : Int)) ∧
 ((4 : Int) ≤ (8 : Int))) ∧
 (((0 : Int) ≤ ti) ∧
 (ti ≤ (9223372036854775807 : Int))))) ∧
 (bif ((eqAVL ((AV.int .i64 ss) :: []) ((AV.int .i64 ss) :: [])) && true) then (∃ s_8 : (List UInt8), (((AV.str (beM ti (4 : Nat))) = (AV.str s_8)) ∧
 (bif ((decide (((List.length s_7) + (List.length s_8)) ≤ (9223372036854775807 : Nat))) && true) then (∃ s_9 : (List UInt8), (((AV.str (s_7 ++ s_8)) = (AV.str s_9)) ∧
 ((Lf ((((0 : Int) ≤ (4 : Int)) ∧
 ((4 : Int) ≤ (8 : Int))) ∧
 (((0 : Int) ≤ ss) ∧
 (ss ≤ (9223372036854775807 : Int))))) ∧
 (∃ s_10 : (List UInt8), (((AV.str (beM ss (4 : Nat))) = (AV.str s_10)) ∧
 (bif ((decide (((List.length s_9) + (List.length s_10)) ≤ (9223372036854775807 : Nat))) && true) then (∃ s_11 : (List UInt8), (((AV.str (s_9 ++ s_10)) = (AV.str s_11)) ∧
 ((∃ x_12 : Nat, ((Lf (x_12 ≤ (List.length cs))) ∧
 ((((AV.bool mk) :: ((AV.int .i64 ty) :: ((AV.int .i64 seq) :: ((AV.int .i64 ti) :: ((AV.int .i64 ss) :: ((AV.lst tc (cellsI cs) (List.length cs) (1 : Nat)) :: ((AV.lst tx (cellsXM ex) (List.length ex) (2 : Nat)) :: ((AV.int .i64 pad) :: ((AV.str pl) :: []))))))))) = ((AV.bool mk) :: ((AV.int .i64 ty) :: ((AV.int .i64 seq) :: ((AV.int .i64 ti) :: ((AV.int .i64 ss) :: ((AV.lst tc (cellsI cs) (List.length cs) (1 : Nat)) :: ((AV.lst tx (cellsXM ex) (List.length ex) (2 : Nat)) :: ((AV.int .i64 pad) :: ((AV.str pl) :: [])))))))))) ∧
 (((AV.ptr (0 : Nat) (9 : Nat) (0 : Nat)) = (AV.ptr (0 : Nat) (9 : Nat) (0 : Nat))) ∧
 (((AV.str s_11) = (AV.str (headTM mk ty seq ti ss (List.take x_12 cs) cs (List.length ex) pad))) ∧
 (((AV.int .i64 (0 : Int)) = (AV.int .i64 (Nat.cast x_12 : Int))) ∧
 True)))))) ∧
 (vc_18_1 mk ty seq ti ss tc cs tx ex pad pl Q))))
else False))))))
else False)))
else False))))
else False)))
else False)
else False))))
else False)))
else False)
else False)
else False))))
else False)
else False)
else False)))))))))))) := by kernel_rfl

/-- what is left behind the first two octets' numbers (the residual's own text) -/
def leafH (mk : Bool) (ty seq ti ss : Int) (tc : Nat) (cs : List Int) (tx : Nat) (ex : List Xt) (pad : Int) (pl : List UInt8) (f kk : Int) (Q : Out → List Blk → Gh → Prop) : Prop :=
((Lf ((((0 : Int) ≤ (1 : Int)) ∧
 ((1 : Int) ≤ (8 : Int))) ∧
 (((0 : Int) ≤ f) ∧
 (f ≤ (9223372036854775807 : Int))))) ∧
 (bif ((eqAVL ((AV.int .i64 ss) :: []) ((AV.int .i64 ss) :: [])) && true) then (bif ((eqAVL ((AV.int .i64 ti) :: []) ((AV.int .i64 ti) :: [])) && true) then (bif ((eqAVL ((AV.int .i64 seq) :: []) ((AV.int .i64 seq) :: [])) && true) then (∃ s_6 : (List UInt8), (((AV.str (beM f (1 : Nat))) = (AV.str s_6)) ∧
 ((Lf ((((0 : Int) ≤ (1 : Int)) ∧
 ((1 : Int) ≤ (8 : Int))) ∧
 (((0 : Int) ≤ kk) ∧
 (kk ≤ (9223372036854775807 : Int))))) ∧
 (bif ((eqAVL ((AV.int .i64 ss) :: []) ((AV.int .i64 ss) :: [])) && true) then (bif ((eqAVL ((AV.int .i64 ti) :: []) ((AV.int .i64 ti) :: [])) && true) then (bif ((eqAVL ((AV.int .i64 seq) :: []) ((AV.int .i64 seq) :: [])) && true) then (∃ s_7 : (List UInt8), (((AV.str (beM kk (1 : Nat))) = (AV.str s_7)) ∧
 (bif ((decide (((List.length s_6) + (List.length s_7)) ≤ (9223372036854775807 : Nat))) && true) then (∃ s_8 : (List UInt8), (((AV.str (s_6 ++ s_7)) = (AV.str s_8)) ∧
 ((Lf ((((0 : Int) ≤ (2 : Int)) ∧
 ((2 : Int) ≤ (8 : Int))) ∧
 (((0 : Int) ≤ seq) ∧
 (seq ≤ (9223372036854775807 : Int))))) ∧
 (bif ((eqAVL ((AV.int .i64 ss) :: []) ((AV.int .i64 ss) :: [])) && true) then (bif ((eqAVL ((AV.int .i64 ti) :: []) ((AV.int .i64 ti) :: [])) && true) then (∃ s_9 : (List UInt8), (((AV.str (beM seq (2 : Nat))) = (AV.str s_9)) ∧
 (bif ((decide (((List.length s_8) + (List.length s_9)) ≤ (9223372036854775807 : Nat))) && true) then (∃ s_10 : (List UInt8), (((AV.str (s_8 ++ s_9)) = (AV.str s_10)) ∧
 ((Lf ((((0 : Int) ≤ (4 : Int)) ∧
 ((4 : Int) ≤ (8 : Int))) ∧
 (((0 : Int) ≤ ti) ∧
 (ti ≤ (9223372036854775807 : Int))))) ∧
 (bif ((eqAVL ((AV.int .i64 ss) :: []) ((AV.int .i64 ss) :: [])) && true) then (∃ s_11 : (List UInt8), (((AV.str (beM ti (4 : Nat))) = (AV.str s_11)) ∧
 (bif ((decide (((List.length s_10) + (List.length s_11)) ≤ (9223372036854775807 : Nat))) && true) then (∃ s_12 : (List UInt8), (((AV.str (s_10 ++ s_11)) = (AV.str s_12)) ∧
 ((Lf ((((0 : Int) ≤ (4 : Int)) ∧
 ((4 : Int) ≤ (8 : Int))) ∧
 (((0 : Int) ≤ ss) ∧
 (ss ≤ (9223372036854775807 : Int))))) ∧
 (∃ s_13 : (List UInt8), (((AV.str (beM ss (4 : Nat))) = (AV.str s_13)) ∧
 (bif ((decide (((List.length s_12) + (List.length s_13)) ≤ (9223372036854775807 : Nat))) && true) then (∃ s_14 : (List UInt8), (((AV.str (s_12 ++ s_13)) = (AV.str s_14)) ∧
 ((∃ x_15 : Nat, ((Lf (x_15 ≤ (List.length cs))) ∧
 ((((AV.bool mk) :: ((AV.int .i64 ty) :: ((AV.int .i64 seq) :: ((AV.int .i64 ti) :: ((AV.int .i64 ss) :: ((AV.lst tc (cellsI cs) (List.length cs) (1 : Nat)) :: ((AV.lst tx (cellsXM ex) (List.length ex) (2 : Nat)) :: ((AV.int .i64 pad) :: ((AV.str pl) :: []))))))))) = ((AV.bool mk) :: ((AV.int .i64 ty) :: ((AV.int .i64 seq) :: ((AV.int .i64 ti) :: ((AV.int .i64 ss) :: ((AV.lst tc (cellsI cs) (List.length cs) (1 : Nat)) :: ((AV.lst tx (cellsXM ex) (List.length ex) (2 : Nat)) :: ((AV.int .i64 pad) :: ((AV.str pl) :: [])))))))))) ∧
 (((AV.ptr (0 : Nat) (9 : Nat) (0 : Nat)) = (AV.ptr (0 : Nat) (9 : Nat) (0 : Nat))) ∧
 (((AV.str s_14) = (AV.str (headTM mk ty seq ti ss (List.take x_15 cs) cs (List.length ex) pad))) ∧
 (((AV.int .i64 (0 : Int)) = (AV.int .i64 (Nat.cast x_15 : Int))) ∧
 True)))))) ∧
 (vc_18_1 mk ty seq ti ss tc cs tx ex pad pl Q))))
else False))))))
else False)))
else False))))
else False)))
else False)
else False))))
else False)))
else False)
else False)
else False))))
else False)
else False)
else False))
theorem eqI1 {n : Int} {A : Prop} (h : A) : bif (eqAVL [AV.int .i64 n] [AV.int .i64 n] && true) then A else False := by
  have : eqAVL [AV.int .i64 n] [AV.int .i64 n] = true := by simp [eqAVL, eqAV]
  rw [this]
  exact h
section
variable {mk : Bool} {ty seq ti ss : Int} {tc : Nat} {cs : List Int} {tx : Nat} {ex : List Xt} {pad : Int} {pl : List UInt8}
theorem headT_len (cs' : List Int) (n : Nat) : (headTM mk ty seq ti ss cs' cs n pad).length = 12 + 4 * cs'.length := by
  simp only [headTM, List.length_append, put_len, List.length_cons, List.length_nil]
theorem extP_len (hx : ex.length ≤ 16) (hok : extsOkM 0 ex = true) : (extPM ex).length ≤ 5000 := by
  have h := extB_len3 (shortM ex) ex (fun x hx => (exts_at ex 0 (by omega) hok x hx).2.2)
  rw [extPM, List.length_append, zerosM, List.length_replicate]
  omega
theorem header_loop (hR : rightM ty seq ti ss cs ex pad = true) (Q : Out → List Blk → Gh → Prop) (hq : Q (.ret (.str (headM mk ty seq ti ss cs ex pad))) [] {}) : vc_18_1 mk ty seq ti ss tc cs tx ex pad pl Q := by
  obtain ⟨-, hc, hx, hok, -⟩ := right_of hR
  have h9 : ∀ x ∈ cs, 0 ≤ x ∧ x < 4294967296 := by
    rw [rightM, Bool.and_eq_true] at hR
    exact (of_decide_eq_true hR.1).2.2.2.2.2.2.2.2.1
  rintro i ⟨hi⟩
  have hl := headT_len (mk := mk) (ty := ty) (seq := seq) (ti := ti) (ss := ss) (cs := cs) (pad := pad) (cs.take i) ex.length
  rw [List.length_take, Nat.min_eq_left hi] at hl
  refine ⟨_, rfl, _, rfl, splitD (fun hlt => ?_) (fun hge => ?_)⟩
  · have hlt' : i < cs.length := by omega
    have hr := h9 _ (List.getElem_mem hlt')
    refine ⟨_, rfl, _, rfl, ixI hlt' (ckI (by rw [cellsI_length]; simp; omega) (cellsI_get hlt' ⟨⟨by omega, by omega, by omega⟩, _, rfl, ckI (by rw [hl, be_len]; simp; omega) ⟨_, rfl, _, rfl, wrapI (by omega) (by omega) ⟨⟨trivial, rfl⟩, i + 1, ⟨hlt'⟩, by omega, rfl, rfl, ?_, rfl, trivial⟩⟩⟩ (by simp)))⟩
    have e : cs.getD i 0 = cs[i] := by rw [List.getD_eq_getElem?_getD, List.getElem?_eq_getElem hlt']; rfl
    rw [headTM, headTM, put_take 4 cs hlt', e, List.append_assoc (_ ++ _ ++ _)]
  · have hie : i = cs.length := by omega
    subst hie
    have hh : headTM mk ty seq ti ss (cs.take cs.length) cs ex.length pad = headBM mk ty seq ti ss cs ex.length pad := by rw [List.take_length]; rfl
    rw [hh] at hl ⊢
    have hp := extP_len hx hok
    refine ⟨_, rfl, splitD (fun hgt => ?_) (fun hz => ?_)⟩
    · have hd : dataM ex := fun x hx => by have := exts_at ex 0 (by omega) hok x hx; omega
      have hM : headM mk ty seq ti ss cs ex pad = headBM mk ty seq ti ss cs ex.length pad ++ beM (profM (shortM ex)) 2 ++ beM (((extPM ex).length / 4 : Nat) : Int) 2 ++ extPM ex := by
        rw [headM, if_neg (by omega), putM, putM, putM, List.append_nil]
        simp only [List.append_assoc]
      rw [hM] at hq
      refine ⟨ex, ⟨rfl, rfl, hx, hok⟩, ?_⟩
      rintro s ⟨rfl⟩
      refine ⟨ex, ⟨rfl, rfl, by omega, hd⟩, splitI (fun hs => ?_) (fun hs => ?_)⟩
      all_goals
        rw [hs] at hq
        refine ⟨_, rfl, ⟨by omega, by omega, by omega⟩, ckI (by rw [hl]; simp; omega) ⟨_, rfl, _, rfl, tdI (d := 4) rfl (by omega) ⟨⟨by omega, by omega, by omega⟩, _, rfl, ckI (by rw [List.length_append, hl, be_len, be_len]; simp; omega) ⟨_, rfl, ckI (by rw [List.length_append, List.length_append, hl, be_len, be_len]; simp; omega) ⟨_, rfl, _, rfl, hq⟩⟩⟩⟩⟩
    · have hM : headM mk ty seq ti ss cs ex pad = headBM mk ty seq ti ss cs ex.length pad := by rw [headM, if_pos (by omega), List.append_nil]
      rw [hM] at hq
      exact ⟨_, rfl, hq⟩
theorem leaf_run (hR : rightM ty seq ti ss cs ex pad = true) (Q : Out → List Blk → Gh → Prop) (hq : Q (.ret (.str (headM mk ty seq ti ss cs ex pad))) [] {}) (f kk : Int) (hf : f = fstM cs ex.length pad) (hk : kk = kindM mk ty) : leafH mk ty seq ti ss tc cs tx ex pad pl f kk Q := by
  obtain ⟨r1, r2, r3, r4, r5⟩ := right_of hR
  obtain ⟨a1, a2, a3, a4, a5, a6, a7, a8, a9, a10, a11, a12, a13⟩ : (0 ≤ ty ∧ ty ≤ 127 ∧ 0 ≤ seq ∧ seq ≤ 65535 ∧ 0 ≤ ti ∧ ti < 4294967296 ∧ 0 ≤ ss ∧ ss < 4294967296 ∧ (∀ x ∈ cs, 0 ≤ x ∧ x < 4294967296) ∧ 0 ≤ pad ∧ pad ≤ 255 ∧ cs.length ≤ 15 ∧ ex.length ≤ 16) := by
    rw [rightM, Bool.and_eq_true] at hR
    exact of_decide_eq_true hR.1
  have b1 : 0 ≤ f ∧ f ≤ 255 := by
    rw [hf, fstM]
    (repeat' split) <;> omega
  have b2 : 0 ≤ kk ∧ kk ≤ 255 := by
    rw [hk, kindM]
    split <;> omega
  unfold leafH
  refine ⟨⟨by omega, by omega, by omega⟩, eqI1 (eqI1 (eqI1 ⟨_, rfl, ⟨by omega, by omega, by omega⟩, eqI1 (eqI1 (eqI1 ⟨_, rfl, ckI (by simp [be_len]) ⟨_, rfl, ?_⟩⟩))⟩))⟩
  refine ⟨⟨by omega, by omega, by omega⟩, eqI1 (eqI1 ⟨_, rfl, ckI (by simp [be_len]) ⟨_, rfl, ?_⟩⟩)⟩
  refine ⟨⟨by omega, by omega, by omega⟩, eqI1 ⟨_, rfl, ckI (by simp [be_len]) ⟨_, rfl, ?_⟩⟩⟩
  refine ⟨⟨by omega, by omega, by omega⟩, _, rfl, ckI (by simp [be_len]) ⟨_, rfl, ⟨0, ⟨by omega⟩, rfl, rfl, ?_, rfl, trivial⟩, header_loop hR Q hq⟩⟩
  rw [hf, hk, List.take_zero]
  simp only [headTM, putM, List.append_assoc, List.append_nil]
theorem header18_run (hR : rightM ty seq ti ss cs ex pad = true) (Q : Out → List Blk → Gh → Prop) (hq : Q (.ret (.str (headM mk ty seq ti ss cs ex pad))) [] {}) : ∃ hv hb, goal_18 hv hb mk ty seq ti ss tc cs tx ex pad pl Q := by
  obtain ⟨hv, hb', e⟩ : ∃ hv hb, goal_18 hv hb mk ty seq ti ss tc cs tx ex pad pl Q = _ := ⟨_, _, vc_18 mk ty seq ti ss tc cs tx ex pad pl Q⟩
  refine ⟨hv, hb', e.mpr ?_⟩
  clear e
  obtain ⟨r1, r2, r3, r4, r5⟩ := right_of hR
  have kt : mk = true → ty + 128 = kindM mk ty := fun h => by rw [kindM, if_pos h]
  have kf : mk = false → ty = kindM mk ty := fun h => by rw [kindM, if_neg (by rw [h]; simp), Int.add_zero]
  have L := leaf_run (tc := tc) (tx := tx) (pl := pl) hR Q hq
  refine ⟨_, rfl, wrapI (by omega) (by omega) (splitD (fun hp => wrapI (by omega) (by omega) ⟨_, rfl, splitD (fun hx => wrapI (by omega) (by omega) ?_) (fun hx => ?_)⟩) (fun hp => ⟨_, rfl, splitD (fun hx => wrapI (by omega) (by omega) ?_) (fun hx => ?_)⟩))⟩
  · have hf : (128 : Int) + cs.length + 32 + 16 = fstM cs ex.length pad := by rw [fstM, if_pos (by omega), if_pos (by omega)]
    exact splitI (fun hm => wrapI (by omega) (by omega) (L _ _ hf (kt hm))) (fun hm => L _ _ hf (kf hm))
  · have hf : (128 : Int) + cs.length + 32 = fstM cs ex.length pad := by rw [fstM, if_pos (by omega), if_neg (by omega), Int.add_zero]
    exact splitI (fun hm => wrapI (by omega) (by omega) (L _ _ hf (kt hm))) (fun hm => L _ _ hf (kf hm))
  · have hf : (128 : Int) + cs.length + 16 = fstM cs ex.length pad := by rw [fstM, if_neg (by omega), if_pos (by omega), Int.add_zero]
    exact splitI (fun hm => wrapI (by omega) (by omega) (L _ _ hf (kt hm))) (fun hm => L _ _ hf (kf hm))
  · have hf : (128 : Int) + cs.length = fstM cs ex.length pad := by rw [fstM, if_neg (by omega), if_neg (by omega), Int.add_zero, Int.add_zero]
    exact splitI (fun hm => wrapI (by omega) (by omega) (L _ _ hf (kt hm))) (fun hm => L _ _ hf (kf hm))
end
def cRHead : Con
  | [.agg [.bool mk, .int .i64 ty, .int .i64 seq, .int .i64 ti, .int .i64 ss, .lst _ c5 n5 1, .lst _ c6 n6 2, .int .i64 pad, .str pl]], H, K => ∃ (cs : List Int) (ex : List Xt), Lf (medK c5 n5 c6 n6 cs ex ∧ rightM ty seq ti ss cs ex pad = true) ∧
      ∀ s : List UInt8, Lf (s = headM mk ty seq ti ss cs ex pad) → K (.ret (.str s)) H
  | _, _, _ => False
theorem rhead_ok : ValidF Tryd.prog gl0 18 cRHead := by
  refine valid_flat (enters_of (by kernel_rfl)) gl0_noY fun args H Q hc => ?_
  unfold cRHead at hc
  split at hc
  · rename_i mk ty seq ti ss tc c5 n5 tx c6 n6 pad pl
    obtain ⟨cs, ex, ⟨⟨rfl, rfl, rfl, rfl, k1, k2, hd⟩, hR⟩, hq⟩ := hc
    obtain ⟨hv, hb', h⟩ := header18_run (mk := mk) (tc := tc) (tx := tx) (pl := pl) hR (fun o H' _ => H' = [] ∧ (∃ v, o = .ret v ∧ old 0 v = true ∧ noY v = true) ∧ Q o H) ⟨rfl, ⟨_, rfl, rfl, rfl⟩, hq _ ⟨rfl⟩⟩
    refine ⟨rfl, rfl, _, 1000, ?_, rfl, h⟩
    exact ⟨mixed23, names23, tabA_ok, smR_ok⟩
  · exact hc.elim
end Go.Proofs.YtbchmkhliehbfaaDoor

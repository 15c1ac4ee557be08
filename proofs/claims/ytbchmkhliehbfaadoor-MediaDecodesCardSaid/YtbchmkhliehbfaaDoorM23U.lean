/-
  Chapter 23: a packet changed in one place.
-/
import Derived.Test.YtbchmkhliehbfaaDoorM23S
set_option linter.unusedSimpArgs false
set_option linter.unusedVariables false
set_option linter.unusedSectionVars false
namespace Go.Proofs.YtbchmkhliehbfaaDoor
open Go.RowKit
set_option maxRecDepth 1000000

def smU : SM := lookS [(31, cOct)]
theorem smU_ok : ∀ f g, smU f = some g → ValidF Tryd.prog gl0 f g := lookS_ok _ (by simp only [List.mem_cons, List.not_mem_nil, or_false, forall_eq]; exact oct_ok)
def bendA (what at' n : Int) : List AV := [.int .u8 what, .int .u8 at', .int .i64 n]
def setM (l : List AV) (o : Nat) (x : List UInt8) : List AV := setRange l o [.str x]
def setXB : List Blk → Nat → Nat → List UInt8 → List Blk
  | [], _, _, _ => []
  | bl :: l, 0, o, x => ⟨bl.k, bl.lf, setM bl.cs o x⟩ :: l
  | bl :: l, b + 1, o, x => bl :: setXB l b o x
def inv_11d (s : S) : List (List LInv) := match s.tm.get 5, s.hp with
  | .ptr b w off, hp => [[{ α := List UInt8, pre := fun x => Lf (x.length ≤ 300), st := fun x => ⟨mkT [(3, .ptr 1 9 0), (4, .ptr 2 9 0), (5, .ptr b w off)], setXB hp b (off + 1) x⟩, mu := fun x => 300 - x.length }]]
  | _, _ => []
def lastB : List AV → List UInt8 → List AV
  | [a0, a1, a2, a3, a4, a5, a6, a7, _], x => [a0, a1, a2, a3, a4, a5, a6, a7, .str x]
  | l, _ => l
def inv_11p (s : S) : List (List LInv) := match s.hp with
  | b0 :: b1 :: rest => [[{ α := List UInt8, pre := fun x => Lf (x.length ≤ 1300), st := fun x => ⟨mkT [(2, .ptr 0 3 0), (3, .ptr 1 9 0), (4, .ptr 2 9 0)], b0 :: ⟨b1.k, b1.lf, lastB b1.cs x⟩ :: rest⟩, mu := fun x => 1300 - x.length }]]
  | _ => []
noncomputable def env_11 (hv : Nat → Option Pa) (hb : Nat → Option Bool) : Env := e23 smU (fun i => bif Nat.beq i 11001 then some inv_11p else bif Nat.beq i 11003 then some inv_11d else none) hv hb
noncomputable def goal_11 (hv : Nat → Option Pa) (hb : Nat → Option Bool) (what at' n : Int) (mk : Bool) (ty seq ti ss : Int) (tc : Nat) (cs : List Int) (tx : Nat) (ex : List Xt) (pad : Int) (pl : List UInt8) (Q : Out → List Blk → Gh → Prop) : Prop :=
  callx (env_11 hv hb) (wpx (env_11 hv hb) 1000) 11 [.agg (bendA what at' n), .agg (medM mk ty seq ti ss tc cs tx ex pad pl)] [] {} Q
/-- an end of Bend.Of -/
@[reducible] def lfU (what at' n : Int) (M : List AV) (R : List Blk) (Q : Out → List Blk → Gh → Prop) : Prop := Q (.ret (.agg M)) (⟨.exact, true, [.int .u8 what, .int .u8 at', .int .i64 n]⟩ :: ⟨.exact, false, M⟩ :: ⟨.exact, false, M⟩ :: R) {}
def vc_11_1 : Prop := (
(((mdL false (0 : Int) (0 : Int) (0 : Int) (0 : Int) AV.nils AV.nils (0 : Int) []) = (mdL false (0 : Int) (0 : Int) (0 : Int) (0 : Int) AV.nils AV.nils (0 : Int) [])) ∧
 ((([] : (List AV)) = []) ∧
 ((([] : (List AV)) = []) ∧
 (((AV.ptr (1 : Nat) (9 : Nat) (0 : Nat)) = (AV.ptr (1 : Nat) (9 : Nat) (0 : Nat))) ∧
 (((AV.ptr (0 : Nat) (3 : Nat) (0 : Nat)) = (AV.ptr (0 : Nat) (3 : Nat) (0 : Nat))) ∧
 (((AV.ptr (2 : Nat) (9 : Nat) (0 : Nat)) = (AV.ptr (2 : Nat) (9 : Nat) (0 : Nat))) ∧
 True)))))))
def vc_11_2 (ex : List Xt) : Prop := (
((([] : (List AV)) = []) ∧
 (bif ((oldL (0 : Nat) ([] ++ (cellsXM ex))) == (oldL (0 : Nat) ([] ++ (cellsXM ex)))) then ((([] ++ (cellsXM ex)) = ([] ++ (cellsXM ex))) ∧
 (((AV.ptr (1 : Nat) (9 : Nat) (0 : Nat)) = (AV.ptr (1 : Nat) (9 : Nat) (0 : Nat))) ∧
 (((AV.ptr (0 : Nat) (3 : Nat) (0 : Nat)) = (AV.ptr (0 : Nat) (3 : Nat) (0 : Nat))) ∧
 (((AV.ptr (2 : Nat) (9 : Nat) (0 : Nat)) = (AV.ptr (2 : Nat) (9 : Nat) (0 : Nat))) ∧
 True))))
else False)))
def vc_11_3 (ex : List Xt) : Prop := (
(((mdL false (0 : Int) (0 : Int) (0 : Int) (0 : Int) AV.nils AV.nils (0 : Int) []) = (mdL false (0 : Int) (0 : Int) (0 : Int) (0 : Int) AV.nils AV.nils (0 : Int) [])) ∧
 ((([] : (List AV)) = []) ∧
 (vc_11_2 ex))))
def vc_11_4 (cs : List Int) : Prop := (
(((mdL false (0 : Int) (0 : Int) (0 : Int) (0 : Int) AV.nils AV.nils (0 : Int) []) = (mdL false (0 : Int) (0 : Int) (0 : Int) (0 : Int) AV.nils AV.nils (0 : Int) [])) ∧
 ((([] : (List AV)) = []) ∧
 (bif ((oldL (0 : Nat) ([] ++ (cellsI cs))) == (oldL (0 : Nat) ([] ++ (cellsI cs)))) then ((([] ++ (cellsI cs)) = ([] ++ (cellsI cs))) ∧
 ((([] : (List AV)) = []) ∧
 (((AV.ptr (1 : Nat) (9 : Nat) (0 : Nat)) = (AV.ptr (1 : Nat) (9 : Nat) (0 : Nat))) ∧
 (((AV.ptr (0 : Nat) (3 : Nat) (0 : Nat)) = (AV.ptr (0 : Nat) (3 : Nat) (0 : Nat))) ∧
 (((AV.ptr (2 : Nat) (9 : Nat) (0 : Nat)) = (AV.ptr (2 : Nat) (9 : Nat) (0 : Nat))) ∧
 True)))))
else False))))
def vc_11_5 (cs : List Int) (ex : List Xt) : Prop := (
(((mdL false (0 : Int) (0 : Int) (0 : Int) (0 : Int) AV.nils AV.nils (0 : Int) []) = (mdL false (0 : Int) (0 : Int) (0 : Int) (0 : Int) AV.nils AV.nils (0 : Int) [])) ∧
 ((([] : (List AV)) = []) ∧
 (bif ((oldL (0 : Nat) ([] ++ (cellsI cs))) == (oldL (0 : Nat) ([] ++ (cellsI cs)))) then ((([] ++ (cellsI cs)) = ([] ++ (cellsI cs))) ∧
 (vc_11_2 ex))
else False))))
theorem vc_11 (what : Int) (at' : Int) (n : Int) (mk : Bool) (ty : Int) (seq : Int) (ti : Int) (ss : Int) (tc : Nat) (cs : List Int) (tx : Nat) (ex : List Xt) (pad : Int) (pl : List UInt8) (Q : Out → List Blk → Gh → Prop) : goal_11 (lookV [(45074, .int .u8), (45077, .int .i64), (45080, .int .u8), (45081, .int .i64), (45082, .int .i64), (45088, .int .i64), (45089, .str), (45090, .str), (45140, .int .i64), (45146, .int .i64), (45149, .int .i64), (45150, .int .i64), (45159, .int .i64), (45165, .int .i64), (45168, .int .i64), (45169, .int .i64), (45174, .str), (45175, .int .i64), (45181, .str), (45185, .str), (45186, .int .i64), (45187, .str), (45188, .str)]) (lookB [(1045068288, true), (1045060096, true)]) what at' n mk ty seq ti ss tc cs tx ex pad pl Q = (
(bif ((((Nat.beq (List.length (cellsI cs)) ((List.length cs) * (1 : Nat))) && (oneL (cellsI cs))) && true) && (Nat.ble ((List.length cs) * (8 : Nat)) (1099511627776 : Nat))) then (bif (Nat.beq (List.length cs) (0 : Nat)) then (bif (Nat.beq (List.length cs) (0 : Nat)) then (bif ((((Nat.beq (List.length (cellsXM ex)) ((List.length ex) * (2 : Nat))) && (oneL (cellsXM ex))) && true) && (Nat.ble ((List.length ex) * (24 : Nat)) (1099511627776 : Nat))) then (bif (Nat.beq (List.length ex) (0 : Nat)) then (bif (Nat.beq (List.length ex) (0 : Nat)) then (∃ n_0 : Int, (((AV.int .u8 (Int.tmod what (10 : Int))) = (AV.int .u8 n_0)) ∧
 (bif (n_0 == (0 : Int)) then (lfU what at' n (mdL mk n seq ti ss (AV.sl (3 : Nat) (0 : Nat) (0 : Nat) (0 : Nat) (1 : Nat)) (AV.sl (4 : Nat) (0 : Nat) (0 : Nat) (0 : Nat) (2 : Nat)) pad pl) ((Blk.mk BK.exact true []) :: ((Blk.mk BK.exact true []) :: [])) Q)
else (bif (n_0 == (1 : Int)) then (lfU what at' n (mdL mk ty n ti ss (AV.sl (3 : Nat) (0 : Nat) (0 : Nat) (0 : Nat) (1 : Nat)) (AV.sl (4 : Nat) (0 : Nat) (0 : Nat) (0 : Nat) (2 : Nat)) pad pl) ((Blk.mk BK.exact true []) :: ((Blk.mk BK.exact true []) :: [])) Q)
else (bif (n_0 == (2 : Int)) then (lfU what at' n (mdL mk ty seq n ss (AV.sl (3 : Nat) (0 : Nat) (0 : Nat) (0 : Nat) (1 : Nat)) (AV.sl (4 : Nat) (0 : Nat) (0 : Nat) (0 : Nat) (2 : Nat)) pad pl) ((Blk.mk BK.exact true []) :: ((Blk.mk BK.exact true []) :: [])) Q)
else (bif (n_0 == (3 : Int)) then (lfU what at' n (mdL mk ty seq ti n (AV.sl (3 : Nat) (0 : Nat) (0 : Nat) (0 : Nat) (1 : Nat)) (AV.sl (4 : Nat) (0 : Nat) (0 : Nat) (0 : Nat) (2 : Nat)) pad pl) ((Blk.mk BK.exact true []) :: ((Blk.mk BK.exact true []) :: [])) Q)
else (bif (n_0 == (4 : Int)) then (lfU what at' n (mdL mk ty seq ti ss (AV.sl (3 : Nat) (0 : Nat) (0 : Nat) (0 : Nat) (1 : Nat)) (AV.sl (4 : Nat) (0 : Nat) (0 : Nat) (0 : Nat) (2 : Nat)) n pl) ((Blk.mk BK.exact true []) :: ((Blk.mk BK.exact true []) :: [])) Q)
else (bif (n_0 == (5 : Int)) then (lfU what at' n (mdL mk ty seq ti ss (AV.sl (6 : Nat) (1 : Nat) (0 : Nat) (1 : Nat) (1 : Nat)) (AV.sl (4 : Nat) (0 : Nat) (0 : Nat) (0 : Nat) (2 : Nat)) pad pl) ((Blk.mk BK.exact true []) :: ((Blk.mk BK.exact true []) :: ((Blk.mk BK.exact true ((AV.int .i64 n) :: [])) :: ((Blk.mk BK.grow true ((AV.int .i64 n) :: [])) :: [])))) Q)
else (bif (n_0 == (6 : Int)) then (lfU what at' n (mdL mk ty seq ti ss (AV.sl (3 : Nat) (0 : Nat) (0 : Nat) (0 : Nat) (1 : Nat)) (AV.sl (6 : Nat) (2 : Nat) (0 : Nat) (1 : Nat) (2 : Nat)) pad pl) ((Blk.mk BK.exact true []) :: ((Blk.mk BK.exact true []) :: ((Blk.mk BK.exact true ((AV.int .i64 n) :: ((AV.str []) :: []))) :: ((Blk.mk BK.grow true ((AV.int .i64 n) :: ((AV.str []) :: []))) :: [])))) Q)
else (bif (n_0 == (7 : Int)) then (∃ n_1 : Int, (((AV.int .i64 (0 : Int)) = (AV.int .i64 n_1)) ∧
 (bif (decide (n_1 > (0 : Int))) then (∃ n_2 : Int, (((AV.int .i64 (IntKind.wrap .i64 at')) = (AV.int .i64 n_2)) ∧
 (∃ n_3 : Int, (((AV.int .i64 (0 : Int)) = (AV.int .i64 n_3)) ∧
 (bif ((n_3 != (0 : Int)) && true) then (∃ n_4 : Int, (((AV.int .i64 (Int.tmod n_2 n_3)) = (AV.int .i64 n_4)) ∧
 (bif ((((decide ((0 : Int) ≤ n_4)) && false) && true) && true) then False
else False)))
else False)))))
else (lfU what at' n (mdL mk ty seq ti ss (AV.sl (3 : Nat) (0 : Nat) (0 : Nat) (0 : Nat) (1 : Nat)) (AV.sl (4 : Nat) (0 : Nat) (0 : Nat) (0 : Nat) (2 : Nat)) pad pl) ((Blk.mk BK.exact true []) :: ((Blk.mk BK.exact true []) :: [])) Q))))
else (bif (n_0 == (8 : Int)) then (∃ n_1 : Int, (((AV.int .i64 (0 : Int)) = (AV.int .i64 n_1)) ∧
 (bif (decide (n_1 > (0 : Int))) then (∃ n_2 : Int, (((AV.int .i64 (IntKind.wrap .i64 at')) = (AV.int .i64 n_2)) ∧
 (∃ n_3 : Int, (((AV.int .i64 (0 : Int)) = (AV.int .i64 n_3)) ∧
 (bif ((n_3 != (0 : Int)) && true) then (∃ n_4 : Int, (((AV.int .i64 (Int.tmod n_2 n_3)) = (AV.int .i64 n_4)) ∧
 (bif ((((decide ((0 : Int) ≤ n_4)) && false) && true) && true) then ((∃ x_5 : (List UInt8), ((Lf ((List.length x_5) ≤ (300 : Nat))) ∧
 ((((AV.int .u8 what) :: ((AV.int .u8 at') :: ((AV.int .i64 n) :: []))) = ((AV.int .u8 what) :: ((AV.int .u8 at') :: ((AV.int .i64 n) :: [])))) ∧
 (((mdL mk ty seq ti ss (AV.sl (3 : Nat) (0 : Nat) (0 : Nat) (0 : Nat) (1 : Nat)) (AV.sl (4 : Nat) (0 : Nat) (0 : Nat) (0 : Nat) (2 : Nat)) pad pl) = (mdL mk ty seq ti ss (AV.sl (3 : Nat) (0 : Nat) (0 : Nat) (0 : Nat) (1 : Nat)) (AV.sl (4 : Nat) (0 : Nat) (0 : Nat) (0 : Nat) (2 : Nat)) pad pl)) ∧
 (((mdL false (0 : Int) (0 : Int) (0 : Int) (0 : Int) AV.nils AV.nils (0 : Int) []) = (mdL false (0 : Int) (0 : Int) (0 : Int) (0 : Int) AV.nils AV.nils (0 : Int) [])) ∧
 ((([] : (List AV)) = []) ∧
 ((([] : (List AV)) = ((AV.str x_5) :: [])) ∧
 (((AV.ptr (1 : Nat) (9 : Nat) (0 : Nat)) = (AV.ptr (1 : Nat) (9 : Nat) (0 : Nat))) ∧
 (((AV.ptr (4 : Nat) (0 : Nat) ((0 : Nat) + ((Int.toNat n_4) * (2 : Nat)))) = (AV.ptr (4 : Nat) (0 : Nat) ((0 : Nat) + ((Int.toNat n_4) * (2 : Nat))))) ∧
 (((AV.ptr (2 : Nat) (9 : Nat) (0 : Nat)) = (AV.ptr (2 : Nat) (9 : Nat) (0 : Nat))) ∧
 True)))))))))) ∧
 (∀ x_5 : (List UInt8), ((Lf ((List.length x_5) ≤ (300 : Nat))) →
False)))
else False)))
else False)))))
else (lfU what at' n (mdL mk ty seq ti ss (AV.sl (3 : Nat) (0 : Nat) (0 : Nat) (0 : Nat) (1 : Nat)) (AV.sl (4 : Nat) (0 : Nat) (0 : Nat) (0 : Nat) (2 : Nat)) pad pl) ((Blk.mk BK.exact true []) :: ((Blk.mk BK.exact true []) :: [])) Q))))
else ((∃ x_1 : (List UInt8), ((Lf ((List.length x_1) ≤ (1300 : Nat))) ∧
 ((((AV.int .u8 what) :: ((AV.int .u8 at') :: ((AV.int .i64 n) :: []))) = ((AV.int .u8 what) :: ((AV.int .u8 at') :: ((AV.int .i64 n) :: [])))) ∧
 (((mdL mk ty seq ti ss (AV.sl (3 : Nat) (0 : Nat) (0 : Nat) (0 : Nat) (1 : Nat)) (AV.sl (4 : Nat) (0 : Nat) (0 : Nat) (0 : Nat) (2 : Nat)) pad pl) = (mdL mk ty seq ti ss (AV.sl (3 : Nat) (0 : Nat) (0 : Nat) (0 : Nat) (1 : Nat)) (AV.sl (4 : Nat) (0 : Nat) (0 : Nat) (0 : Nat) (2 : Nat)) pad x_1)) ∧
 vc_11_1)))) ∧
 (∀ x_1 : (List UInt8), ((Lf ((List.length x_1) ≤ (1300 : Nat))) →
(∃ n_2 : Int, (((AV.int .i64 (Nat.cast (List.length x_1) : Int)) = (AV.int .i64 n_2)) ∧
 (∃ n_3 : Int, (((AV.int .u8 (Int.tmod at' (4 : Int))) = (AV.int .u8 n_3)) ∧
 (∃ n_4 : Int, (((AV.int .i64 (IntKind.wrap .i64 n_3)) = (AV.int .i64 n_4)) ∧
 (∃ n_5 : Int, (((AV.int .i64 (IntKind.wrap .i64 ((1188 : Int) + n_4))) = (AV.int .i64 n_5)) ∧
 (bif (decide (n_2 < n_5)) then (∃ n_6 : Int, (((AV.int .i64 (Nat.cast (List.length x_1) : Int)) = (AV.int .i64 n_6)) ∧
 ((Lf ((((0 : Int) ≤ (4 : Int)) ∧
 ((4 : Int) ≤ (8 : Int))) ∧
 (((0 : Int) ≤ n_6) ∧
 (n_6 ≤ (9223372036854775807 : Int))))) ∧
 (bif ((eqAVL ((AV.str x_1) :: []) ((AV.str x_1) :: [])) && true) then (∃ s_7 : (List UInt8), (((AV.str (beM n_6 (4 : Nat))) = (AV.str s_7)) ∧
 (bif ((decide (((List.length x_1) + (List.length s_7)) ≤ (9223372036854775807 : Nat))) && true) then (∃ s_8 : (List UInt8), (((AV.str (x_1 ++ s_7)) = (AV.str s_8)) ∧
 ((true = true) ∧
 ((True ∧
 ((0 : Nat) = (0 : Nat))) ∧
 (∃ y_9 : (List UInt8), ((Lf ((List.length y_9) ≤ (1300 : Nat))) ∧
 ((((1300 : Nat) - (List.length y_9)) < ((1300 : Nat) - (List.length x_1))) ∧
 ((((AV.int .u8 what) :: ((AV.int .u8 at') :: ((AV.int .i64 n) :: []))) = ((AV.int .u8 what) :: ((AV.int .u8 at') :: ((AV.int .i64 n) :: [])))) ∧
 (((mdL mk ty seq ti ss (AV.sl (3 : Nat) (0 : Nat) (0 : Nat) (0 : Nat) (1 : Nat)) (AV.sl (4 : Nat) (0 : Nat) (0 : Nat) (0 : Nat) (2 : Nat)) pad s_8) = (mdL mk ty seq ti ss (AV.sl (3 : Nat) (0 : Nat) (0 : Nat) (0 : Nat) (1 : Nat)) (AV.sl (4 : Nat) (0 : Nat) (0 : Nat) (0 : Nat) (2 : Nat)) pad y_9)) ∧
 vc_11_1)))))))))
else False)))
else False))))
else (lfU what at' n (mdL mk ty seq ti ss (AV.sl (3 : Nat) (0 : Nat) (0 : Nat) (0 : Nat) (1 : Nat)) (AV.sl (4 : Nat) (0 : Nat) (0 : Nat) (0 : Nat) (2 : Nat)) pad x_1) ((Blk.mk BK.exact true []) :: ((Blk.mk BK.exact true []) :: [])) Q))))))))))))))))))))))))
else False)
else (bif (Nat.blt (0 : Nat) (List.length ex)) then (bif ((Nat.ble ((0 : Nat) + (List.length ex)) (1099511627776 : Nat)) && (Nat.ble (((0 : Nat) + (List.length ex)) * (24 : Nat)) (1099511627776 : Nat))) then (∃ n_0 : Int, (((AV.int .u8 (Int.tmod what (10 : Int))) = (AV.int .u8 n_0)) ∧
 (bif (n_0 == (0 : Int)) then (lfU what at' n (mdL mk n seq ti ss (AV.sl (3 : Nat) (0 : Nat) (0 : Nat) (0 : Nat) (1 : Nat)) (AV.sl (5 : Nat) ((0 : Nat) + (List.length (cellsXM ex))) (0 : Nat) ((0 : Nat) + (List.length ex)) (2 : Nat)) pad pl) ((Blk.mk BK.exact true []) :: ((Blk.mk BK.exact true []) :: ((Blk.mk BK.grow (oldL (0 : Nat) ([] ++ (cellsXM ex))) ([] ++ (cellsXM ex))) :: []))) Q)
else (bif (n_0 == (1 : Int)) then (lfU what at' n (mdL mk ty n ti ss (AV.sl (3 : Nat) (0 : Nat) (0 : Nat) (0 : Nat) (1 : Nat)) (AV.sl (5 : Nat) ((0 : Nat) + (List.length (cellsXM ex))) (0 : Nat) ((0 : Nat) + (List.length ex)) (2 : Nat)) pad pl) ((Blk.mk BK.exact true []) :: ((Blk.mk BK.exact true []) :: ((Blk.mk BK.grow (oldL (0 : Nat) ([] ++ (cellsXM ex))) ([] ++ (cellsXM ex))) :: []))) Q)
else (bif (n_0 == (2 : Int)) then (lfU what at' n (mdL mk ty seq n ss (AV.sl (3 : Nat) (0 : Nat) (0 : Nat) (0 : Nat) (1 : Nat)) (AV.sl (5 : Nat) ((0 : Nat) + (List.length (cellsXM ex))) (0 : Nat) ((0 : Nat) + (List.length ex)) (2 : Nat)) pad pl) ((Blk.mk BK.exact true []) :: ((Blk.mk BK.exact true []) :: ((Blk.mk BK.grow (oldL (0 : Nat) ([] ++ (cellsXM ex))) ([] ++ (cellsXM ex))) :: []))) Q)
else (bif (n_0 == (3 : Int)) then (lfU what at' n (mdL mk ty seq ti n (AV.sl (3 : Nat) (0 : Nat) (0 : Nat) (0 : Nat) (1 : Nat)) (AV.sl (5 : Nat) ((0 : Nat) + (List.length (cellsXM ex))) (0 : Nat) ((0 : Nat) + (List.length ex)) (2 : Nat)) pad pl) ((Blk.mk BK.exact true []) :: ((Blk.mk BK.exact true []) :: ((Blk.mk BK.grow (oldL (0 : Nat) ([] ++ (cellsXM ex))) ([] ++ (cellsXM ex))) :: []))) Q)
else (bif (n_0 == (4 : Int)) then (lfU what at' n (mdL mk ty seq ti ss (AV.sl (3 : Nat) (0 : Nat) (0 : Nat) (0 : Nat) (1 : Nat)) (AV.sl (5 : Nat) ((0 : Nat) + (List.length (cellsXM ex))) (0 : Nat) ((0 : Nat) + (List.length ex)) (2 : Nat)) n pl) ((Blk.mk BK.exact true []) :: ((Blk.mk BK.exact true []) :: ((Blk.mk BK.grow (oldL (0 : Nat) ([] ++ (cellsXM ex))) ([] ++ (cellsXM ex))) :: []))) Q)
else (bif (n_0 == (5 : Int)) then (lfU what at' n (mdL mk ty seq ti ss (AV.sl (7 : Nat) (1 : Nat) (0 : Nat) (1 : Nat) (1 : Nat)) (AV.sl (5 : Nat) ((0 : Nat) + (List.length (cellsXM ex))) (0 : Nat) ((0 : Nat) + (List.length ex)) (2 : Nat)) pad pl) ((Blk.mk BK.exact true []) :: ((Blk.mk BK.exact true []) :: ((Blk.mk BK.grow (oldL (0 : Nat) ([] ++ (cellsXM ex))) ([] ++ (cellsXM ex))) :: ((Blk.mk BK.exact true ((AV.int .i64 n) :: [])) :: ((Blk.mk BK.grow true ((AV.int .i64 n) :: [])) :: []))))) Q)
else (bif (n_0 == (6 : Int)) then (bif (((((Nat.beq (List.length ([] ++ (cellsXM ex))) ((0 : Nat) + (List.length (cellsXM ex)))) && true) && (Nat.beq ((0 : Nat) + (((0 : Nat) + (List.length ex)) * (2 : Nat))) ((0 : Nat) + (List.length (cellsXM ex))))) && (Nat.ble (((0 : Nat) + (List.length ex)) + (1 : Nat)) (1099511627776 : Nat))) && (Nat.ble ((((0 : Nat) + (List.length ex)) + (1 : Nat)) * (24 : Nat)) (1099511627776 : Nat))) then (lfU what at' n (mdL mk ty seq ti ss (AV.sl (3 : Nat) (0 : Nat) (0 : Nat) (0 : Nat) (1 : Nat)) (AV.sl (5 : Nat) (((0 : Nat) + (List.length (cellsXM ex))) + (2 : Nat)) (0 : Nat) (((0 : Nat) + (List.length ex)) + (1 : Nat)) (2 : Nat)) pad pl) ((Blk.mk BK.exact true []) :: ((Blk.mk BK.exact true []) :: ((Blk.mk BK.grow ((oldL (0 : Nat) ([] ++ (cellsXM ex))) && true) (([] ++ (cellsXM ex)) ++ ((AV.int .i64 n) :: ((AV.str []) :: [])))) :: ((Blk.mk BK.exact true ((AV.int .i64 n) :: ((AV.str []) :: []))) :: [])))) Q)
else False)
else (bif (n_0 == (7 : Int)) then (bif (Nat.beq (List.length ([] ++ (cellsXM ex))) ((0 : Nat) + (List.length (cellsXM ex)))) then (∃ n_1 : Int, (((AV.int .i64 (Nat.cast ((0 : Nat) + (List.length ex)) : Int)) = (AV.int .i64 n_1)) ∧
 (bif (decide (n_1 > (0 : Int))) then (∃ n_2 : Int, (((AV.int .i64 (IntKind.wrap .i64 at')) = (AV.int .i64 n_2)) ∧
 (bif (Nat.beq (List.length ([] ++ (cellsXM ex))) ((0 : Nat) + (List.length (cellsXM ex)))) then (∃ n_3 : Int, (((AV.int .i64 (Nat.cast ((0 : Nat) + (List.length ex)) : Int)) = (AV.int .i64 n_3)) ∧
 (bif ((n_3 != (0 : Int)) && true) then (∃ n_4 : Int, (((AV.int .i64 (Int.tmod n_2 n_3)) = (AV.int .i64 n_4)) ∧
 (bif ((((decide ((0 : Int) ≤ n_4)) && (Nat.blt (Int.toNat n_4) ((0 : Nat) + (List.length ex)))) && (Nat.beq (List.length ([] ++ (cellsXM ex))) ((0 : Nat) + (List.length (cellsXM ex))))) && true) then (bif (Nat.beq (List.length ([] ++ (cellsXM ex))) ((0 : Nat) + (List.length (cellsXM ex)))) then (bif (((((Nat.beq (List.length ([] ++ (cellsXM ex))) ((0 : Nat) + (List.length (cellsXM ex)))) && (Nat.ble ((((0 : Nat) + ((Int.toNat n_4) * (2 : Nat))) + (0 : Nat)) + (1 : Nat)) ((0 : Nat) + (List.length (cellsXM ex))))) && true) && true) && true) then (lfU what at' n (mdL mk ty seq ti ss (AV.sl (3 : Nat) (0 : Nat) (0 : Nat) (0 : Nat) (1 : Nat)) (AV.sl (5 : Nat) ((0 : Nat) + (List.length (cellsXM ex))) (0 : Nat) ((0 : Nat) + (List.length ex)) (2 : Nat)) pad pl) ((Blk.mk BK.exact true []) :: ((Blk.mk BK.exact true []) :: ((Blk.mk BK.grow ((oldL (0 : Nat) ([] ++ (cellsXM ex))) && true) (setRange ([] ++ (cellsXM ex)) (((0 : Nat) + ((Int.toNat n_4) * (2 : Nat))) + (0 : Nat)) ((AV.int .i64 n) :: []))) :: []))) Q)
else False)
else False)
else False)))
else False)))
else False)))
else (lfU what at' n (mdL mk ty seq ti ss (AV.sl (3 : Nat) (0 : Nat) (0 : Nat) (0 : Nat) (1 : Nat)) (AV.sl (5 : Nat) ((0 : Nat) + (List.length (cellsXM ex))) (0 : Nat) ((0 : Nat) + (List.length ex)) (2 : Nat)) pad pl) ((Blk.mk BK.exact true []) :: ((Blk.mk BK.exact true []) :: ((Blk.mk BK.grow (oldL (0 : Nat) ([] ++ (cellsXM ex))) ([] ++ (cellsXM ex))) :: []))) Q))))
else False)
else (bif (n_0 == (8 : Int)) then (bif (Nat.beq (List.length ([] ++ (cellsXM ex))) ((0 : Nat) + (List.length (cellsXM ex)))) then (∃ n_1 : Int, (((AV.int .i64 (Nat.cast ((0 : Nat) + (List.length ex)) : Int)) = (AV.int .i64 n_1)) ∧
 (bif (decide (n_1 > (0 : Int))) then (∃ n_2 : Int, (((AV.int .i64 (IntKind.wrap .i64 at')) = (AV.int .i64 n_2)) ∧
 (bif (Nat.beq (List.length ([] ++ (cellsXM ex))) ((0 : Nat) + (List.length (cellsXM ex)))) then (∃ n_3 : Int, (((AV.int .i64 (Nat.cast ((0 : Nat) + (List.length ex)) : Int)) = (AV.int .i64 n_3)) ∧
 (bif ((n_3 != (0 : Int)) && true) then (∃ n_4 : Int, (((AV.int .i64 (Int.tmod n_2 n_3)) = (AV.int .i64 n_4)) ∧
 (bif ((((decide ((0 : Int) ≤ n_4)) && (Nat.blt (Int.toNat n_4) ((0 : Nat) + (List.length ex)))) && (Nat.beq (List.length ([] ++ (cellsXM ex))) ((0 : Nat) + (List.length (cellsXM ex))))) && true) then ((∃ x_5 : (List UInt8), ((Lf ((List.length x_5) ≤ (300 : Nat))) ∧
 ((((AV.int .u8 what) :: ((AV.int .u8 at') :: ((AV.int .i64 n) :: []))) = ((AV.int .u8 what) :: ((AV.int .u8 at') :: ((AV.int .i64 n) :: [])))) ∧
 (((mdL mk ty seq ti ss (AV.sl (3 : Nat) (0 : Nat) (0 : Nat) (0 : Nat) (1 : Nat)) (AV.sl (5 : Nat) ((0 : Nat) + (List.length (cellsXM ex))) (0 : Nat) ((0 : Nat) + (List.length ex)) (2 : Nat)) pad pl) = (mdL mk ty seq ti ss (AV.sl (3 : Nat) (0 : Nat) (0 : Nat) (0 : Nat) (1 : Nat)) (AV.sl (5 : Nat) ((0 : Nat) + (List.length (cellsXM ex))) (0 : Nat) ((0 : Nat) + (List.length ex)) (2 : Nat)) pad pl)) ∧
 (((mdL false (0 : Int) (0 : Int) (0 : Int) (0 : Int) AV.nils AV.nils (0 : Int) []) = (mdL false (0 : Int) (0 : Int) (0 : Int) (0 : Int) AV.nils AV.nils (0 : Int) [])) ∧
 ((([] : (List AV)) = []) ∧
 ((([] : (List AV)) = []) ∧
 (bif ((oldL (0 : Nat) ([] ++ (cellsXM ex))) == (oldL (0 : Nat) ([] ++ (cellsXM ex)))) then ((([] ++ (cellsXM ex)) = (setM ([] ++ (cellsXM ex)) (((0 : Nat) + ((Int.toNat n_4) * (2 : Nat))) + (1 : Nat)) x_5)) ∧
 (((AV.ptr (1 : Nat) (9 : Nat) (0 : Nat)) = (AV.ptr (1 : Nat) (9 : Nat) (0 : Nat))) ∧
 (((AV.ptr (5 : Nat) ((0 : Nat) + (List.length (cellsXM ex))) ((0 : Nat) + ((Int.toNat n_4) * (2 : Nat)))) = (AV.ptr (5 : Nat) ((0 : Nat) + (List.length (cellsXM ex))) ((0 : Nat) + ((Int.toNat n_4) * (2 : Nat))))) ∧
 (((AV.ptr (2 : Nat) (9 : Nat) (0 : Nat)) = (AV.ptr (2 : Nat) (9 : Nat) (0 : Nat))) ∧
 True))))
else False)))))))) ∧
 (∀ x_5 : (List UInt8), ((Lf ((List.length x_5) ≤ (300 : Nat))) →
(bif (Nat.beq (List.length (setM ([] ++ (cellsXM ex)) (((0 : Nat) + ((Int.toNat n_4) * (2 : Nat))) + (1 : Nat)) x_5)) ((0 : Nat) + (List.length (cellsXM ex)))) then (bif (Nat.beq (List.length (setM ([] ++ (cellsXM ex)) (((0 : Nat) + ((Int.toNat n_4) * (2 : Nat))) + (1 : Nat)) x_5)) ((0 : Nat) + (List.length (cellsXM ex)))) then (bif ((Nat.beq (List.length (setM ([] ++ (cellsXM ex)) (((0 : Nat) + ((Int.toNat n_4) * (2 : Nat))) + (1 : Nat)) x_5)) ((0 : Nat) + (List.length (cellsXM ex)))) && (Nat.blt (((0 : Nat) + ((Int.toNat n_4) * (2 : Nat))) + (1 : Nat)) ((0 : Nat) + (List.length (cellsXM ex))))) then (∃ s_6 : (List UInt8), (((List.getD (List.take (1 : Nat) (List.drop (((0 : Nat) + ((Int.toNat n_4) * (2 : Nat))) + (1 : Nat)) (setM ([] ++ (cellsXM ex)) (((0 : Nat) + ((Int.toNat n_4) * (2 : Nat))) + (1 : Nat)) x_5))) (0 : Nat) AV.undef) = (AV.str s_6)) ∧
 (∃ n_7 : Int, (((AV.int .i64 (Nat.cast (List.length s_6) : Int)) = (AV.int .i64 n_7)) ∧
 (bif (decide (n_7 < (256 : Int))) then (bif (Nat.beq (List.length (setM ([] ++ (cellsXM ex)) (((0 : Nat) + ((Int.toNat n_4) * (2 : Nat))) + (1 : Nat)) x_5)) ((0 : Nat) + (List.length (cellsXM ex)))) then (bif (Nat.beq (List.length (setM ([] ++ (cellsXM ex)) (((0 : Nat) + ((Int.toNat n_4) * (2 : Nat))) + (1 : Nat)) x_5)) ((0 : Nat) + (List.length (cellsXM ex)))) then (bif ((Nat.beq (List.length (setM ([] ++ (cellsXM ex)) (((0 : Nat) + ((Int.toNat n_4) * (2 : Nat))) + (1 : Nat)) x_5)) ((0 : Nat) + (List.length (cellsXM ex)))) && (Nat.blt (((0 : Nat) + ((Int.toNat n_4) * (2 : Nat))) + (1 : Nat)) ((0 : Nat) + (List.length (cellsXM ex))))) then (∃ s_8 : (List UInt8), (((List.getD (List.take (1 : Nat) (List.drop (((0 : Nat) + ((Int.toNat n_4) * (2 : Nat))) + (1 : Nat)) (setM ([] ++ (cellsXM ex)) (((0 : Nat) + ((Int.toNat n_4) * (2 : Nat))) + (1 : Nat)) x_5))) (0 : Nat) AV.undef) = (AV.str s_8)) ∧
 (bif (Nat.beq (List.length (setM ([] ++ (cellsXM ex)) (((0 : Nat) + ((Int.toNat n_4) * (2 : Nat))) + (1 : Nat)) x_5)) ((0 : Nat) + (List.length (cellsXM ex)))) then (bif (Nat.beq (List.length (setM ([] ++ (cellsXM ex)) (((0 : Nat) + ((Int.toNat n_4) * (2 : Nat))) + (1 : Nat)) x_5)) ((0 : Nat) + (List.length (cellsXM ex)))) then (bif ((Nat.beq (List.length (setM ([] ++ (cellsXM ex)) (((0 : Nat) + ((Int.toNat n_4) * (2 : Nat))) + (1 : Nat)) x_5)) ((0 : Nat) + (List.length (cellsXM ex)))) && (Nat.blt (((0 : Nat) + ((Int.toNat n_4) * (2 : Nat))) + (1 : Nat)) ((0 : Nat) + (List.length (cellsXM ex))))) then (∃ s_9 : (List UInt8), (((List.getD (List.take (1 : Nat) (List.drop (((0 : Nat) + ((Int.toNat n_4) * (2 : Nat))) + (1 : Nat)) (setM ([] ++ (cellsXM ex)) (((0 : Nat) + ((Int.toNat n_4) * (2 : Nat))) + (1 : Nat)) x_5))) (0 : Nat) AV.undef) = (AV.str s_9)) ∧
 (∃ n_10 : Int, (((AV.int .i64 (Nat.cast (List.length s_9) : Int)) = (AV.int .i64 n_10)) ∧
 ((Lf ((((0 : Int) ≤ (1 : Int)) ∧
 ((1 : Int) ≤ (8 : Int))) ∧
 (((0 : Int) ≤ n_10) ∧
 (n_10 ≤ (9223372036854775807 : Int))))) ∧
 (bif ((eqAVL (List.take (1 : Nat) (List.drop (((0 : Nat) + ((Int.toNat n_4) * (2 : Nat))) + (1 : Nat)) (setM ([] ++ (cellsXM ex)) (((0 : Nat) + ((Int.toNat n_4) * (2 : Nat))) + (1 : Nat)) x_5))) (List.take (1 : Nat) (List.drop (((0 : Nat) + ((Int.toNat n_4) * (2 : Nat))) + (1 : Nat)) (setM ([] ++ (cellsXM ex)) (((0 : Nat) + ((Int.toNat n_4) * (2 : Nat))) + (1 : Nat)) x_5)))) && ((Option.some (List.length (setM ([] ++ (cellsXM ex)) (((0 : Nat) + ((Int.toNat n_4) * (2 : Nat))) + (1 : Nat)) x_5))) == (Option.some (List.length (setM ([] ++ (cellsXM ex)) (((0 : Nat) + ((Int.toNat n_4) * (2 : Nat))) + (1 : Nat)) x_5))))) then (bif ((Option.some (List.length (setM ([] ++ (cellsXM ex)) (((0 : Nat) + ((Int.toNat n_4) * (2 : Nat))) + (1 : Nat)) x_5))) == (Option.some (List.length (setM ([] ++ (cellsXM ex)) (((0 : Nat) + ((Int.toNat n_4) * (2 : Nat))) + (1 : Nat)) x_5)))) then (bif ((Option.some (List.length (setM ([] ++ (cellsXM ex)) (((0 : Nat) + ((Int.toNat n_4) * (2 : Nat))) + (1 : Nat)) x_5))) == (Option.some (List.length (setM ([] ++ (cellsXM ex)) (((0 : Nat) + ((Int.toNat n_4) * (2 : Nat))) + (1 : Nat)) x_5)))) then (∃ s_11 : (List UInt8), (((AV.str (beM n_10 (1 : Nat))) = (AV.str s_11)) ∧
 (bif ((decide (((List.length s_8) + (List.length s_11)) ≤ (9223372036854775807 : Nat))) && true) then (∃ s_12 : (List UInt8), (((AV.str (s_8 ++ s_11)) = (AV.str s_12)) ∧
 (bif (Nat.beq (List.length (setM ([] ++ (cellsXM ex)) (((0 : Nat) + ((Int.toNat n_4) * (2 : Nat))) + (1 : Nat)) x_5)) ((0 : Nat) + (List.length (cellsXM ex)))) then (bif (Nat.beq (List.length (setM ([] ++ (cellsXM ex)) (((0 : Nat) + ((Int.toNat n_4) * (2 : Nat))) + (1 : Nat)) x_5)) ((0 : Nat) + (List.length (cellsXM ex)))) then (bif (((((Nat.beq (List.length (setM ([] ++ (cellsXM ex)) (((0 : Nat) + ((Int.toNat n_4) * (2 : Nat))) + (1 : Nat)) x_5)) ((0 : Nat) + (List.length (cellsXM ex)))) && (Nat.ble ((((0 : Nat) + ((Int.toNat n_4) * (2 : Nat))) + (1 : Nat)) + (1 : Nat)) ((0 : Nat) + (List.length (cellsXM ex))))) && true) && true) && true) then ((((((oldL (0 : Nat) ([] ++ (cellsXM ex))) && true) || (oldL (6 : Nat) (setRange (setM ([] ++ (cellsXM ex)) (((0 : Nat) + ((Int.toNat n_4) * (2 : Nat))) + (1 : Nat)) x_5) (((0 : Nat) + ((Int.toNat n_4) * (2 : Nat))) + (1 : Nat)) ((AV.str s_12) :: [])))) && true) = true) ∧
 ((True ∧
 ((0 : Nat) = (0 : Nat))) ∧
 (∃ y_13 : (List UInt8), ((Lf ((List.length y_13) ≤ (300 : Nat))) ∧
 ((((300 : Nat) - (List.length y_13)) < ((300 : Nat) - (List.length x_5))) ∧
 ((((AV.int .u8 what) :: ((AV.int .u8 at') :: ((AV.int .i64 n) :: []))) = ((AV.int .u8 what) :: ((AV.int .u8 at') :: ((AV.int .i64 n) :: [])))) ∧
 (((mdL mk ty seq ti ss (AV.sl (3 : Nat) (0 : Nat) (0 : Nat) (0 : Nat) (1 : Nat)) (AV.sl (5 : Nat) ((0 : Nat) + (List.length (cellsXM ex))) (0 : Nat) ((0 : Nat) + (List.length ex)) (2 : Nat)) pad pl) = (mdL mk ty seq ti ss (AV.sl (3 : Nat) (0 : Nat) (0 : Nat) (0 : Nat) (1 : Nat)) (AV.sl (5 : Nat) ((0 : Nat) + (List.length (cellsXM ex))) (0 : Nat) ((0 : Nat) + (List.length ex)) (2 : Nat)) pad pl)) ∧
 (((mdL false (0 : Int) (0 : Int) (0 : Int) (0 : Int) AV.nils AV.nils (0 : Int) []) = (mdL false (0 : Int) (0 : Int) (0 : Int) (0 : Int) AV.nils AV.nils (0 : Int) [])) ∧
 ((([] : (List AV)) = []) ∧
 ((([] : (List AV)) = []) ∧
 (bif (((oldL (0 : Nat) ([] ++ (cellsXM ex))) && true) == (oldL (0 : Nat) ([] ++ (cellsXM ex)))) then (((setRange (setM ([] ++ (cellsXM ex)) (((0 : Nat) + ((Int.toNat n_4) * (2 : Nat))) + (1 : Nat)) x_5) (((0 : Nat) + ((Int.toNat n_4) * (2 : Nat))) + (1 : Nat)) ((AV.str s_12) :: [])) = (setM ([] ++ (cellsXM ex)) (((0 : Nat) + ((Int.toNat n_4) * (2 : Nat))) + (1 : Nat)) y_13)) ∧
 (((AV.ptr (1 : Nat) (9 : Nat) (0 : Nat)) = (AV.ptr (1 : Nat) (9 : Nat) (0 : Nat))) ∧
 (((AV.ptr (5 : Nat) ((0 : Nat) + (List.length (cellsXM ex))) ((0 : Nat) + ((Int.toNat n_4) * (2 : Nat)))) = (AV.ptr (5 : Nat) ((0 : Nat) + (List.length (cellsXM ex))) ((0 : Nat) + ((Int.toNat n_4) * (2 : Nat))))) ∧
 (((AV.ptr (2 : Nat) (9 : Nat) (0 : Nat)) = (AV.ptr (2 : Nat) (9 : Nat) (0 : Nat))) ∧
 True))))
else False)))))))))))
else False)
else False)
else False)))
else False)))
else False)
else False)
else False))))))
else False)
else False)
else False)))
else False)
else False)
else False)
else (lfU what at' n (mdL mk ty seq ti ss (AV.sl (3 : Nat) (0 : Nat) (0 : Nat) (0 : Nat) (1 : Nat)) (AV.sl (5 : Nat) ((0 : Nat) + (List.length (cellsXM ex))) (0 : Nat) ((0 : Nat) + (List.length ex)) (2 : Nat)) pad pl) ((Blk.mk BK.exact true []) :: ((Blk.mk BK.exact true []) :: ((Blk.mk BK.grow (oldL (0 : Nat) ([] ++ (cellsXM ex))) (setM ([] ++ (cellsXM ex)) (((0 : Nat) + ((Int.toNat n_4) * (2 : Nat))) + (1 : Nat)) x_5)) :: []))) Q))))))
else False)
else False)
else False))))
else False)))
else False)))
else False)))
else (lfU what at' n (mdL mk ty seq ti ss (AV.sl (3 : Nat) (0 : Nat) (0 : Nat) (0 : Nat) (1 : Nat)) (AV.sl (5 : Nat) ((0 : Nat) + (List.length (cellsXM ex))) (0 : Nat) ((0 : Nat) + (List.length ex)) (2 : Nat)) pad pl) ((Blk.mk BK.exact true []) :: ((Blk.mk BK.exact true []) :: ((Blk.mk BK.grow (oldL (0 : Nat) ([] ++ (cellsXM ex))) ([] ++ (cellsXM ex))) :: []))) Q))))
else False)
else ((∃ x_1 : (List UInt8), ((Lf ((List.length x_1) ≤ (1300 : Nat))) ∧
 ((((AV.int .u8 what) :: ((AV.int .u8 at') :: ((AV.int .i64 n) :: []))) = ((AV.int .u8 what) :: ((AV.int .u8 at') :: ((AV.int .i64 n) :: [])))) ∧
 (((mdL mk ty seq ti ss (AV.sl (3 : Nat) (0 : Nat) (0 : Nat) (0 : Nat) (1 : Nat)) (AV.sl (5 : Nat) ((0 : Nat) + (List.length (cellsXM ex))) (0 : Nat) ((0 : Nat) + (List.length ex)) (2 : Nat)) pad pl) = (mdL mk ty seq ti ss (AV.sl (3 : Nat) (0 : Nat) (0 : Nat) (0 : Nat) (1 : Nat)) (AV.sl (5 : Nat) ((0 : Nat) + (List.length (cellsXM ex))) (0 : Nat) ((0 : Nat) + (List.length ex)) (2 : Nat)) pad x_1)) ∧
 (vc_11_3 ex))))) ∧
 (∀ x_1 : (List UInt8), ((Lf ((List.length x_1) ≤ (1300 : Nat))) →
(∃ n_2 : Int, (((AV.int .i64 (Nat.cast (List.length x_1) : Int)) = (AV.int .i64 n_2)) ∧
 (∃ n_3 : Int, (((AV.int .u8 (Int.tmod at' (4 : Int))) = (AV.int .u8 n_3)) ∧
 (∃ n_4 : Int, (((AV.int .i64 (IntKind.wrap .i64 n_3)) = (AV.int .i64 n_4)) ∧
 (∃ n_5 : Int, (((AV.int .i64 (IntKind.wrap .i64 ((1188 : Int) + n_4))) = (AV.int .i64 n_5)) ∧
 (bif (decide (n_2 < n_5)) then (∃ n_6 : Int, (((AV.int .i64 (Nat.cast (List.length x_1) : Int)) = (AV.int .i64 n_6)) ∧
 ((Lf ((((0 : Int) ≤ (4 : Int)) ∧
 ((4 : Int) ≤ (8 : Int))) ∧
 (((0 : Int) ≤ n_6) ∧
 (n_6 ≤ (9223372036854775807 : Int))))) ∧
 (bif ((eqAVL ((AV.str x_1) :: []) ((AV.str x_1) :: [])) && true) then (∃ s_7 : (List UInt8), (((AV.str (beM n_6 (4 : Nat))) = (AV.str s_7)) ∧
 (bif ((decide (((List.length x_1) + (List.length s_7)) ≤ (9223372036854775807 : Nat))) && true) then (∃ s_8 : (List UInt8), (((AV.str (x_1 ++ s_7)) = (AV.str s_8)) ∧
 (((((oldL (0 : Nat) ([] ++ (cellsXM ex))) || (oldL (6 : Nat) ([] ++ (cellsXM ex)))) && true) = true) ∧
 ((True ∧
 ((0 : Nat) = (0 : Nat))) ∧
 (∃ y_9 : (List UInt8), ((Lf ((List.length y_9) ≤ (1300 : Nat))) ∧
 ((((1300 : Nat) - (List.length y_9)) < ((1300 : Nat) - (List.length x_1))) ∧
 ((((AV.int .u8 what) :: ((AV.int .u8 at') :: ((AV.int .i64 n) :: []))) = ((AV.int .u8 what) :: ((AV.int .u8 at') :: ((AV.int .i64 n) :: [])))) ∧
 (((mdL mk ty seq ti ss (AV.sl (3 : Nat) (0 : Nat) (0 : Nat) (0 : Nat) (1 : Nat)) (AV.sl (5 : Nat) ((0 : Nat) + (List.length (cellsXM ex))) (0 : Nat) ((0 : Nat) + (List.length ex)) (2 : Nat)) pad s_8) = (mdL mk ty seq ti ss (AV.sl (3 : Nat) (0 : Nat) (0 : Nat) (0 : Nat) (1 : Nat)) (AV.sl (5 : Nat) ((0 : Nat) + (List.length (cellsXM ex))) (0 : Nat) ((0 : Nat) + (List.length ex)) (2 : Nat)) pad y_9)) ∧
 (vc_11_3 ex))))))))))
else False)))
else False))))
else (lfU what at' n (mdL mk ty seq ti ss (AV.sl (3 : Nat) (0 : Nat) (0 : Nat) (0 : Nat) (1 : Nat)) (AV.sl (5 : Nat) ((0 : Nat) + (List.length (cellsXM ex))) (0 : Nat) ((0 : Nat) + (List.length ex)) (2 : Nat)) pad x_1) ((Blk.mk BK.exact true []) :: ((Blk.mk BK.exact true []) :: ((Blk.mk BK.grow (oldL (0 : Nat) ([] ++ (cellsXM ex))) ([] ++ (cellsXM ex))) :: []))) Q))))))))))))))))))))))))
else False)
else False))
else False)
else False)
else (bif (Nat.blt (0 : Nat) (List.length cs)) then (bif ((Nat.ble ((0 : Nat) + (List.length cs)) (1099511627776 : Nat)) && (Nat.ble (((0 : Nat) + (List.length cs)) * (8 : Nat)) (1099511627776 : Nat))) then (bif ((((Nat.beq (List.length (cellsXM ex)) ((List.length ex) * (2 : Nat))) && (oneL (cellsXM ex))) && true) && (Nat.ble ((List.length ex) * (24 : Nat)) (1099511627776 : Nat))) then (bif (Nat.beq (List.length ex) (0 : Nat)) then (bif (Nat.beq (List.length ex) (0 : Nat)) then (∃ n_0 : Int, (((AV.int .u8 (Int.tmod what (10 : Int))) = (AV.int .u8 n_0)) ∧
 (bif (n_0 == (0 : Int)) then (lfU what at' n (mdL mk n seq ti ss (AV.sl (4 : Nat) ((0 : Nat) + (List.length (cellsI cs))) (0 : Nat) ((0 : Nat) + (List.length cs)) (1 : Nat)) (AV.sl (5 : Nat) (0 : Nat) (0 : Nat) (0 : Nat) (2 : Nat)) pad pl) ((Blk.mk BK.exact true []) :: ((Blk.mk BK.grow (oldL (0 : Nat) ([] ++ (cellsI cs))) ([] ++ (cellsI cs))) :: ((Blk.mk BK.exact true []) :: []))) Q)
else (bif (n_0 == (1 : Int)) then (lfU what at' n (mdL mk ty n ti ss (AV.sl (4 : Nat) ((0 : Nat) + (List.length (cellsI cs))) (0 : Nat) ((0 : Nat) + (List.length cs)) (1 : Nat)) (AV.sl (5 : Nat) (0 : Nat) (0 : Nat) (0 : Nat) (2 : Nat)) pad pl) ((Blk.mk BK.exact true []) :: ((Blk.mk BK.grow (oldL (0 : Nat) ([] ++ (cellsI cs))) ([] ++ (cellsI cs))) :: ((Blk.mk BK.exact true []) :: []))) Q)
else (bif (n_0 == (2 : Int)) then (lfU what at' n (mdL mk ty seq n ss (AV.sl (4 : Nat) ((0 : Nat) + (List.length (cellsI cs))) (0 : Nat) ((0 : Nat) + (List.length cs)) (1 : Nat)) (AV.sl (5 : Nat) (0 : Nat) (0 : Nat) (0 : Nat) (2 : Nat)) pad pl) ((Blk.mk BK.exact true []) :: ((Blk.mk BK.grow (oldL (0 : Nat) ([] ++ (cellsI cs))) ([] ++ (cellsI cs))) :: ((Blk.mk BK.exact true []) :: []))) Q)
else (bif (n_0 == (3 : Int)) then (lfU what at' n (mdL mk ty seq ti n (AV.sl (4 : Nat) ((0 : Nat) + (List.length (cellsI cs))) (0 : Nat) ((0 : Nat) + (List.length cs)) (1 : Nat)) (AV.sl (5 : Nat) (0 : Nat) (0 : Nat) (0 : Nat) (2 : Nat)) pad pl) ((Blk.mk BK.exact true []) :: ((Blk.mk BK.grow (oldL (0 : Nat) ([] ++ (cellsI cs))) ([] ++ (cellsI cs))) :: ((Blk.mk BK.exact true []) :: []))) Q)
else (bif (n_0 == (4 : Int)) then (lfU what at' n (mdL mk ty seq ti ss (AV.sl (4 : Nat) ((0 : Nat) + (List.length (cellsI cs))) (0 : Nat) ((0 : Nat) + (List.length cs)) (1 : Nat)) (AV.sl (5 : Nat) (0 : Nat) (0 : Nat) (0 : Nat) (2 : Nat)) n pl) ((Blk.mk BK.exact true []) :: ((Blk.mk BK.grow (oldL (0 : Nat) ([] ++ (cellsI cs))) ([] ++ (cellsI cs))) :: ((Blk.mk BK.exact true []) :: []))) Q)
else (bif (n_0 == (5 : Int)) then (bif (((((Nat.beq (List.length ([] ++ (cellsI cs))) ((0 : Nat) + (List.length (cellsI cs)))) && true) && (Nat.beq ((0 : Nat) + (((0 : Nat) + (List.length cs)) * (1 : Nat))) ((0 : Nat) + (List.length (cellsI cs))))) && (Nat.ble (((0 : Nat) + (List.length cs)) + (1 : Nat)) (1099511627776 : Nat))) && (Nat.ble ((((0 : Nat) + (List.length cs)) + (1 : Nat)) * (8 : Nat)) (1099511627776 : Nat))) then (lfU what at' n (mdL mk ty seq ti ss (AV.sl (4 : Nat) (((0 : Nat) + (List.length (cellsI cs))) + (1 : Nat)) (0 : Nat) (((0 : Nat) + (List.length cs)) + (1 : Nat)) (1 : Nat)) (AV.sl (5 : Nat) (0 : Nat) (0 : Nat) (0 : Nat) (2 : Nat)) pad pl) ((Blk.mk BK.exact true []) :: ((Blk.mk BK.grow ((oldL (0 : Nat) ([] ++ (cellsI cs))) && true) (([] ++ (cellsI cs)) ++ ((AV.int .i64 n) :: []))) :: ((Blk.mk BK.exact true []) :: ((Blk.mk BK.exact true ((AV.int .i64 n) :: [])) :: [])))) Q)
else False)
else (bif (n_0 == (6 : Int)) then (lfU what at' n (mdL mk ty seq ti ss (AV.sl (4 : Nat) ((0 : Nat) + (List.length (cellsI cs))) (0 : Nat) ((0 : Nat) + (List.length cs)) (1 : Nat)) (AV.sl (7 : Nat) (2 : Nat) (0 : Nat) (1 : Nat) (2 : Nat)) pad pl) ((Blk.mk BK.exact true []) :: ((Blk.mk BK.grow (oldL (0 : Nat) ([] ++ (cellsI cs))) ([] ++ (cellsI cs))) :: ((Blk.mk BK.exact true []) :: ((Blk.mk BK.exact true ((AV.int .i64 n) :: ((AV.str []) :: []))) :: ((Blk.mk BK.grow true ((AV.int .i64 n) :: ((AV.str []) :: []))) :: []))))) Q)
else (bif (n_0 == (7 : Int)) then (∃ n_1 : Int, (((AV.int .i64 (0 : Int)) = (AV.int .i64 n_1)) ∧
 (bif (decide (n_1 > (0 : Int))) then (∃ n_2 : Int, (((AV.int .i64 (IntKind.wrap .i64 at')) = (AV.int .i64 n_2)) ∧
 (∃ n_3 : Int, (((AV.int .i64 (0 : Int)) = (AV.int .i64 n_3)) ∧
 (bif ((n_3 != (0 : Int)) && true) then (∃ n_4 : Int, (((AV.int .i64 (Int.tmod n_2 n_3)) = (AV.int .i64 n_4)) ∧
 (bif ((((decide ((0 : Int) ≤ n_4)) && false) && true) && true) then False
else False)))
else False)))))
else (lfU what at' n (mdL mk ty seq ti ss (AV.sl (4 : Nat) ((0 : Nat) + (List.length (cellsI cs))) (0 : Nat) ((0 : Nat) + (List.length cs)) (1 : Nat)) (AV.sl (5 : Nat) (0 : Nat) (0 : Nat) (0 : Nat) (2 : Nat)) pad pl) ((Blk.mk BK.exact true []) :: ((Blk.mk BK.grow (oldL (0 : Nat) ([] ++ (cellsI cs))) ([] ++ (cellsI cs))) :: ((Blk.mk BK.exact true []) :: []))) Q))))
else (bif (n_0 == (8 : Int)) then (∃ n_1 : Int, (((AV.int .i64 (0 : Int)) = (AV.int .i64 n_1)) ∧
 (bif (decide (n_1 > (0 : Int))) then (∃ n_2 : Int, (((AV.int .i64 (IntKind.wrap .i64 at')) = (AV.int .i64 n_2)) ∧
 (∃ n_3 : Int, (((AV.int .i64 (0 : Int)) = (AV.int .i64 n_3)) ∧
 (bif ((n_3 != (0 : Int)) && true) then (∃ n_4 : Int, (((AV.int .i64 (Int.tmod n_2 n_3)) = (AV.int .i64 n_4)) ∧
 (bif ((((decide ((0 : Int) ≤ n_4)) && false) && true) && true) then ((∃ x_5 : (List UInt8), ((Lf ((List.length x_5) ≤ (300 : Nat))) ∧
 ((((AV.int .u8 what) :: ((AV.int .u8 at') :: ((AV.int .i64 n) :: []))) = ((AV.int .u8 what) :: ((AV.int .u8 at') :: ((AV.int .i64 n) :: [])))) ∧
 (((mdL mk ty seq ti ss (AV.sl (4 : Nat) ((0 : Nat) + (List.length (cellsI cs))) (0 : Nat) ((0 : Nat) + (List.length cs)) (1 : Nat)) (AV.sl (5 : Nat) (0 : Nat) (0 : Nat) (0 : Nat) (2 : Nat)) pad pl) = (mdL mk ty seq ti ss (AV.sl (4 : Nat) ((0 : Nat) + (List.length (cellsI cs))) (0 : Nat) ((0 : Nat) + (List.length cs)) (1 : Nat)) (AV.sl (5 : Nat) (0 : Nat) (0 : Nat) (0 : Nat) (2 : Nat)) pad pl)) ∧
 (((mdL false (0 : Int) (0 : Int) (0 : Int) (0 : Int) AV.nils AV.nils (0 : Int) []) = (mdL false (0 : Int) (0 : Int) (0 : Int) (0 : Int) AV.nils AV.nils (0 : Int) [])) ∧
 ((([] : (List AV)) = []) ∧
 (bif ((oldL (0 : Nat) ([] ++ (cellsI cs))) == (oldL (0 : Nat) ([] ++ (cellsI cs)))) then ((([] ++ (cellsI cs)) = ([] ++ (cellsI cs))) ∧
 ((([] : (List AV)) = ((AV.str x_5) :: [])) ∧
 (((AV.ptr (1 : Nat) (9 : Nat) (0 : Nat)) = (AV.ptr (1 : Nat) (9 : Nat) (0 : Nat))) ∧
 (((AV.ptr (5 : Nat) (0 : Nat) ((0 : Nat) + ((Int.toNat n_4) * (2 : Nat)))) = (AV.ptr (5 : Nat) (0 : Nat) ((0 : Nat) + ((Int.toNat n_4) * (2 : Nat))))) ∧
 (((AV.ptr (2 : Nat) (9 : Nat) (0 : Nat)) = (AV.ptr (2 : Nat) (9 : Nat) (0 : Nat))) ∧
 True)))))
else False))))))) ∧
 (∀ x_5 : (List UInt8), ((Lf ((List.length x_5) ≤ (300 : Nat))) →
False)))
else False)))
else False)))))
else (lfU what at' n (mdL mk ty seq ti ss (AV.sl (4 : Nat) ((0 : Nat) + (List.length (cellsI cs))) (0 : Nat) ((0 : Nat) + (List.length cs)) (1 : Nat)) (AV.sl (5 : Nat) (0 : Nat) (0 : Nat) (0 : Nat) (2 : Nat)) pad pl) ((Blk.mk BK.exact true []) :: ((Blk.mk BK.grow (oldL (0 : Nat) ([] ++ (cellsI cs))) ([] ++ (cellsI cs))) :: ((Blk.mk BK.exact true []) :: []))) Q))))
else ((∃ x_1 : (List UInt8), ((Lf ((List.length x_1) ≤ (1300 : Nat))) ∧
 ((((AV.int .u8 what) :: ((AV.int .u8 at') :: ((AV.int .i64 n) :: []))) = ((AV.int .u8 what) :: ((AV.int .u8 at') :: ((AV.int .i64 n) :: [])))) ∧
 (((mdL mk ty seq ti ss (AV.sl (4 : Nat) ((0 : Nat) + (List.length (cellsI cs))) (0 : Nat) ((0 : Nat) + (List.length cs)) (1 : Nat)) (AV.sl (5 : Nat) (0 : Nat) (0 : Nat) (0 : Nat) (2 : Nat)) pad pl) = (mdL mk ty seq ti ss (AV.sl (4 : Nat) ((0 : Nat) + (List.length (cellsI cs))) (0 : Nat) ((0 : Nat) + (List.length cs)) (1 : Nat)) (AV.sl (5 : Nat) (0 : Nat) (0 : Nat) (0 : Nat) (2 : Nat)) pad x_1)) ∧
 (vc_11_4 cs))))) ∧
 (∀ x_1 : (List UInt8), ((Lf ((List.length x_1) ≤ (1300 : Nat))) →
(∃ n_2 : Int, (((AV.int .i64 (Nat.cast (List.length x_1) : Int)) = (AV.int .i64 n_2)) ∧
 (∃ n_3 : Int, (((AV.int .u8 (Int.tmod at' (4 : Int))) = (AV.int .u8 n_3)) ∧
 (∃ n_4 : Int, (((AV.int .i64 (IntKind.wrap .i64 n_3)) = (AV.int .i64 n_4)) ∧
 (∃ n_5 : Int, (((AV.int .i64 (IntKind.wrap .i64 ((1188 : Int) + n_4))) = (AV.int .i64 n_5)) ∧
 (bif (decide (n_2 < n_5)) then (∃ n_6 : Int, (((AV.int .i64 (Nat.cast (List.length x_1) : Int)) = (AV.int .i64 n_6)) ∧
 ((Lf ((((0 : Int) ≤ (4 : Int)) ∧
 ((4 : Int) ≤ (8 : Int))) ∧
 (((0 : Int) ≤ n_6) ∧
 (n_6 ≤ (9223372036854775807 : Int))))) ∧
 (bif ((eqAVL ((AV.str x_1) :: []) ((AV.str x_1) :: [])) && true) then (∃ s_7 : (List UInt8), (((AV.str (beM n_6 (4 : Nat))) = (AV.str s_7)) ∧
 (bif ((decide (((List.length x_1) + (List.length s_7)) ≤ (9223372036854775807 : Nat))) && true) then (∃ s_8 : (List UInt8), (((AV.str (x_1 ++ s_7)) = (AV.str s_8)) ∧
 (((((oldL (0 : Nat) ([] ++ (cellsI cs))) || (oldL (6 : Nat) ([] ++ (cellsI cs)))) && true) = true) ∧
 ((True ∧
 ((0 : Nat) = (0 : Nat))) ∧
 (∃ y_9 : (List UInt8), ((Lf ((List.length y_9) ≤ (1300 : Nat))) ∧
 ((((1300 : Nat) - (List.length y_9)) < ((1300 : Nat) - (List.length x_1))) ∧
 ((((AV.int .u8 what) :: ((AV.int .u8 at') :: ((AV.int .i64 n) :: []))) = ((AV.int .u8 what) :: ((AV.int .u8 at') :: ((AV.int .i64 n) :: [])))) ∧
 (((mdL mk ty seq ti ss (AV.sl (4 : Nat) ((0 : Nat) + (List.length (cellsI cs))) (0 : Nat) ((0 : Nat) + (List.length cs)) (1 : Nat)) (AV.sl (5 : Nat) (0 : Nat) (0 : Nat) (0 : Nat) (2 : Nat)) pad s_8) = (mdL mk ty seq ti ss (AV.sl (4 : Nat) ((0 : Nat) + (List.length (cellsI cs))) (0 : Nat) ((0 : Nat) + (List.length cs)) (1 : Nat)) (AV.sl (5 : Nat) (0 : Nat) (0 : Nat) (0 : Nat) (2 : Nat)) pad y_9)) ∧
 (vc_11_4 cs))))))))))
else False)))
else False))))
else (lfU what at' n (mdL mk ty seq ti ss (AV.sl (4 : Nat) ((0 : Nat) + (List.length (cellsI cs))) (0 : Nat) ((0 : Nat) + (List.length cs)) (1 : Nat)) (AV.sl (5 : Nat) (0 : Nat) (0 : Nat) (0 : Nat) (2 : Nat)) pad x_1) ((Blk.mk BK.exact true []) :: ((Blk.mk BK.grow (oldL (0 : Nat) ([] ++ (cellsI cs))) ([] ++ (cellsI cs))) :: ((Blk.mk BK.exact true []) :: []))) Q))))))))))))))))))))))))
else False)
else (bif (Nat.blt (0 : Nat) (List.length ex)) then (bif ((Nat.ble ((0 : Nat) + (List.length ex)) (1099511627776 : Nat)) && (Nat.ble (((0 : Nat) + (List.length ex)) * (24 : Nat)) (1099511627776 : Nat))) then (∃ n_0 : Int, (((AV.int .u8 (Int.tmod what (10 : Int))) = (AV.int .u8 n_0)) ∧
 (bif (n_0 == (0 : Int)) then (lfU what at' n (mdL mk n seq ti ss (AV.sl (4 : Nat) ((0 : Nat) + (List.length (cellsI cs))) (0 : Nat) ((0 : Nat) + (List.length cs)) (1 : Nat)) (AV.sl (6 : Nat) ((0 : Nat) + (List.length (cellsXM ex))) (0 : Nat) ((0 : Nat) + (List.length ex)) (2 : Nat)) pad pl) ((Blk.mk BK.exact true []) :: ((Blk.mk BK.grow (oldL (0 : Nat) ([] ++ (cellsI cs))) ([] ++ (cellsI cs))) :: ((Blk.mk BK.exact true []) :: ((Blk.mk BK.grow (oldL (0 : Nat) ([] ++ (cellsXM ex))) ([] ++ (cellsXM ex))) :: [])))) Q)
else (bif (n_0 == (1 : Int)) then (lfU what at' n (mdL mk ty n ti ss (AV.sl (4 : Nat) ((0 : Nat) + (List.length (cellsI cs))) (0 : Nat) ((0 : Nat) + (List.length cs)) (1 : Nat)) (AV.sl (6 : Nat) ((0 : Nat) + (List.length (cellsXM ex))) (0 : Nat) ((0 : Nat) + (List.length ex)) (2 : Nat)) pad pl) ((Blk.mk BK.exact true []) :: ((Blk.mk BK.grow (oldL (0 : Nat) ([] ++ (cellsI cs))) ([] ++ (cellsI cs))) :: ((Blk.mk BK.exact true []) :: ((Blk.mk BK.grow (oldL (0 : Nat) ([] ++ (cellsXM ex))) ([] ++ (cellsXM ex))) :: [])))) Q)
else (bif (n_0 == (2 : Int)) then (lfU what at' n (mdL mk ty seq n ss (AV.sl (4 : Nat) ((0 : Nat) + (List.length (cellsI cs))) (0 : Nat) ((0 : Nat) + (List.length cs)) (1 : Nat)) (AV.sl (6 : Nat) ((0 : Nat) + (List.length (cellsXM ex))) (0 : Nat) ((0 : Nat) + (List.length ex)) (2 : Nat)) pad pl) ((Blk.mk BK.exact true []) :: ((Blk.mk BK.grow (oldL (0 : Nat) ([] ++ (cellsI cs))) ([] ++ (cellsI cs))) :: ((Blk.mk BK.exact true []) :: ((Blk.mk BK.grow (oldL (0 : Nat) ([] ++ (cellsXM ex))) ([] ++ (cellsXM ex))) :: [])))) Q)
else (bif (n_0 == (3 : Int)) then (lfU what at' n (mdL mk ty seq ti n (AV.sl (4 : Nat) ((0 : Nat) + (List.length (cellsI cs))) (0 : Nat) ((0 : Nat) + (List.length cs)) (1 : Nat)) (AV.sl (6 : Nat) ((0 : Nat) + (List.length (cellsXM ex))) (0 : Nat) ((0 : Nat) + (List.length ex)) (2 : Nat)) pad pl) ((Blk.mk BK.exact true []) :: ((Blk.mk BK.grow (oldL (0 : Nat) ([] ++ (cellsI cs))) ([] ++ (cellsI cs))) :: ((Blk.mk BK.exact true []) :: ((Blk.mk BK.grow (oldL (0 : Nat) ([] ++ (cellsXM ex))) ([] ++ (cellsXM ex))) :: [])))) Q)
else (bif (n_0 == (4 : Int)) then (lfU what at' n (mdL mk ty seq ti ss (AV.sl (4 : Nat) ((0 : Nat) + (List.length (cellsI cs))) (0 : Nat) ((0 : Nat) + (List.length cs)) (1 : Nat)) (AV.sl (6 : Nat) ((0 : Nat) + (List.length (cellsXM ex))) (0 : Nat) ((0 : Nat) + (List.length ex)) (2 : Nat)) n pl) ((Blk.mk BK.exact true []) :: ((Blk.mk BK.grow (oldL (0 : Nat) ([] ++ (cellsI cs))) ([] ++ (cellsI cs))) :: ((Blk.mk BK.exact true []) :: ((Blk.mk BK.grow (oldL (0 : Nat) ([] ++ (cellsXM ex))) ([] ++ (cellsXM ex))) :: [])))) Q)
else (bif (n_0 == (5 : Int)) then (bif (((((Nat.beq (List.length ([] ++ (cellsI cs))) ((0 : Nat) + (List.length (cellsI cs)))) && true) && (Nat.beq ((0 : Nat) + (((0 : Nat) + (List.length cs)) * (1 : Nat))) ((0 : Nat) + (List.length (cellsI cs))))) && (Nat.ble (((0 : Nat) + (List.length cs)) + (1 : Nat)) (1099511627776 : Nat))) && (Nat.ble ((((0 : Nat) + (List.length cs)) + (1 : Nat)) * (8 : Nat)) (1099511627776 : Nat))) then (lfU what at' n (mdL mk ty seq ti ss (AV.sl (4 : Nat) (((0 : Nat) + (List.length (cellsI cs))) + (1 : Nat)) (0 : Nat) (((0 : Nat) + (List.length cs)) + (1 : Nat)) (1 : Nat)) (AV.sl (6 : Nat) ((0 : Nat) + (List.length (cellsXM ex))) (0 : Nat) ((0 : Nat) + (List.length ex)) (2 : Nat)) pad pl) ((Blk.mk BK.exact true []) :: ((Blk.mk BK.grow ((oldL (0 : Nat) ([] ++ (cellsI cs))) && true) (([] ++ (cellsI cs)) ++ ((AV.int .i64 n) :: []))) :: ((Blk.mk BK.exact true []) :: ((Blk.mk BK.grow (oldL (0 : Nat) ([] ++ (cellsXM ex))) ([] ++ (cellsXM ex))) :: ((Blk.mk BK.exact true ((AV.int .i64 n) :: [])) :: []))))) Q)
else False)
else (bif (n_0 == (6 : Int)) then (bif (((((Nat.beq (List.length ([] ++ (cellsXM ex))) ((0 : Nat) + (List.length (cellsXM ex)))) && true) && (Nat.beq ((0 : Nat) + (((0 : Nat) + (List.length ex)) * (2 : Nat))) ((0 : Nat) + (List.length (cellsXM ex))))) && (Nat.ble (((0 : Nat) + (List.length ex)) + (1 : Nat)) (1099511627776 : Nat))) && (Nat.ble ((((0 : Nat) + (List.length ex)) + (1 : Nat)) * (24 : Nat)) (1099511627776 : Nat))) then (lfU what at' n (mdL mk ty seq ti ss (AV.sl (4 : Nat) ((0 : Nat) + (List.length (cellsI cs))) (0 : Nat) ((0 : Nat) + (List.length cs)) (1 : Nat)) (AV.sl (6 : Nat) (((0 : Nat) + (List.length (cellsXM ex))) + (2 : Nat)) (0 : Nat) (((0 : Nat) + (List.length ex)) + (1 : Nat)) (2 : Nat)) pad pl) ((Blk.mk BK.exact true []) :: ((Blk.mk BK.grow (oldL (0 : Nat) ([] ++ (cellsI cs))) ([] ++ (cellsI cs))) :: ((Blk.mk BK.exact true []) :: ((Blk.mk BK.grow ((oldL (0 : Nat) ([] ++ (cellsXM ex))) && true) (([] ++ (cellsXM ex)) ++ ((AV.int .i64 n) :: ((AV.str []) :: [])))) :: ((Blk.mk BK.exact true ((AV.int .i64 n) :: ((AV.str []) :: []))) :: []))))) Q)
else False)
else (bif (n_0 == (7 : Int)) then (bif (Nat.beq (List.length ([] ++ (cellsXM ex))) ((0 : Nat) + (List.length (cellsXM ex)))) then (∃ n_1 : Int, (((AV.int .i64 (Nat.cast ((0 : Nat) + (List.length ex)) : Int)) = (AV.int .i64 n_1)) ∧
 (bif (decide (n_1 > (0 : Int))) then (∃ n_2 : Int, (((AV.int .i64 (IntKind.wrap .i64 at')) = (AV.int .i64 n_2)) ∧
 (bif (Nat.beq (List.length ([] ++ (cellsXM ex))) ((0 : Nat) + (List.length (cellsXM ex)))) then (∃ n_3 : Int, (((AV.int .i64 (Nat.cast ((0 : Nat) + (List.length ex)) : Int)) = (AV.int .i64 n_3)) ∧
 (bif ((n_3 != (0 : Int)) && true) then (∃ n_4 : Int, (((AV.int .i64 (Int.tmod n_2 n_3)) = (AV.int .i64 n_4)) ∧
 (bif ((((decide ((0 : Int) ≤ n_4)) && (Nat.blt (Int.toNat n_4) ((0 : Nat) + (List.length ex)))) && (Nat.beq (List.length ([] ++ (cellsXM ex))) ((0 : Nat) + (List.length (cellsXM ex))))) && true) then (bif (Nat.beq (List.length ([] ++ (cellsXM ex))) ((0 : Nat) + (List.length (cellsXM ex)))) then (bif (((((Nat.beq (List.length ([] ++ (cellsXM ex))) ((0 : Nat) + (List.length (cellsXM ex)))) && (Nat.ble ((((0 : Nat) + ((Int.toNat n_4) * (2 : Nat))) + (0 : Nat)) + (1 : Nat)) ((0 : Nat) + (List.length (cellsXM ex))))) && true) && true) && true) then (lfU what at' n (mdL mk ty seq ti ss (AV.sl (4 : Nat) ((0 : Nat) + (List.length (cellsI cs))) (0 : Nat) ((0 : Nat) + (List.length cs)) (1 : Nat)) (AV.sl (6 : Nat) ((0 : Nat) + (List.length (cellsXM ex))) (0 : Nat) ((0 : Nat) + (List.length ex)) (2 : Nat)) pad pl) ((Blk.mk BK.exact true []) :: ((Blk.mk BK.grow (oldL (0 : Nat) ([] ++ (cellsI cs))) ([] ++ (cellsI cs))) :: ((Blk.mk BK.exact true []) :: ((Blk.mk BK.grow ((oldL (0 : Nat) ([] ++ (cellsXM ex))) && true) (setRange ([] ++ (cellsXM ex)) (((0 : Nat) + ((Int.toNat n_4) * (2 : Nat))) + (0 : Nat)) ((AV.int .i64 n) :: []))) :: [])))) Q)
else False)
else False)
else False)))
else False)))
else False)))
else (lfU what at' n (mdL mk ty seq ti ss (AV.sl (4 : Nat) ((0 : Nat) + (List.length (cellsI cs))) (0 : Nat) ((0 : Nat) + (List.length cs)) (1 : Nat)) (AV.sl (6 : Nat) ((0 : Nat) + (List.length (cellsXM ex))) (0 : Nat) ((0 : Nat) + (List.length ex)) (2 : Nat)) pad pl) ((Blk.mk BK.exact true []) :: ((Blk.mk BK.grow (oldL (0 : Nat) ([] ++ (cellsI cs))) ([] ++ (cellsI cs))) :: ((Blk.mk BK.exact true []) :: ((Blk.mk BK.grow (oldL (0 : Nat) ([] ++ (cellsXM ex))) ([] ++ (cellsXM ex))) :: [])))) Q))))
else False)
else (bif (n_0 == (8 : Int)) then (bif (Nat.beq (List.length ([] ++ (cellsXM ex))) ((0 : Nat) + (List.length (cellsXM ex)))) then (∃ n_1 : Int, (((AV.int .i64 (Nat.cast ((0 : Nat) + (List.length ex)) : Int)) = (AV.int .i64 n_1)) ∧
 (bif (decide (n_1 > (0 : Int))) then (∃ n_2 : Int, (((AV.int .i64 (IntKind.wrap .i64 at')) = (AV.int .i64 n_2)) ∧
 (bif (Nat.beq (List.length ([] ++ (cellsXM ex))) ((0 : Nat) + (List.length (cellsXM ex)))) then (∃ n_3 : Int, (((AV.int .i64 (Nat.cast ((0 : Nat) + (List.length ex)) : Int)) = (AV.int .i64 n_3)) ∧
 (bif ((n_3 != (0 : Int)) && true) then (∃ n_4 : Int, (((AV.int .i64 (Int.tmod n_2 n_3)) = (AV.int .i64 n_4)) ∧
 (bif ((((decide ((0 : Int) ≤ n_4)) && (Nat.blt (Int.toNat n_4) ((0 : Nat) + (List.length ex)))) && (Nat.beq (List.length ([] ++ (cellsXM ex))) ((0 : Nat) + (List.length (cellsXM ex))))) && true) then ((∃ x_5 : (List UInt8), ((Lf ((List.length x_5) ≤ (300 : Nat))) ∧
 ((((AV.int .u8 what) :: ((AV.int .u8 at') :: ((AV.int .i64 n) :: []))) = ((AV.int .u8 what) :: ((AV.int .u8 at') :: ((AV.int .i64 n) :: [])))) ∧
 (((mdL mk ty seq ti ss (AV.sl (4 : Nat) ((0 : Nat) + (List.length (cellsI cs))) (0 : Nat) ((0 : Nat) + (List.length cs)) (1 : Nat)) (AV.sl (6 : Nat) ((0 : Nat) + (List.length (cellsXM ex))) (0 : Nat) ((0 : Nat) + (List.length ex)) (2 : Nat)) pad pl) = (mdL mk ty seq ti ss (AV.sl (4 : Nat) ((0 : Nat) + (List.length (cellsI cs))) (0 : Nat) ((0 : Nat) + (List.length cs)) (1 : Nat)) (AV.sl (6 : Nat) ((0 : Nat) + (List.length (cellsXM ex))) (0 : Nat) ((0 : Nat) + (List.length ex)) (2 : Nat)) pad pl)) ∧
 (((mdL false (0 : Int) (0 : Int) (0 : Int) (0 : Int) AV.nils AV.nils (0 : Int) []) = (mdL false (0 : Int) (0 : Int) (0 : Int) (0 : Int) AV.nils AV.nils (0 : Int) [])) ∧
 ((([] : (List AV)) = []) ∧
 (bif ((oldL (0 : Nat) ([] ++ (cellsI cs))) == (oldL (0 : Nat) ([] ++ (cellsI cs)))) then ((([] ++ (cellsI cs)) = ([] ++ (cellsI cs))) ∧
 ((([] : (List AV)) = []) ∧
 (bif ((oldL (0 : Nat) ([] ++ (cellsXM ex))) == (oldL (0 : Nat) ([] ++ (cellsXM ex)))) then ((([] ++ (cellsXM ex)) = (setM ([] ++ (cellsXM ex)) (((0 : Nat) + ((Int.toNat n_4) * (2 : Nat))) + (1 : Nat)) x_5)) ∧
 (((AV.ptr (1 : Nat) (9 : Nat) (0 : Nat)) = (AV.ptr (1 : Nat) (9 : Nat) (0 : Nat))) ∧
 (((AV.ptr (6 : Nat) ((0 : Nat) + (List.length (cellsXM ex))) ((0 : Nat) + ((Int.toNat n_4) * (2 : Nat)))) = (AV.ptr (6 : Nat) ((0 : Nat) + (List.length (cellsXM ex))) ((0 : Nat) + ((Int.toNat n_4) * (2 : Nat))))) ∧
 (((AV.ptr (2 : Nat) (9 : Nat) (0 : Nat)) = (AV.ptr (2 : Nat) (9 : Nat) (0 : Nat))) ∧
 True))))
else False)))
else False))))))) ∧
 (∀ x_5 : (List UInt8), ((Lf ((List.length x_5) ≤ (300 : Nat))) →
(bif (Nat.beq (List.length (setM ([] ++ (cellsXM ex)) (((0 : Nat) + ((Int.toNat n_4) * (2 : Nat))) + (1 : Nat)) x_5)) ((0 : Nat) + (List.length (cellsXM ex)))) then (bif (Nat.beq (List.length (setM ([] ++ (cellsXM ex)) (((0 : Nat) + ((Int.toNat n_4) * (2 : Nat))) + (1 : Nat)) x_5)) ((0 : Nat) + (List.length (cellsXM ex)))) then (bif ((Nat.beq (List.length (setM ([] ++ (cellsXM ex)) (((0 : Nat) + ((Int.toNat n_4) * (2 : Nat))) + (1 : Nat)) x_5)) ((0 : Nat) + (List.length (cellsXM ex)))) && (Nat.blt (((0 : Nat) + ((Int.toNat n_4) * (2 : Nat))) + (1 : Nat)) ((0 : Nat) + (List.length (cellsXM ex))))) then (∃ s_6 : (List UInt8), (((List.getD (List.take (1 : Nat) (List.drop (((0 : Nat) + ((Int.toNat n_4) * (2 : Nat))) + (1 : Nat)) (setM ([] ++ (cellsXM ex)) (((0 : Nat) + ((Int.toNat n_4) * (2 : Nat))) + (1 : Nat)) x_5))) (0 : Nat) AV.undef) = (AV.str s_6)) ∧
 (∃ n_7 : Int, (((AV.int .i64 (Nat.cast (List.length s_6) : Int)) = (AV.int .i64 n_7)) ∧
 (bif (decide (n_7 < (256 : Int))) then (bif (Nat.beq (List.length (setM ([] ++ (cellsXM ex)) (((0 : Nat) + ((Int.toNat n_4) * (2 : Nat))) + (1 : Nat)) x_5)) ((0 : Nat) + (List.length (cellsXM ex)))) then (bif (Nat.beq (List.length (setM ([] ++ (cellsXM ex)) (((0 : Nat) + ((Int.toNat n_4) * (2 : Nat))) + (1 : Nat)) x_5)) ((0 : Nat) + (List.length (cellsXM ex)))) then (bif ((Nat.beq (List.length (setM ([] ++ (cellsXM ex)) (((0 : Nat) + ((Int.toNat n_4) * (2 : Nat))) + (1 : Nat)) x_5)) ((0 : Nat) + (List.length (cellsXM ex)))) && (Nat.blt (((0 : Nat) + ((Int.toNat n_4) * (2 : Nat))) + (1 : Nat)) ((0 : Nat) + (List.length (cellsXM ex))))) then (∃ s_8 : (List UInt8), (((List.getD (List.take (1 : Nat) (List.drop (((0 : Nat) + ((Int.toNat n_4) * (2 : Nat))) + (1 : Nat)) (setM ([] ++ (cellsXM ex)) (((0 : Nat) + ((Int.toNat n_4) * (2 : Nat))) + (1 : Nat)) x_5))) (0 : Nat) AV.undef) = (AV.str s_8)) ∧
 (bif (Nat.beq (List.length (setM ([] ++ (cellsXM ex)) (((0 : Nat) + ((Int.toNat n_4) * (2 : Nat))) + (1 : Nat)) x_5)) ((0 : Nat) + (List.length (cellsXM ex)))) then (bif (Nat.beq (List.length (setM ([] ++ (cellsXM ex)) (((0 : Nat) + ((Int.toNat n_4) * (2 : Nat))) + (1 : Nat)) x_5)) ((0 : Nat) + (List.length (cellsXM ex)))) then (bif ((Nat.beq (List.length (setM ([] ++ (cellsXM ex)) (((0 : Nat) + ((Int.toNat n_4) * (2 : Nat))) + (1 : Nat)) x_5)) ((0 : Nat) + (List.length (cellsXM ex)))) && (Nat.blt (((0 : Nat) + ((Int.toNat n_4) * (2 : Nat))) + (1 : Nat)) ((0 : Nat) + (List.length (cellsXM ex))))) then (∃ s_9 : (List UInt8), (((List.getD (List.take (1 : Nat) (List.drop (((0 : Nat) + ((Int.toNat n_4) * (2 : Nat))) + (1 : Nat)) (setM ([] ++ (cellsXM ex)) (((0 : Nat) + ((Int.toNat n_4) * (2 : Nat))) + (1 : Nat)) x_5))) (0 : Nat) AV.undef) = (AV.str s_9)) ∧
 (∃ n_10 : Int, (((AV.int .i64 (Nat.cast (List.length s_9) : Int)) = (AV.int .i64 n_10)) ∧
 ((Lf ((((0 : Int) ≤ (1 : Int)) ∧
 ((1 : Int) ≤ (8 : Int))) ∧
 (((0 : Int) ≤ n_10) ∧
 (n_10 ≤ (9223372036854775807 : Int))))) ∧
 (bif ((eqAVL (List.take (1 : Nat) (List.drop (((0 : Nat) + ((Int.toNat n_4) * (2 : Nat))) + (1 : Nat)) (setM ([] ++ (cellsXM ex)) (((0 : Nat) + ((Int.toNat n_4) * (2 : Nat))) + (1 : Nat)) x_5))) (List.take (1 : Nat) (List.drop (((0 : Nat) + ((Int.toNat n_4) * (2 : Nat))) + (1 : Nat)) (setM ([] ++ (cellsXM ex)) (((0 : Nat) + ((Int.toNat n_4) * (2 : Nat))) + (1 : Nat)) x_5)))) && ((Option.some (List.length (setM ([] ++ (cellsXM ex)) (((0 : Nat) + ((Int.toNat n_4) * (2 : Nat))) + (1 : Nat)) x_5))) == (Option.some (List.length (setM ([] ++ (cellsXM ex)) (((0 : Nat) + ((Int.toNat n_4) * (2 : Nat))) + (1 : Nat)) x_5))))) then (bif ((Option.some (List.length (setM ([] ++ (cellsXM ex)) (((0 : Nat) + ((Int.toNat n_4) * (2 : Nat))) + (1 : Nat)) x_5))) == (Option.some (List.length (setM ([] ++ (cellsXM ex)) (((0 : Nat) + ((Int.toNat n_4) * (2 : Nat))) + (1 : Nat)) x_5)))) then (bif ((Option.some (List.length (setM ([] ++ (cellsXM ex)) (((0 : Nat) + ((Int.toNat n_4) * (2 : Nat))) + (1 : Nat)) x_5))) == (Option.some (List.length (setM ([] ++ (cellsXM ex)) (((0 : Nat) + ((Int.toNat n_4) * (2 : Nat))) + (1 : Nat)) x_5)))) then (∃ s_11 : (List UInt8), (((AV.str (beM n_10 (1 : Nat))) = (AV.str s_11)) ∧
 (bif ((decide (((List.length s_8) + (List.length s_11)) ≤ (9223372036854775807 : Nat))) && true) then (∃ s_12 : (List UInt8), (((AV.str (s_8 ++ s_11)) = (AV.str s_12)) ∧
 (bif (Nat.beq (List.length (setM ([] ++ (cellsXM ex)) (((0 : Nat) + ((Int.toNat n_4) * (2 : Nat))) + (1 : Nat)) x_5)) ((0 : Nat) + (List.length (cellsXM ex)))) then (bif (Nat.beq (List.length (setM ([] ++ (cellsXM ex)) (((0 : Nat) + ((Int.toNat n_4) * (2 : Nat))) + (1 : Nat)) x_5)) ((0 : Nat) + (List.length (cellsXM ex)))) then (bif (((((Nat.beq (List.length (setM ([] ++ (cellsXM ex)) (((0 : Nat) + ((Int.toNat n_4) * (2 : Nat))) + (1 : Nat)) x_5)) ((0 : Nat) + (List.length (cellsXM ex)))) && (Nat.ble ((((0 : Nat) + ((Int.toNat n_4) * (2 : Nat))) + (1 : Nat)) + (1 : Nat)) ((0 : Nat) + (List.length (cellsXM ex))))) && true) && true) && true) then (((((oldL (0 : Nat) ([] ++ (cellsI cs))) || (oldL (7 : Nat) ([] ++ (cellsI cs)))) && ((((oldL (0 : Nat) ([] ++ (cellsXM ex))) && true) || (oldL (7 : Nat) (setRange (setM ([] ++ (cellsXM ex)) (((0 : Nat) + ((Int.toNat n_4) * (2 : Nat))) + (1 : Nat)) x_5) (((0 : Nat) + ((Int.toNat n_4) * (2 : Nat))) + (1 : Nat)) ((AV.str s_12) :: [])))) && true)) = true) ∧
 ((True ∧
 ((0 : Nat) = (0 : Nat))) ∧
 (∃ y_13 : (List UInt8), ((Lf ((List.length y_13) ≤ (300 : Nat))) ∧
 ((((300 : Nat) - (List.length y_13)) < ((300 : Nat) - (List.length x_5))) ∧
 ((((AV.int .u8 what) :: ((AV.int .u8 at') :: ((AV.int .i64 n) :: []))) = ((AV.int .u8 what) :: ((AV.int .u8 at') :: ((AV.int .i64 n) :: [])))) ∧
 (((mdL mk ty seq ti ss (AV.sl (4 : Nat) ((0 : Nat) + (List.length (cellsI cs))) (0 : Nat) ((0 : Nat) + (List.length cs)) (1 : Nat)) (AV.sl (6 : Nat) ((0 : Nat) + (List.length (cellsXM ex))) (0 : Nat) ((0 : Nat) + (List.length ex)) (2 : Nat)) pad pl) = (mdL mk ty seq ti ss (AV.sl (4 : Nat) ((0 : Nat) + (List.length (cellsI cs))) (0 : Nat) ((0 : Nat) + (List.length cs)) (1 : Nat)) (AV.sl (6 : Nat) ((0 : Nat) + (List.length (cellsXM ex))) (0 : Nat) ((0 : Nat) + (List.length ex)) (2 : Nat)) pad pl)) ∧
 (((mdL false (0 : Int) (0 : Int) (0 : Int) (0 : Int) AV.nils AV.nils (0 : Int) []) = (mdL false (0 : Int) (0 : Int) (0 : Int) (0 : Int) AV.nils AV.nils (0 : Int) [])) ∧
 ((([] : (List AV)) = []) ∧
 (bif ((oldL (0 : Nat) ([] ++ (cellsI cs))) == (oldL (0 : Nat) ([] ++ (cellsI cs)))) then ((([] ++ (cellsI cs)) = ([] ++ (cellsI cs))) ∧
 ((([] : (List AV)) = []) ∧
 (bif (((oldL (0 : Nat) ([] ++ (cellsXM ex))) && true) == (oldL (0 : Nat) ([] ++ (cellsXM ex)))) then (((setRange (setM ([] ++ (cellsXM ex)) (((0 : Nat) + ((Int.toNat n_4) * (2 : Nat))) + (1 : Nat)) x_5) (((0 : Nat) + ((Int.toNat n_4) * (2 : Nat))) + (1 : Nat)) ((AV.str s_12) :: [])) = (setM ([] ++ (cellsXM ex)) (((0 : Nat) + ((Int.toNat n_4) * (2 : Nat))) + (1 : Nat)) y_13)) ∧
 (((AV.ptr (1 : Nat) (9 : Nat) (0 : Nat)) = (AV.ptr (1 : Nat) (9 : Nat) (0 : Nat))) ∧
 (((AV.ptr (6 : Nat) ((0 : Nat) + (List.length (cellsXM ex))) ((0 : Nat) + ((Int.toNat n_4) * (2 : Nat)))) = (AV.ptr (6 : Nat) ((0 : Nat) + (List.length (cellsXM ex))) ((0 : Nat) + ((Int.toNat n_4) * (2 : Nat))))) ∧
 (((AV.ptr (2 : Nat) (9 : Nat) (0 : Nat)) = (AV.ptr (2 : Nat) (9 : Nat) (0 : Nat))) ∧
 True))))
else False)))
else False))))))))))
else False)
else False)
else False)))
else False)))
else False)
else False)
else False))))))
else False)
else False)
else False)))
else False)
else False)
else False)
else (lfU what at' n (mdL mk ty seq ti ss (AV.sl (4 : Nat) ((0 : Nat) + (List.length (cellsI cs))) (0 : Nat) ((0 : Nat) + (List.length cs)) (1 : Nat)) (AV.sl (6 : Nat) ((0 : Nat) + (List.length (cellsXM ex))) (0 : Nat) ((0 : Nat) + (List.length ex)) (2 : Nat)) pad pl) ((Blk.mk BK.exact true []) :: ((Blk.mk BK.grow (oldL (0 : Nat) ([] ++ (cellsI cs))) ([] ++ (cellsI cs))) :: ((Blk.mk BK.exact true []) :: ((Blk.mk BK.grow (oldL (0 : Nat) ([] ++ (cellsXM ex))) (setM ([] ++ (cellsXM ex)) (((0 : Nat) + ((Int.toNat n_4) * (2 : Nat))) + (1 : Nat)) x_5)) :: [])))) Q))))))
else False)
else False)
else False))))
else False)))
else False)))
else False)))
else (lfU what at' n (mdL mk ty seq ti ss (AV.sl (4 : Nat) ((0 : Nat) + (List.length (cellsI cs))) (0 : Nat) ((0 : Nat) + (List.length cs)) (1 : Nat)) (AV.sl (6 : Nat) ((0 : Nat) + (List.length (cellsXM ex))) (0 : Nat) ((0 : Nat) + (List.length ex)) (2 : Nat)) pad pl) ((Blk.mk BK.exact true []) :: ((Blk.mk BK.grow (oldL (0 : Nat) ([] ++ (cellsI cs))) ([] ++ (cellsI cs))) :: ((Blk.mk BK.exact true []) :: ((Blk.mk BK.grow (oldL (0 : Nat) ([] ++ (cellsXM ex))) ([] ++ (cellsXM ex))) :: [])))) Q))))
else False)
else ((∃ x_1 : (List UInt8), ((Lf ((List.length x_1) ≤ (1300 : Nat))) ∧
 ((((AV.int .u8 what) :: ((AV.int .u8 at') :: ((AV.int .i64 n) :: []))) = ((AV.int .u8 what) :: ((AV.int .u8 at') :: ((AV.int .i64 n) :: [])))) ∧
 (((mdL mk ty seq ti ss (AV.sl (4 : Nat) ((0 : Nat) + (List.length (cellsI cs))) (0 : Nat) ((0 : Nat) + (List.length cs)) (1 : Nat)) (AV.sl (6 : Nat) ((0 : Nat) + (List.length (cellsXM ex))) (0 : Nat) ((0 : Nat) + (List.length ex)) (2 : Nat)) pad pl) = (mdL mk ty seq ti ss (AV.sl (4 : Nat) ((0 : Nat) + (List.length (cellsI cs))) (0 : Nat) ((0 : Nat) + (List.length cs)) (1 : Nat)) (AV.sl (6 : Nat) ((0 : Nat) + (List.length (cellsXM ex))) (0 : Nat) ((0 : Nat) + (List.length ex)) (2 : Nat)) pad x_1)) ∧
 (vc_11_5 cs ex))))) ∧
 (∀ x_1 : (List UInt8), ((Lf ((List.length x_1) ≤ (1300 : Nat))) →
(∃ n_2 : Int, (((AV.int .i64 (Nat.cast (List.length x_1) : Int)) = (AV.int .i64 n_2)) ∧
 (∃ n_3 : Int, (((AV.int .u8 (Int.tmod at' (4 : Int))) = (AV.int .u8 n_3)) ∧
 (∃ n_4 : Int, (((AV.int .i64 (IntKind.wrap .i64 n_3)) = (AV.int .i64 n_4)) ∧
 (∃ n_5 : Int, (((AV.int .i64 (IntKind.wrap .i64 ((1188 : Int) + n_4))) = (AV.int .i64 n_5)) ∧
 (bif (decide (n_2 < n_5)) then (∃ n_6 : Int, (((AV.int .i64 (Nat.cast (List.length x_1) : Int)) = (AV.int .i64 n_6)) ∧
 ((Lf ((((0 : Int) ≤ (4 : Int)) ∧
 ((4 : Int) ≤ (8 : Int))) ∧
 (((0 : Int) ≤ n_6) ∧
 (n_6 ≤ (9223372036854775807 : Int))))) ∧
 (bif ((eqAVL ((AV.str x_1) :: []) ((AV.str x_1) :: [])) && true) then (∃ s_7 : (List UInt8), (((AV.str (beM n_6 (4 : Nat))) = (AV.str s_7)) ∧
 (bif ((decide (((List.length x_1) + (List.length s_7)) ≤ (9223372036854775807 : Nat))) && true) then (∃ s_8 : (List UInt8), (((AV.str (x_1 ++ s_7)) = (AV.str s_8)) ∧
 (((((oldL (0 : Nat) ([] ++ (cellsI cs))) || (oldL (7 : Nat) ([] ++ (cellsI cs)))) && (((oldL (0 : Nat) ([] ++ (cellsXM ex))) || (oldL (7 : Nat) ([] ++ (cellsXM ex)))) && true)) = true) ∧
 ((True ∧
 ((0 : Nat) = (0 : Nat))) ∧
 (∃ y_9 : (List UInt8), ((Lf ((List.length y_9) ≤ (1300 : Nat))) ∧
 ((((1300 : Nat) - (List.length y_9)) < ((1300 : Nat) - (List.length x_1))) ∧
 ((((AV.int .u8 what) :: ((AV.int .u8 at') :: ((AV.int .i64 n) :: []))) = ((AV.int .u8 what) :: ((AV.int .u8 at') :: ((AV.int .i64 n) :: [])))) ∧
 (((mdL mk ty seq ti ss (AV.sl (4 : Nat) ((0 : Nat) + (List.length (cellsI cs))) (0 : Nat) ((0 : Nat) + (List.length cs)) (1 : Nat)) (AV.sl (6 : Nat) ((0 : Nat) + (List.length (cellsXM ex))) (0 : Nat) ((0 : Nat) + (List.length ex)) (2 : Nat)) pad s_8) = (mdL mk ty seq ti ss (AV.sl (4 : Nat) ((0 : Nat) + (List.length (cellsI cs))) (0 : Nat) ((0 : Nat) + (List.length cs)) (1 : Nat)) (AV.sl (6 : Nat) ((0 : Nat) + (List.length (cellsXM ex))) (0 : Nat) ((0 : Nat) + (List.length ex)) (2 : Nat)) pad y_9)) ∧
 (vc_11_5 cs ex))))))))))
else False)))
else False))))
else (lfU what at' n (mdL mk ty seq ti ss (AV.sl (4 : Nat) ((0 : Nat) + (List.length (cellsI cs))) (0 : Nat) ((0 : Nat) + (List.length cs)) (1 : Nat)) (AV.sl (6 : Nat) ((0 : Nat) + (List.length (cellsXM ex))) (0 : Nat) ((0 : Nat) + (List.length ex)) (2 : Nat)) pad x_1) ((Blk.mk BK.exact true []) :: ((Blk.mk BK.grow (oldL (0 : Nat) ([] ++ (cellsI cs))) ([] ++ (cellsI cs))) :: ((Blk.mk BK.exact true []) :: ((Blk.mk BK.grow (oldL (0 : Nat) ([] ++ (cellsXM ex))) ([] ++ (cellsXM ex))) :: [])))) Q))))))))))))))))))))))))
else False)
else False))
else False)
else False)
else False))
else False)) := by kernel_rfl


/-! ## what is handed out -/
def okA (H : List Blk) (a : AV) (cs : List Int) : Prop := nlV 1 (frzV 0 H 8 a) = .lst 0 (cellsI cs) cs.length 1
def okX (H : List Blk) (a : AV) (ex : List Xt) : Prop := nlV 2 (frzV 0 H 8 a) = .lst 0 (cellsXM ex) ex.length 2
theorem okA_sl {H : List Blk} {id tot len : Nat} {k : BK} {lf : Bool} {c : List AV} {cs : List Int} (hb : H[id]? = some ⟨k, lf, c⟩) (e1 : c = cellsI cs) (e2 : tot = cs.length) (e3 : len = cs.length) (hk : k ≠ .ro) : okA H (.sl id tot 0 len 1) cs := by
  subst e1 e2 e3
  rw [okA, frz_sl hb (cellsI_length _) (Nat.mul_one _) hk (plain_cI _)]
  rfl
theorem okX_sl {H : List Blk} {id tot len : Nat} {k : BK} {lf : Bool} {c : List AV} {ex : List Xt} (hb : H[id]? = some ⟨k, lf, c⟩) (e1 : c = cellsXM ex) (e2 : tot = 2 * ex.length) (e3 : len = ex.length) (hk : k ≠ .ro) : okX H (.sl id tot 0 len 2) ex := by
  subst e1 e2 e3
  rw [okX, frz_sl hb (cellsX_len _) (Nat.mul_comm _ _) hk (plain_cX _)]
  rfl
def end11 (kc kx : Nat) (Q : Out → List Blk → Gh → Prop) : Prop :=
  ∀ (mk : Bool) (ty seq ti ss : Int) (a b : AV) (pad : Int) (pl : List UInt8) (H : List Blk) (cs : List Int) (ex : List Xt), okA H a cs → okX H b ex → cs.length ≤ kc + 1 → ex.length ≤ kx + 1 → (∀ x ∈ ex, x.2.length ≤ 300) → pl.length ≤ 1300 → Q (.ret (.agg [.bool mk, .int .i64 ty, .int .i64 seq, .int .i64 ti, .int .i64 ss, a, b, .int .i64 pad, .str pl])) H {}
theorem oneL_I (l : List Int) : oneL (cellsI l) = true := by
  induction l with
  | nil => rfl
  | cons x l ih => simpa [cellsI, oneL, one] using ih
theorem oneL_X : ∀ l : List Xt, oneL (cellsXM l) = true
  | [] => rfl
  | x :: l => by simpa [cellsXM, oneL, one] using oneL_X l
theorem old_I (a : Nat) (l : List Int) : oldL a (cellsI l) = true := by
  induction l with
  | nil => rfl
  | cons x l ih => simpa [cellsI, oldL, old] using ih
theorem old_X (a : Nat) : ∀ l : List Xt, oldL a (cellsXM l) = true
  | [] => rfl
  | x :: l => by simpa [cellsXM, oldL, old] using old_X a l
theorem dat_app {ex : List Xt} {n : Int} (h : ∀ x ∈ ex, x.2.length ≤ 300) : ∀ x ∈ ex ++ [(n, ([] : List UInt8))], x.2.length ≤ 300 := by
  intro x hx
  rcases List.mem_append.1 hx with g | g
  · exact h x g
  · simp at g
    subst g
    simp
theorem dat_set {ex : List Xt} {k : Nat} {n : Int} {s : List UInt8} (h : ∀ x ∈ ex, x.2.length ≤ 300) (hs : s.length ≤ 300) : ∀ x ∈ ex.set k (n, s), x.2.length ≤ 300 := by
  intro x hx
  rcases List.mem_or_eq_of_mem_set hx with g | g
  · exact h x g
  · subst g
    exact hs
theorem setR_id : ∀ (l : List Xt) (k : Nat) (hk : k < l.length) (n : Int), setRange (cellsXM l) (k * 2) [.int .i64 n] = cellsXM (l.set k (n, l[k].2))
  | x :: l, 0, _, n => by simp [setRange, cellsXM]
  | x :: l, k + 1, hk, n => by
    have ih := setR_id l k (by simpa using hk) n
    rw [setRange] at ih
    rw [show (k + 1) * 2 = k * 2 + 2 by omega, setRange]
    simp only [cellsXM, List.take_succ_cons, List.cons_append, List.set_cons_succ, List.getElem_cons_succ]
    rw [← ih]
    simp [Nat.add_right_comm _ 2]
theorem setR_dt : ∀ (l : List Xt) (k : Nat) (hk : k < l.length) (s : List UInt8), setRange (cellsXM l) (k * 2 + 1) [.str s] = cellsXM (l.set k (l[k].1, s))
  | x :: l, 0, _, s => by simp [setRange, cellsXM]
  | x :: l, k + 1, hk, s => by
    have ih := setR_dt l k (by simpa using hk) s
    rw [setRange] at ih
    rw [show (k + 1) * 2 + 1 = k * 2 + 1 + 2 by omega, setRange]
    simp only [cellsXM, List.take_succ_cons, List.cons_append, List.set_cons_succ, List.getElem_cons_succ]
    rw [← ih]
    simp [Nat.add_right_comm _ 2]
theorem setX_id {ex : List Xt} {k m : Nat} {n : Int} (hk : k < ex.length) (hm : m = k * 2) : setRange ([] ++ cellsXM ex) m [.int .i64 n] = cellsXM (ex.set k (n, ex[k].2)) := by
  subst hm
  exact setR_id ex k hk n
theorem setX_dt {ex : List Xt} {k m : Nat} {s : List UInt8} (hk : k < ex.length) (hm : m = k * 2 + 1) : setM ([] ++ cellsXM ex) m s = cellsXM (ex.set k (ex[k].1, s)) := by
  subst hm
  exact setR_dt ex k hk s
theorem ix_k (k : Nat) : 0 + Int.toNat (k : Int) * 2 + 1 = k * 2 + 1 := by simp
theorem setM_len {ex : List Xt} {k : Nat} (hk : k < ex.length) (s : List UInt8) : (setM ([] ++ cellsXM ex) (0 + Int.toNat (k : Int) * 2 + 1) s).length = 2 * ex.length := by
  rw [setX_dt hk (ix_k k), cellsX_len, List.length_set]
theorem setM_self {ex : List Xt} {k : Nat} (hk : k < ex.length) : setM ([] ++ cellsXM ex) (0 + Int.toNat (k : Int) * 2 + 1) ex[k].2 = [] ++ cellsXM ex := by
  rw [setX_dt hk (ix_k k)]
  show cellsXM (ex.set k ex[k]) = _
  rw [List.set_getElem_self]
  rfl
theorem setM_set {ex : List Xt} {k : Nat} {s s' : List UInt8} (hk : k < ex.length) : setRange (setM ([] ++ cellsXM ex) (0 + Int.toNat (k : Int) * 2 + 1) s) (0 + Int.toNat (k : Int) * 2 + 1) [.str s'] = setM ([] ++ cellsXM ex) (0 + Int.toNat (k : Int) * 2 + 1) s' := by
  rw [setX_dt hk (ix_k k), setX_dt hk (ix_k k), ix_k, setR_dt _ k (by simpa using hk), List.set_set, List.getElem_set_self]
theorem old_set {ex : List Xt} {k : Nat} {s s' : List UInt8} (hk : k < ex.length) (a : Nat) : oldL a (setRange (setM ([] ++ cellsXM ex) (0 + Int.toNat (k : Int) * 2 + 1) s) (0 + Int.toNat (k : Int) * 2 + 1) [.str s']) = true := by
  rw [setM_set hk, setX_dt hk (ix_k k)]
  exact old_X a _
theorem ld_k {ex : List Xt} {k : Nat} {s : List UInt8} (hk : k < ex.length) : List.take 1 (List.drop (0 + Int.toNat (k : Int) * 2 + 1) (setM ([] ++ cellsXM ex) (0 + Int.toNat (k : Int) * 2 + 1) s)) = [.str s] := by
  rw [setX_dt hk (ix_k k), ix_k]
  have e := cellsX_at (l := ex.set k (ex[k].1, s)) (i := k) (m := 2 * k) (by simpa using hk) rfl
  have : List.drop (k * 2 + 1) (cellsXM (ex.set k (ex[k].1, s))) = List.drop 1 (List.drop (2 * k) (cellsXM (ex.set k (ex[k].1, s)))) := by rw [List.drop_drop, Nat.mul_comm]
  have e2 := congrArg (List.drop 1) e
  rw [List.drop_take] at e2
  rw [this]
  exact e2.trans (by simp)
theorem ldX {ex : List Xt} {k : Nat} {s : List UInt8} (hk : k < ex.length) {K : List UInt8 → Prop} (h : K s) : ∃ s' : List UInt8, List.getD (List.take 1 (List.drop (0 + Int.toNat (k : Int) * 2 + 1) (setM ([] ++ cellsXM ex) (0 + Int.toNat (k : Int) * 2 + 1) s))) 0 AV.undef = AV.str s' ∧ K s' :=
  ⟨s, by rw [ld_k hk]; rfl, h⟩
theorem eqLd {ex : List Xt} {k : Nat} {s : List UInt8} (hk : k < ex.length) {o : Option Nat} : (eqAVL (List.take 1 (List.drop (0 + Int.toNat (k : Int) * 2 + 1) (setM ([] ++ cellsXM ex) (0 + Int.toNat (k : Int) * 2 + 1) s))) (List.take 1 (List.drop (0 + Int.toNat (k : Int) * 2 + 1) (setM ([] ++ cellsXM ex) (0 + Int.toNat (k : Int) * 2 + 1) s))) && (o == o)) = true := by
  have hb : ∀ s : List UInt8, eqB s s = true := fun s => by induction s with
    | nil => rfl
    | cons a s ih => simp [eqB, ih]
  rw [ld_k hk]
  simp [eqAVL, eqAV, hb]
theorem tmodX {a : Int} {n : Nat} (h : 0 ≤ a ∧ a ≤ 255) : Int.tmod a ((0 + n : Nat) : Int) = ((a.toNat % n : Nat) : Int) := by
  obtain ⟨m, rfl⟩ : ∃ m : Nat, a = m := ⟨a.toNat, by omega⟩
  rw [Nat.zero_add]
  rfl
theorem ent1 : vc_11_1 := by
  unfold vc_11_1
  simp
theorem ent2 (ex : List Xt) : vc_11_2 ex := by
  unfold vc_11_2
  simp
theorem ent3 (ex : List Xt) : vc_11_3 ex := by
  unfold vc_11_3
  exact ⟨rfl, rfl, ent2 ex⟩
theorem ent4 (cs : List Int) : vc_11_4 cs := by
  unfold vc_11_4
  simp
theorem ent5 (cs : List Int) (ex : List Xt) : vc_11_5 cs ex := by
  unfold vc_11_5
  exact ⟨rfl, rfl, ckI (by simp) ⟨rfl, ent2 ex⟩⟩
theorem bend_run (what at' n : Int) (mk : Bool) (ty seq ti ss : Int) (tc : Nat) (cs : List Int) (tx : Nat) (ex : List Xt) (pad : Int) (pl : List UInt8) (hat : 0 ≤ at' ∧ at' ≤ 255) (hcs : cs.length ≤ 1000) (hex : ex.length ≤ 1000) (hd : ∀ x ∈ ex, x.2.length ≤ 300) (hpl : pl.length ≤ 1300) (Q : Out → List Blk → Gh → Prop) (hq : end11 cs.length ex.length Q) : ∃ hv hb, goal_11 hv hb what at' n mk ty seq ti ss tc cs tx ex pad pl Q := by
  obtain ⟨hv, hb', e⟩ : ∃ hv hb, goal_11 hv hb what at' n mk ty seq ti ss tc cs tx ex pad pl Q = _ := ⟨_, _, vc_11 what at' n mk ty seq ti ss tc cs tx ex pad pl Q⟩
  refine ⟨hv, hb', e.mpr ?_⟩
  clear e
  have hm4 : Int.tmod at' 4 = at' % 4 := Int.tmod_eq_emod_of_nonneg hat.1
  refine ckI (by simp only [Bool.and_eq_true, Bool.and_true, blt_iff, Nat.ble_eq, nbeq, decide_eq_true_eq, cellsX_len, cellsI_length, oneL_I, oneL_X, List.nil_append, Int.toNat_natCast, and_true, true_and] <;> omega) (splitI (fun a0 => ?_) (fun a0 => ?_))
  · have hc0 : cs = [] := List.length_eq_zero_iff.1 (Nat.eq_of_beq_eq_true a0)
    refine splitI (fun _ => ckI (by simp only [Bool.and_eq_true, Bool.and_true, blt_iff, Nat.ble_eq, nbeq, decide_eq_true_eq, cellsX_len, cellsI_length, oneL_I, oneL_X, List.nil_append, Int.toNat_natCast, and_true, true_and] <;> omega) (splitI (fun b0 => ?_) (fun b0 => ?_))) (fun h => absurd (a0.symm.trans h) (by simp))
    · have hx0 : ex = [] := List.length_eq_zero_iff.1 (Nat.eq_of_beq_eq_true b0)
      refine splitI (fun _ => ?_) (fun h => absurd (b0.symm.trans h) (by simp))
      refine ⟨_, rfl, splitE (fun _ => ?_) (fun _ => ?_)⟩
      · exact hq _ _ _ _ _ _ _ _ _ _ (cs) (ex) (okA_sl (cs := cs) rfl (by simp [hc0, cellsI]) (by simp [hc0, cellsI]) (by simp [hc0, cellsI]) (by simp)) (okX_sl (ex := ex) rfl (by simp [hx0, cellsX_app, cellsXM]) (by simp [hx0, cellsX_len] <;> omega) (by simp [hx0, cellsX_len]) (by simp)) (by simp <;> omega) (by simp <;> omega) hd hpl
      refine splitE (fun _ => ?_) (fun _ => ?_)
      · exact hq _ _ _ _ _ _ _ _ _ _ (cs) (ex) (okA_sl (cs := cs) rfl (by simp [hc0, cellsI]) (by simp [hc0, cellsI]) (by simp [hc0, cellsI]) (by simp)) (okX_sl (ex := ex) rfl (by simp [hx0, cellsX_app, cellsXM]) (by simp [hx0, cellsX_len] <;> omega) (by simp [hx0, cellsX_len]) (by simp)) (by simp <;> omega) (by simp <;> omega) hd hpl
      refine splitE (fun _ => ?_) (fun _ => ?_)
      · exact hq _ _ _ _ _ _ _ _ _ _ (cs) (ex) (okA_sl (cs := cs) rfl (by simp [hc0, cellsI]) (by simp [hc0, cellsI]) (by simp [hc0, cellsI]) (by simp)) (okX_sl (ex := ex) rfl (by simp [hx0, cellsX_app, cellsXM]) (by simp [hx0, cellsX_len] <;> omega) (by simp [hx0, cellsX_len]) (by simp)) (by simp <;> omega) (by simp <;> omega) hd hpl
      refine splitE (fun _ => ?_) (fun _ => ?_)
      · exact hq _ _ _ _ _ _ _ _ _ _ (cs) (ex) (okA_sl (cs := cs) rfl (by simp [hc0, cellsI]) (by simp [hc0, cellsI]) (by simp [hc0, cellsI]) (by simp)) (okX_sl (ex := ex) rfl (by simp [hx0, cellsX_app, cellsXM]) (by simp [hx0, cellsX_len] <;> omega) (by simp [hx0, cellsX_len]) (by simp)) (by simp <;> omega) (by simp <;> omega) hd hpl
      refine splitE (fun _ => ?_) (fun _ => ?_)
      · exact hq _ _ _ _ _ _ _ _ _ _ (cs) (ex) (okA_sl (cs := cs) rfl (by simp [hc0, cellsI]) (by simp [hc0, cellsI]) (by simp [hc0, cellsI]) (by simp)) (okX_sl (ex := ex) rfl (by simp [hx0, cellsX_app, cellsXM]) (by simp [hx0, cellsX_len] <;> omega) (by simp [hx0, cellsX_len]) (by simp)) (by simp <;> omega) (by simp <;> omega) hd hpl
      refine splitE (fun _ => ?_) (fun _ => ?_)
      · exact hq _ _ _ _ _ _ _ _ _ _ (cs ++ [n]) (ex) (okA_sl (cs := cs ++ [n]) rfl (by simp [hc0, cellsI]) (by simp [hc0, cellsI]) (by simp [hc0, cellsI]) (by simp)) (okX_sl (ex := ex) rfl (by simp [hx0, cellsX_app, cellsXM]) (by simp [hx0, cellsX_len] <;> omega) (by simp [hx0, cellsX_len]) (by simp)) (by simp <;> omega) (by simp <;> omega) hd hpl
      refine splitE (fun _ => ?_) (fun _ => ?_)
      · exact hq _ _ _ _ _ _ _ _ _ _ (cs) (ex ++ [(n, [])]) (okA_sl (cs := cs) rfl (by simp [hc0, cellsI]) (by simp [hc0, cellsI]) (by simp [hc0, cellsI]) (by simp)) (okX_sl (ex := ex ++ [(n, [])]) rfl (by simp [hx0, cellsX_app, cellsXM]) (by simp [hx0, cellsX_len] <;> omega) (by simp [hx0, cellsX_len]) (by simp)) (by simp <;> omega) (by simp <;> omega) (dat_app hd) hpl
      refine splitE (fun _ => ?_) (fun _ => ?_)
      · exact ⟨_, rfl, splitD (fun h => absurd h (by decide)) (fun _ => hq _ _ _ _ _ _ _ _ _ _ (cs) (ex) (okA_sl (cs := cs) rfl (by simp [hc0, cellsI]) (by simp [hc0, cellsI]) (by simp [hc0, cellsI]) (by simp)) (okX_sl (ex := ex) rfl (by simp [hx0, cellsX_app, cellsXM]) (by simp [hx0, cellsX_len] <;> omega) (by simp [hx0, cellsX_len]) (by simp)) (by simp <;> omega) (by simp <;> omega) hd hpl)⟩
      refine splitE (fun _ => ?_) (fun _ => ?_)
      · exact ⟨_, rfl, splitD (fun h => absurd h (by decide)) (fun _ => hq _ _ _ _ _ _ _ _ _ _ (cs) (ex) (okA_sl (cs := cs) rfl (by simp [hc0, cellsI]) (by simp [hc0, cellsI]) (by simp [hc0, cellsI]) (by simp)) (okX_sl (ex := ex) rfl (by simp [hx0, cellsX_app, cellsXM]) (by simp [hx0, cellsX_len] <;> omega) (by simp [hx0, cellsX_len]) (by simp)) (by simp <;> omega) (by simp <;> omega) hd hpl)⟩
      refine ⟨⟨pl, ⟨hpl⟩, rfl, rfl, (ent1)⟩, ?_⟩
      rintro x ⟨hx⟩
      refine ⟨_, rfl, _, rfl, wrapI (by omega) (by omega) (wrapI (by omega) (by omega) (splitD (fun hlt => ?_) (fun hge => ?_)))⟩
      · refine ⟨_, rfl, ⟨by omega, by omega, by omega⟩, eqS1 ⟨_, rfl, ckI (by simp [be_len] <;> omega) ⟨_, rfl, by simp [old_X, old_I], ⟨trivial, rfl⟩, x ++ beM (x.length : Int) 4, ⟨by simp [be_len] <;> omega⟩, by simp [be_len] <;> omega, rfl, rfl, (ent1)⟩⟩⟩
      · exact hq _ _ _ _ _ _ _ _ _ _ (cs) (ex) (okA_sl (cs := cs) rfl (by simp [hc0, cellsI]) (by simp [hc0, cellsI]) (by simp [hc0, cellsI]) (by simp)) (okX_sl (ex := ex) rfl (by simp [hx0, cellsX_app, cellsXM]) (by simp [hx0, cellsX_len] <;> omega) (by simp [hx0, cellsX_len]) (by simp)) (by simp <;> omega) (by simp <;> omega) hd hx
    · have hxl : ex.length ≠ 0 := Nat.ne_of_beq_eq_false b0
      refine ckI (by simp [Nat.blt]; omega) (ckI (by simp only [Bool.and_eq_true, Bool.and_true, blt_iff, Nat.ble_eq, nbeq, decide_eq_true_eq, cellsX_len, cellsI_length, oneL_I, oneL_X, List.nil_append, Int.toNat_natCast, and_true, true_and] <;> omega) ?_)
      refine ⟨_, rfl, splitE (fun _ => ?_) (fun _ => ?_)⟩
      · exact hq _ _ _ _ _ _ _ _ _ _ (cs) (ex) (okA_sl (cs := cs) rfl (by simp [hc0, cellsI]) (by simp [hc0, cellsI]) (by simp [hc0, cellsI]) (by simp)) (okX_sl (ex := ex) rfl (by simp [cellsX_app, cellsXM]) (by simp [cellsX_len] <;> omega) (by simp [cellsX_len]) (by simp)) (by simp <;> omega) (by simp <;> omega) hd hpl
      refine splitE (fun _ => ?_) (fun _ => ?_)
      · exact hq _ _ _ _ _ _ _ _ _ _ (cs) (ex) (okA_sl (cs := cs) rfl (by simp [hc0, cellsI]) (by simp [hc0, cellsI]) (by simp [hc0, cellsI]) (by simp)) (okX_sl (ex := ex) rfl (by simp [cellsX_app, cellsXM]) (by simp [cellsX_len] <;> omega) (by simp [cellsX_len]) (by simp)) (by simp <;> omega) (by simp <;> omega) hd hpl
      refine splitE (fun _ => ?_) (fun _ => ?_)
      · exact hq _ _ _ _ _ _ _ _ _ _ (cs) (ex) (okA_sl (cs := cs) rfl (by simp [hc0, cellsI]) (by simp [hc0, cellsI]) (by simp [hc0, cellsI]) (by simp)) (okX_sl (ex := ex) rfl (by simp [cellsX_app, cellsXM]) (by simp [cellsX_len] <;> omega) (by simp [cellsX_len]) (by simp)) (by simp <;> omega) (by simp <;> omega) hd hpl
      refine splitE (fun _ => ?_) (fun _ => ?_)
      · exact hq _ _ _ _ _ _ _ _ _ _ (cs) (ex) (okA_sl (cs := cs) rfl (by simp [hc0, cellsI]) (by simp [hc0, cellsI]) (by simp [hc0, cellsI]) (by simp)) (okX_sl (ex := ex) rfl (by simp [cellsX_app, cellsXM]) (by simp [cellsX_len] <;> omega) (by simp [cellsX_len]) (by simp)) (by simp <;> omega) (by simp <;> omega) hd hpl
      refine splitE (fun _ => ?_) (fun _ => ?_)
      · exact hq _ _ _ _ _ _ _ _ _ _ (cs) (ex) (okA_sl (cs := cs) rfl (by simp [hc0, cellsI]) (by simp [hc0, cellsI]) (by simp [hc0, cellsI]) (by simp)) (okX_sl (ex := ex) rfl (by simp [cellsX_app, cellsXM]) (by simp [cellsX_len] <;> omega) (by simp [cellsX_len]) (by simp)) (by simp <;> omega) (by simp <;> omega) hd hpl
      refine splitE (fun _ => ?_) (fun _ => ?_)
      · exact hq _ _ _ _ _ _ _ _ _ _ (cs ++ [n]) (ex) (okA_sl (cs := cs ++ [n]) rfl (by simp [hc0, cellsI]) (by simp [hc0, cellsI]) (by simp [hc0, cellsI]) (by simp)) (okX_sl (ex := ex) rfl (by simp [cellsX_app, cellsXM]) (by simp [cellsX_len] <;> omega) (by simp [cellsX_len]) (by simp)) (by simp <;> omega) (by simp <;> omega) hd hpl
      refine splitE (fun _ => ?_) (fun _ => ?_)
      · exact ckI (by simp only [Bool.and_eq_true, Bool.and_true, blt_iff, Nat.ble_eq, nbeq, decide_eq_true_eq, cellsX_len, cellsI_length, oneL_I, oneL_X, List.nil_append, Int.toNat_natCast, and_true, true_and] <;> omega) (hq _ _ _ _ _ _ _ _ _ _ (cs) (ex ++ [(n, [])]) (okA_sl (cs := cs) rfl (by simp [hc0, cellsI]) (by simp [hc0, cellsI]) (by simp [hc0, cellsI]) (by simp)) (okX_sl (ex := ex ++ [(n, [])]) rfl (by simp [cellsX_app, cellsXM]) (by simp [cellsX_len] <;> omega) (by simp [cellsX_len]) (by simp)) (by simp <;> omega) (by simp <;> omega) (dat_app hd) hpl)
      refine splitE (fun _ => ?_) (fun _ => ?_)
      · refine ckI (by simp only [Bool.and_eq_true, Bool.and_true, blt_iff, Nat.ble_eq, nbeq, decide_eq_true_eq, cellsX_len, cellsI_length, oneL_I, oneL_X, List.nil_append, Int.toNat_natCast, and_true, true_and] <;> omega) ⟨_, rfl, splitD (fun hp => ?_) (fun hp => hq _ _ _ _ _ _ _ _ _ _ (cs) (ex) (okA_sl (cs := cs) rfl (by simp [hc0, cellsI]) (by simp [hc0, cellsI]) (by simp [hc0, cellsI]) (by simp)) (okX_sl (ex := ex) rfl (by simp [cellsX_app, cellsXM]) (by simp [cellsX_len] <;> omega) (by simp [cellsX_len]) (by simp)) (by simp <;> omega) (by simp <;> omega) hd hpl)⟩
        have hX : 0 < ex.length := by omega
        have htm : Int.tmod at' ((0 + ex.length : Nat) : Int) = ((at'.toNat % ex.length : Nat) : Int) := tmodX hat
        have hk : at'.toNat % ex.length < ex.length := Nat.mod_lt _ hX
        generalize at'.toNat % ex.length = k at htm hk
        refine wrapI (by omega) (by omega) (ckI (by simp only [Bool.and_eq_true, Bool.and_true, blt_iff, Nat.ble_eq, nbeq, decide_eq_true_eq, cellsX_len, cellsI_length, oneL_I, oneL_X, List.nil_append, Int.toNat_natCast, and_true, true_and] <;> omega) ⟨_, rfl, ckI (by rw [Bool.and_true, bne_iff_ne]; omega) ⟨(k : Int), by rw [htm], ckI (by simp only [Bool.and_eq_true, Bool.and_true, blt_iff, Nat.ble_eq, nbeq, decide_eq_true_eq, cellsX_len, cellsI_length, oneL_I, oneL_X, List.nil_append, Int.toNat_natCast, and_true, true_and] <;> omega) ?_⟩⟩)
        exact ckI (by simp only [Bool.and_eq_true, Bool.and_true, blt_iff, Nat.ble_eq, nbeq, decide_eq_true_eq, cellsX_len, cellsI_length, oneL_I, oneL_X, List.nil_append, Int.toNat_natCast, and_true, true_and] <;> omega) (ckI (by simp only [Bool.and_eq_true, Bool.and_true, blt_iff, Nat.ble_eq, nbeq, decide_eq_true_eq, cellsX_len, cellsI_length, oneL_I, oneL_X, List.nil_append, Int.toNat_natCast, and_true, true_and] <;> omega) (hq _ _ _ _ _ _ _ _ _ _ (cs) (ex.set k (n, ex[k].2)) (okA_sl (cs := cs) rfl (by simp [hc0, cellsI]) (by simp [hc0, cellsI]) (by simp [hc0, cellsI]) (by simp)) (okX_sl (ex := ex.set k (n, ex[k].2)) rfl (setX_id hk (by simp)) (by simp [cellsX_len] <;> omega) (by simp [cellsX_len]) (by simp)) (by simp <;> omega) (by simp <;> omega) (dat_set hd (hd _ (List.getElem_mem hk))) hpl))
      refine splitE (fun _ => ?_) (fun _ => ?_)
      · refine ckI (by simp only [Bool.and_eq_true, Bool.and_true, blt_iff, Nat.ble_eq, nbeq, decide_eq_true_eq, cellsX_len, cellsI_length, oneL_I, oneL_X, List.nil_append, Int.toNat_natCast, and_true, true_and] <;> omega) ⟨_, rfl, splitD (fun hp => ?_) (fun hp => hq _ _ _ _ _ _ _ _ _ _ (cs) (ex) (okA_sl (cs := cs) rfl (by simp [hc0, cellsI]) (by simp [hc0, cellsI]) (by simp [hc0, cellsI]) (by simp)) (okX_sl (ex := ex) rfl (by simp [cellsX_app, cellsXM]) (by simp [cellsX_len] <;> omega) (by simp [cellsX_len]) (by simp)) (by simp <;> omega) (by simp <;> omega) hd hpl)⟩
        have hX : 0 < ex.length := by omega
        have htm : Int.tmod at' ((0 + ex.length : Nat) : Int) = ((at'.toNat % ex.length : Nat) : Int) := tmodX hat
        have hk : at'.toNat % ex.length < ex.length := Nat.mod_lt _ hX
        generalize at'.toNat % ex.length = k at htm hk
        refine wrapI (by omega) (by omega) (ckI (by simp only [Bool.and_eq_true, Bool.and_true, blt_iff, Nat.ble_eq, nbeq, decide_eq_true_eq, cellsX_len, cellsI_length, oneL_I, oneL_X, List.nil_append, Int.toNat_natCast, and_true, true_and] <;> omega) ⟨_, rfl, ckI (by rw [Bool.and_true, bne_iff_ne]; omega) ⟨(k : Int), by rw [htm], ckI (by simp only [Bool.and_eq_true, Bool.and_true, blt_iff, Nat.ble_eq, nbeq, decide_eq_true_eq, cellsX_len, cellsI_length, oneL_I, oneL_X, List.nil_append, Int.toNat_natCast, and_true, true_and] <;> omega) ?_⟩⟩)
        have hsl := setM_len (ex := ex) (k := k) hk
        refine ⟨⟨ex[k].2, ⟨hd _ (List.getElem_mem hk)⟩, rfl, rfl, rfl, rfl, rfl, ckI (by simp) ⟨(setM_self hk).symm, rfl, rfl, rfl, trivial⟩⟩, ?_⟩
        rintro s ⟨hs⟩
        have hL : Nat.beq (setM ([] ++ cellsXM ex) (0 + Int.toNat (k : Int) * 2 + 1) s).length (0 + (cellsXM ex).length) = true := by rw [hsl, cellsX_len]; simp
        have hB : Nat.blt (0 + Int.toNat (k : Int) * 2 + 1) (0 + (cellsXM ex).length) = true := by rw [cellsX_len]; simp; omega
        have hLB : (Nat.beq (setM ([] ++ cellsXM ex) (0 + Int.toNat (k : Int) * 2 + 1) s).length (0 + (cellsXM ex).length) && Nat.blt (0 + Int.toNat (k : Int) * 2 + 1) (0 + (cellsXM ex).length)) = true := by rw [hL, hB]; rfl
        refine ckI hL (ckI hL (ckI hLB (ldX hk ⟨_, rfl, splitD (fun hlt => ?_) (fun hge => ?_)⟩)))
        · refine ckI hL (ckI hL (ckI hLB (ldX hk (ckI hL (ckI hL (ckI hLB (ldX hk ⟨_, rfl, ⟨by omega, by omega, by omega⟩, ?_⟩)))))))
          refine ckI (eqLd hk) (ckI (by simp) (ckI (by simp) ⟨_, rfl, ckI (by simp [be_len] <;> omega) ⟨_, rfl, ckI hL (ckI hL (ckI (by rw [hL]; simp [cellsX_len] <;> omega) ?_))⟩⟩))
          refine ⟨by simp [old_X, old_I, old_set hk], ⟨trivial, rfl⟩, s ++ beM (s.length : Int) 1, ⟨by simp [be_len] <;> omega⟩, by simp [be_len] <;> omega, rfl, rfl, rfl, rfl, rfl, ckI (by simp) ⟨setM_set hk, rfl, rfl, rfl, trivial⟩⟩
        · exact hq _ _ _ _ _ _ _ _ _ _ (cs) (ex.set k (ex[k].1, s)) (okA_sl (cs := cs) rfl (by simp [hc0, cellsI]) (by simp [hc0, cellsI]) (by simp [hc0, cellsI]) (by simp)) (okX_sl (ex := ex.set k (ex[k].1, s)) rfl (setX_dt hk (by simp)) (by simp [cellsX_len] <;> omega) (by simp [cellsX_len]) (by simp)) (by simp <;> omega) (by simp <;> omega) (dat_set hd hs) hpl
      refine ⟨⟨pl, ⟨hpl⟩, rfl, rfl, (ent3 ex)⟩, ?_⟩
      rintro x ⟨hx⟩
      refine ⟨_, rfl, _, rfl, wrapI (by omega) (by omega) (wrapI (by omega) (by omega) (splitD (fun hlt => ?_) (fun hge => ?_)))⟩
      · refine ⟨_, rfl, ⟨by omega, by omega, by omega⟩, eqS1 ⟨_, rfl, ckI (by simp [be_len] <;> omega) ⟨_, rfl, by simp [old_X, old_I], ⟨trivial, rfl⟩, x ++ beM (x.length : Int) 4, ⟨by simp [be_len] <;> omega⟩, by simp [be_len] <;> omega, rfl, rfl, (ent3 ex)⟩⟩⟩
      · exact hq _ _ _ _ _ _ _ _ _ _ (cs) (ex) (okA_sl (cs := cs) rfl (by simp [hc0, cellsI]) (by simp [hc0, cellsI]) (by simp [hc0, cellsI]) (by simp)) (okX_sl (ex := ex) rfl (by simp [cellsX_app, cellsXM]) (by simp [cellsX_len] <;> omega) (by simp [cellsX_len]) (by simp)) (by simp <;> omega) (by simp <;> omega) hd hx
  · have hcl : cs.length ≠ 0 := Nat.ne_of_beq_eq_false a0
    refine ckI (by simp [Nat.blt]; omega) (ckI (by simp only [Bool.and_eq_true, Bool.and_true, blt_iff, Nat.ble_eq, nbeq, decide_eq_true_eq, cellsX_len, cellsI_length, oneL_I, oneL_X, List.nil_append, Int.toNat_natCast, and_true, true_and] <;> omega) (ckI (by simp only [Bool.and_eq_true, Bool.and_true, blt_iff, Nat.ble_eq, nbeq, decide_eq_true_eq, cellsX_len, cellsI_length, oneL_I, oneL_X, List.nil_append, Int.toNat_natCast, and_true, true_and] <;> omega) (splitI (fun b0 => ?_) (fun b0 => ?_))))
    · have hx0 : ex = [] := List.length_eq_zero_iff.1 (Nat.eq_of_beq_eq_true b0)
      refine splitI (fun _ => ?_) (fun h => absurd (b0.symm.trans h) (by simp))
      refine ⟨_, rfl, splitE (fun _ => ?_) (fun _ => ?_)⟩
      · exact hq _ _ _ _ _ _ _ _ _ _ (cs) (ex) (okA_sl (cs := cs) rfl (by simp [cellsI]) (by simp [cellsI]) (by simp [cellsI]) (by simp)) (okX_sl (ex := ex) rfl (by simp [hx0, cellsX_app, cellsXM]) (by simp [hx0, cellsX_len] <;> omega) (by simp [hx0, cellsX_len]) (by simp)) (by simp <;> omega) (by simp <;> omega) hd hpl
      refine splitE (fun _ => ?_) (fun _ => ?_)
      · exact hq _ _ _ _ _ _ _ _ _ _ (cs) (ex) (okA_sl (cs := cs) rfl (by simp [cellsI]) (by simp [cellsI]) (by simp [cellsI]) (by simp)) (okX_sl (ex := ex) rfl (by simp [hx0, cellsX_app, cellsXM]) (by simp [hx0, cellsX_len] <;> omega) (by simp [hx0, cellsX_len]) (by simp)) (by simp <;> omega) (by simp <;> omega) hd hpl
      refine splitE (fun _ => ?_) (fun _ => ?_)
      · exact hq _ _ _ _ _ _ _ _ _ _ (cs) (ex) (okA_sl (cs := cs) rfl (by simp [cellsI]) (by simp [cellsI]) (by simp [cellsI]) (by simp)) (okX_sl (ex := ex) rfl (by simp [hx0, cellsX_app, cellsXM]) (by simp [hx0, cellsX_len] <;> omega) (by simp [hx0, cellsX_len]) (by simp)) (by simp <;> omega) (by simp <;> omega) hd hpl
      refine splitE (fun _ => ?_) (fun _ => ?_)
      · exact hq _ _ _ _ _ _ _ _ _ _ (cs) (ex) (okA_sl (cs := cs) rfl (by simp [cellsI]) (by simp [cellsI]) (by simp [cellsI]) (by simp)) (okX_sl (ex := ex) rfl (by simp [hx0, cellsX_app, cellsXM]) (by simp [hx0, cellsX_len] <;> omega) (by simp [hx0, cellsX_len]) (by simp)) (by simp <;> omega) (by simp <;> omega) hd hpl
      refine splitE (fun _ => ?_) (fun _ => ?_)
      · exact hq _ _ _ _ _ _ _ _ _ _ (cs) (ex) (okA_sl (cs := cs) rfl (by simp [cellsI]) (by simp [cellsI]) (by simp [cellsI]) (by simp)) (okX_sl (ex := ex) rfl (by simp [hx0, cellsX_app, cellsXM]) (by simp [hx0, cellsX_len] <;> omega) (by simp [hx0, cellsX_len]) (by simp)) (by simp <;> omega) (by simp <;> omega) hd hpl
      refine splitE (fun _ => ?_) (fun _ => ?_)
      · exact ckI (by simp only [Bool.and_eq_true, Bool.and_true, blt_iff, Nat.ble_eq, nbeq, decide_eq_true_eq, cellsX_len, cellsI_length, oneL_I, oneL_X, List.nil_append, Int.toNat_natCast, and_true, true_and] <;> omega) (hq _ _ _ _ _ _ _ _ _ _ (cs ++ [n]) (ex) (okA_sl (cs := cs ++ [n]) rfl (by simp [cellsI]) (by simp [cellsI]) (by simp [cellsI]) (by simp)) (okX_sl (ex := ex) rfl (by simp [hx0, cellsX_app, cellsXM]) (by simp [hx0, cellsX_len] <;> omega) (by simp [hx0, cellsX_len]) (by simp)) (by simp <;> omega) (by simp <;> omega) hd hpl)
      refine splitE (fun _ => ?_) (fun _ => ?_)
      · exact hq _ _ _ _ _ _ _ _ _ _ (cs) (ex ++ [(n, [])]) (okA_sl (cs := cs) rfl (by simp [cellsI]) (by simp [cellsI]) (by simp [cellsI]) (by simp)) (okX_sl (ex := ex ++ [(n, [])]) rfl (by simp [hx0, cellsX_app, cellsXM]) (by simp [hx0, cellsX_len] <;> omega) (by simp [hx0, cellsX_len]) (by simp)) (by simp <;> omega) (by simp <;> omega) (dat_app hd) hpl
      refine splitE (fun _ => ?_) (fun _ => ?_)
      · exact ⟨_, rfl, splitD (fun h => absurd h (by decide)) (fun _ => hq _ _ _ _ _ _ _ _ _ _ (cs) (ex) (okA_sl (cs := cs) rfl (by simp [cellsI]) (by simp [cellsI]) (by simp [cellsI]) (by simp)) (okX_sl (ex := ex) rfl (by simp [hx0, cellsX_app, cellsXM]) (by simp [hx0, cellsX_len] <;> omega) (by simp [hx0, cellsX_len]) (by simp)) (by simp <;> omega) (by simp <;> omega) hd hpl)⟩
      refine splitE (fun _ => ?_) (fun _ => ?_)
      · exact ⟨_, rfl, splitD (fun h => absurd h (by decide)) (fun _ => hq _ _ _ _ _ _ _ _ _ _ (cs) (ex) (okA_sl (cs := cs) rfl (by simp [cellsI]) (by simp [cellsI]) (by simp [cellsI]) (by simp)) (okX_sl (ex := ex) rfl (by simp [hx0, cellsX_app, cellsXM]) (by simp [hx0, cellsX_len] <;> omega) (by simp [hx0, cellsX_len]) (by simp)) (by simp <;> omega) (by simp <;> omega) hd hpl)⟩
      refine ⟨⟨pl, ⟨hpl⟩, rfl, rfl, (ent4 cs)⟩, ?_⟩
      rintro x ⟨hx⟩
      refine ⟨_, rfl, _, rfl, wrapI (by omega) (by omega) (wrapI (by omega) (by omega) (splitD (fun hlt => ?_) (fun hge => ?_)))⟩
      · refine ⟨_, rfl, ⟨by omega, by omega, by omega⟩, eqS1 ⟨_, rfl, ckI (by simp [be_len] <;> omega) ⟨_, rfl, by simp [old_X, old_I], ⟨trivial, rfl⟩, x ++ beM (x.length : Int) 4, ⟨by simp [be_len] <;> omega⟩, by simp [be_len] <;> omega, rfl, rfl, (ent4 cs)⟩⟩⟩
      · exact hq _ _ _ _ _ _ _ _ _ _ (cs) (ex) (okA_sl (cs := cs) rfl (by simp [cellsI]) (by simp [cellsI]) (by simp [cellsI]) (by simp)) (okX_sl (ex := ex) rfl (by simp [hx0, cellsX_app, cellsXM]) (by simp [hx0, cellsX_len] <;> omega) (by simp [hx0, cellsX_len]) (by simp)) (by simp <;> omega) (by simp <;> omega) hd hx
    · have hxl : ex.length ≠ 0 := Nat.ne_of_beq_eq_false b0
      refine ckI (by simp [Nat.blt]; omega) (ckI (by simp only [Bool.and_eq_true, Bool.and_true, blt_iff, Nat.ble_eq, nbeq, decide_eq_true_eq, cellsX_len, cellsI_length, oneL_I, oneL_X, List.nil_append, Int.toNat_natCast, and_true, true_and] <;> omega) ?_)
      refine ⟨_, rfl, splitE (fun _ => ?_) (fun _ => ?_)⟩
      · exact hq _ _ _ _ _ _ _ _ _ _ (cs) (ex) (okA_sl (cs := cs) rfl (by simp [cellsI]) (by simp [cellsI]) (by simp [cellsI]) (by simp)) (okX_sl (ex := ex) rfl (by simp [cellsX_app, cellsXM]) (by simp [cellsX_len] <;> omega) (by simp [cellsX_len]) (by simp)) (by simp <;> omega) (by simp <;> omega) hd hpl
      refine splitE (fun _ => ?_) (fun _ => ?_)
      · exact hq _ _ _ _ _ _ _ _ _ _ (cs) (ex) (okA_sl (cs := cs) rfl (by simp [cellsI]) (by simp [cellsI]) (by simp [cellsI]) (by simp)) (okX_sl (ex := ex) rfl (by simp [cellsX_app, cellsXM]) (by simp [cellsX_len] <;> omega) (by simp [cellsX_len]) (by simp)) (by simp <;> omega) (by simp <;> omega) hd hpl
      refine splitE (fun _ => ?_) (fun _ => ?_)
      · exact hq _ _ _ _ _ _ _ _ _ _ (cs) (ex) (okA_sl (cs := cs) rfl (by simp [cellsI]) (by simp [cellsI]) (by simp [cellsI]) (by simp)) (okX_sl (ex := ex) rfl (by simp [cellsX_app, cellsXM]) (by simp [cellsX_len] <;> omega) (by simp [cellsX_len]) (by simp)) (by simp <;> omega) (by simp <;> omega) hd hpl
      refine splitE (fun _ => ?_) (fun _ => ?_)
      · exact hq _ _ _ _ _ _ _ _ _ _ (cs) (ex) (okA_sl (cs := cs) rfl (by simp [cellsI]) (by simp [cellsI]) (by simp [cellsI]) (by simp)) (okX_sl (ex := ex) rfl (by simp [cellsX_app, cellsXM]) (by simp [cellsX_len] <;> omega) (by simp [cellsX_len]) (by simp)) (by simp <;> omega) (by simp <;> omega) hd hpl
      refine splitE (fun _ => ?_) (fun _ => ?_)
      · exact hq _ _ _ _ _ _ _ _ _ _ (cs) (ex) (okA_sl (cs := cs) rfl (by simp [cellsI]) (by simp [cellsI]) (by simp [cellsI]) (by simp)) (okX_sl (ex := ex) rfl (by simp [cellsX_app, cellsXM]) (by simp [cellsX_len] <;> omega) (by simp [cellsX_len]) (by simp)) (by simp <;> omega) (by simp <;> omega) hd hpl
      refine splitE (fun _ => ?_) (fun _ => ?_)
      · exact ckI (by simp only [Bool.and_eq_true, Bool.and_true, blt_iff, Nat.ble_eq, nbeq, decide_eq_true_eq, cellsX_len, cellsI_length, oneL_I, oneL_X, List.nil_append, Int.toNat_natCast, and_true, true_and] <;> omega) (hq _ _ _ _ _ _ _ _ _ _ (cs ++ [n]) (ex) (okA_sl (cs := cs ++ [n]) rfl (by simp [cellsI]) (by simp [cellsI]) (by simp [cellsI]) (by simp)) (okX_sl (ex := ex) rfl (by simp [cellsX_app, cellsXM]) (by simp [cellsX_len] <;> omega) (by simp [cellsX_len]) (by simp)) (by simp <;> omega) (by simp <;> omega) hd hpl)
      refine splitE (fun _ => ?_) (fun _ => ?_)
      · exact ckI (by simp only [Bool.and_eq_true, Bool.and_true, blt_iff, Nat.ble_eq, nbeq, decide_eq_true_eq, cellsX_len, cellsI_length, oneL_I, oneL_X, List.nil_append, Int.toNat_natCast, and_true, true_and] <;> omega) (hq _ _ _ _ _ _ _ _ _ _ (cs) (ex ++ [(n, [])]) (okA_sl (cs := cs) rfl (by simp [cellsI]) (by simp [cellsI]) (by simp [cellsI]) (by simp)) (okX_sl (ex := ex ++ [(n, [])]) rfl (by simp [cellsX_app, cellsXM]) (by simp [cellsX_len] <;> omega) (by simp [cellsX_len]) (by simp)) (by simp <;> omega) (by simp <;> omega) (dat_app hd) hpl)
      refine splitE (fun _ => ?_) (fun _ => ?_)
      · refine ckI (by simp only [Bool.and_eq_true, Bool.and_true, blt_iff, Nat.ble_eq, nbeq, decide_eq_true_eq, cellsX_len, cellsI_length, oneL_I, oneL_X, List.nil_append, Int.toNat_natCast, and_true, true_and] <;> omega) ⟨_, rfl, splitD (fun hp => ?_) (fun hp => hq _ _ _ _ _ _ _ _ _ _ (cs) (ex) (okA_sl (cs := cs) rfl (by simp [cellsI]) (by simp [cellsI]) (by simp [cellsI]) (by simp)) (okX_sl (ex := ex) rfl (by simp [cellsX_app, cellsXM]) (by simp [cellsX_len] <;> omega) (by simp [cellsX_len]) (by simp)) (by simp <;> omega) (by simp <;> omega) hd hpl)⟩
        have hX : 0 < ex.length := by omega
        have htm : Int.tmod at' ((0 + ex.length : Nat) : Int) = ((at'.toNat % ex.length : Nat) : Int) := tmodX hat
        have hk : at'.toNat % ex.length < ex.length := Nat.mod_lt _ hX
        generalize at'.toNat % ex.length = k at htm hk
        refine wrapI (by omega) (by omega) (ckI (by simp only [Bool.and_eq_true, Bool.and_true, blt_iff, Nat.ble_eq, nbeq, decide_eq_true_eq, cellsX_len, cellsI_length, oneL_I, oneL_X, List.nil_append, Int.toNat_natCast, and_true, true_and] <;> omega) ⟨_, rfl, ckI (by rw [Bool.and_true, bne_iff_ne]; omega) ⟨(k : Int), by rw [htm], ckI (by simp only [Bool.and_eq_true, Bool.and_true, blt_iff, Nat.ble_eq, nbeq, decide_eq_true_eq, cellsX_len, cellsI_length, oneL_I, oneL_X, List.nil_append, Int.toNat_natCast, and_true, true_and] <;> omega) ?_⟩⟩)
        exact ckI (by simp only [Bool.and_eq_true, Bool.and_true, blt_iff, Nat.ble_eq, nbeq, decide_eq_true_eq, cellsX_len, cellsI_length, oneL_I, oneL_X, List.nil_append, Int.toNat_natCast, and_true, true_and] <;> omega) (ckI (by simp only [Bool.and_eq_true, Bool.and_true, blt_iff, Nat.ble_eq, nbeq, decide_eq_true_eq, cellsX_len, cellsI_length, oneL_I, oneL_X, List.nil_append, Int.toNat_natCast, and_true, true_and] <;> omega) (hq _ _ _ _ _ _ _ _ _ _ (cs) (ex.set k (n, ex[k].2)) (okA_sl (cs := cs) rfl (by simp [cellsI]) (by simp [cellsI]) (by simp [cellsI]) (by simp)) (okX_sl (ex := ex.set k (n, ex[k].2)) rfl (setX_id hk (by simp)) (by simp [cellsX_len] <;> omega) (by simp [cellsX_len]) (by simp)) (by simp <;> omega) (by simp <;> omega) (dat_set hd (hd _ (List.getElem_mem hk))) hpl))
      refine splitE (fun _ => ?_) (fun _ => ?_)
      · refine ckI (by simp only [Bool.and_eq_true, Bool.and_true, blt_iff, Nat.ble_eq, nbeq, decide_eq_true_eq, cellsX_len, cellsI_length, oneL_I, oneL_X, List.nil_append, Int.toNat_natCast, and_true, true_and] <;> omega) ⟨_, rfl, splitD (fun hp => ?_) (fun hp => hq _ _ _ _ _ _ _ _ _ _ (cs) (ex) (okA_sl (cs := cs) rfl (by simp [cellsI]) (by simp [cellsI]) (by simp [cellsI]) (by simp)) (okX_sl (ex := ex) rfl (by simp [cellsX_app, cellsXM]) (by simp [cellsX_len] <;> omega) (by simp [cellsX_len]) (by simp)) (by simp <;> omega) (by simp <;> omega) hd hpl)⟩
        have hX : 0 < ex.length := by omega
        have htm : Int.tmod at' ((0 + ex.length : Nat) : Int) = ((at'.toNat % ex.length : Nat) : Int) := tmodX hat
        have hk : at'.toNat % ex.length < ex.length := Nat.mod_lt _ hX
        generalize at'.toNat % ex.length = k at htm hk
        refine wrapI (by omega) (by omega) (ckI (by simp only [Bool.and_eq_true, Bool.and_true, blt_iff, Nat.ble_eq, nbeq, decide_eq_true_eq, cellsX_len, cellsI_length, oneL_I, oneL_X, List.nil_append, Int.toNat_natCast, and_true, true_and] <;> omega) ⟨_, rfl, ckI (by rw [Bool.and_true, bne_iff_ne]; omega) ⟨(k : Int), by rw [htm], ckI (by simp only [Bool.and_eq_true, Bool.and_true, blt_iff, Nat.ble_eq, nbeq, decide_eq_true_eq, cellsX_len, cellsI_length, oneL_I, oneL_X, List.nil_append, Int.toNat_natCast, and_true, true_and] <;> omega) ?_⟩⟩)
        have hsl := setM_len (ex := ex) (k := k) hk
        refine ⟨⟨ex[k].2, ⟨hd _ (List.getElem_mem hk)⟩, rfl, rfl, rfl, rfl, ckI (by simp) ⟨rfl, rfl, ckI (by simp) ⟨(setM_self hk).symm, rfl, rfl, rfl, trivial⟩⟩⟩, ?_⟩
        rintro s ⟨hs⟩
        have hL : Nat.beq (setM ([] ++ cellsXM ex) (0 + Int.toNat (k : Int) * 2 + 1) s).length (0 + (cellsXM ex).length) = true := by rw [hsl, cellsX_len]; simp
        have hB : Nat.blt (0 + Int.toNat (k : Int) * 2 + 1) (0 + (cellsXM ex).length) = true := by rw [cellsX_len]; simp; omega
        have hLB : (Nat.beq (setM ([] ++ cellsXM ex) (0 + Int.toNat (k : Int) * 2 + 1) s).length (0 + (cellsXM ex).length) && Nat.blt (0 + Int.toNat (k : Int) * 2 + 1) (0 + (cellsXM ex).length)) = true := by rw [hL, hB]; rfl
        refine ckI hL (ckI hL (ckI hLB (ldX hk ⟨_, rfl, splitD (fun hlt => ?_) (fun hge => ?_)⟩)))
        · refine ckI hL (ckI hL (ckI hLB (ldX hk (ckI hL (ckI hL (ckI hLB (ldX hk ⟨_, rfl, ⟨by omega, by omega, by omega⟩, ?_⟩)))))))
          refine ckI (eqLd hk) (ckI (by simp) (ckI (by simp) ⟨_, rfl, ckI (by simp [be_len] <;> omega) ⟨_, rfl, ckI hL (ckI hL (ckI (by rw [hL]; simp [cellsX_len] <;> omega) ?_))⟩⟩))
          refine ⟨by simp [old_X, old_I, old_set hk], ⟨trivial, rfl⟩, s ++ beM (s.length : Int) 1, ⟨by simp [be_len] <;> omega⟩, by simp [be_len] <;> omega, rfl, rfl, rfl, rfl, ckI (by simp) ⟨rfl, rfl, ckI (by simp) ⟨setM_set hk, rfl, rfl, rfl, trivial⟩⟩⟩
        · exact hq _ _ _ _ _ _ _ _ _ _ (cs) (ex.set k (ex[k].1, s)) (okA_sl (cs := cs) rfl (by simp [cellsI]) (by simp [cellsI]) (by simp [cellsI]) (by simp)) (okX_sl (ex := ex.set k (ex[k].1, s)) rfl (setX_dt hk (by simp)) (by simp [cellsX_len] <;> omega) (by simp [cellsX_len]) (by simp)) (by simp <;> omega) (by simp <;> omega) (dat_set hd hs) hpl
      refine ⟨⟨pl, ⟨hpl⟩, rfl, rfl, (ent5 cs ex)⟩, ?_⟩
      rintro x ⟨hx⟩
      refine ⟨_, rfl, _, rfl, wrapI (by omega) (by omega) (wrapI (by omega) (by omega) (splitD (fun hlt => ?_) (fun hge => ?_)))⟩
      · refine ⟨_, rfl, ⟨by omega, by omega, by omega⟩, eqS1 ⟨_, rfl, ckI (by simp [be_len] <;> omega) ⟨_, rfl, by simp [old_X, old_I], ⟨trivial, rfl⟩, x ++ beM (x.length : Int) 4, ⟨by simp [be_len] <;> omega⟩, by simp [be_len] <;> omega, rfl, rfl, (ent5 cs ex)⟩⟩⟩
      · exact hq _ _ _ _ _ _ _ _ _ _ (cs) (ex) (okA_sl (cs := cs) rfl (by simp [cellsI]) (by simp [cellsI]) (by simp [cellsI]) (by simp)) (okX_sl (ex := ex) rfl (by simp [cellsX_app, cellsXM]) (by simp [cellsX_len] <;> omega) (by simp [cellsX_len]) (by simp)) (by simp <;> omega) (by simp <;> omega) hd hx

def cBend : Con
  | [.agg [.int .u8 what, .int .u8 at', .int .i64 n], .agg [.bool mk, .int .i64 ty, .int .i64 seq, .int .i64 ti, .int .i64 ss, .lst _ c5 n5 1, .lst _ c6 n6 2, .int .i64 pad, .str pl]], H, K => ∃ (cs : List Int) (ex : List Xt), Lf (c5 = cellsI cs ∧ n5 = cs.length ∧ c6 = cellsXM ex ∧ n6 = ex.length ∧ (0 ≤ at' ∧ at' ≤ 255) ∧ cs.length ≤ 1000 ∧ ex.length ≤ 1000 ∧ (∀ x ∈ ex, x.2.length ≤ 300) ∧ pl.length ≤ 1300) ∧
      ∀ (mk' : Bool) (ty' seq' ti' ss' : Int) (cs' : List Int) (ex' : List Xt) (pad' : Int) (pl' : List UInt8), Lf (cs'.length ≤ cs.length + 1 ∧ ex'.length ≤ ex.length + 1 ∧ (∀ x ∈ ex', x.2.length ≤ 300) ∧ pl'.length ≤ 1300) → K (.ret (.agg [.bool mk', .int .i64 ty', .int .i64 seq', .int .i64 ti', .int .i64 ss', .lst 0 (cellsI cs') cs'.length 1, .lst 0 (cellsXM ex') ex'.length 2, .int .i64 pad', .str pl'])) H
  | _, _, _ => False
theorem bend_ok : ValidF Tryd.prog gl0 11 cBend := by
  refine valid_frz (enters_of (by kernel_rfl)) gl0_noY 9 aggK wk_aggK fun args H Q hc => ?_
  unfold cBend at hc
  split at hc
  · rename_i what at' n mk ty seq ti ss tc c5 n5 tx c6 n6 pad pl
    obtain ⟨cs, ex, ⟨rfl, rfl, rfl, rfl, k1, k2, k3, k4, k5⟩, hq⟩ := hc
    obtain ⟨hv, hb', h⟩ := bend_run what at' n mk ty seq ti ss tc cs tx ex pad pl k1 k2 k3 k4 k5 (fun o H' _ => ∃ v, o = .ret v ∧ Q (.ret (aggK (frzV 0 H' 9 v))) H) (fun mk ty seq ti ss a b pad pl H' cs' ex' e1 e2 b1 b2 b3 b4 => ⟨_, rfl, by
      have := hq mk ty seq ti ss _ _ pad pl ⟨b1, b2, b3, b4⟩
      unfold okA at e1
      unfold okX at e2
      rw [← e1, ← e2] at this
      exact this⟩)
    refine ⟨rfl, rfl, _, 1000, ?_, rfl, h⟩
    exact ⟨mixed23, names23, tabA_ok, smU_ok⟩
  · exact hc.elim
end Go.Proofs.YtbchmkhliehbfaaDoor

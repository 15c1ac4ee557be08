/-
  Chapter 23: the header of a packet.
-/
import Derived.Test.YtbchmkhliehbfaaDoorM23F
set_option linter.unusedSimpArgs false
set_option linter.unusedVariables false
namespace Go.Proofs.YtbchmkhliehbfaaDoor
open Go.RowKit
set_option maxRecDepth 1000000

def fstM (cs : List Int) (n : Nat) (pad : Int) : Int := 128 + cs.length + (if 0 < pad then 32 else 0) + (if 0 < n then 16 else 0)
def kindM (mk : Bool) (ty : Int) : Int := ty + (if mk = true then 128 else 0)
def headBM (mk : Bool) (ty seq ti ss : Int) (cs : List Int) (n : Nat) (pad : Int) : List UInt8 := putM 1 [fstM cs n pad, kindM mk ty] ++ putM 2 [seq] ++ putM 4 [ti, ss] ++ putM 4 cs
def extBM (sh : Bool) : List Xt → List UInt8
  | [] => []
  | x :: l => (if sh = true then putM 1 [x.1 * 16 + (x.2.length - 1)] else putM 1 [x.1, (x.2.length : Int)]) ++ x.2 ++ extBM sh l
def zerosM (n : Nat) : List UInt8 := List.replicate ((4 - n % 4) % 4) 0
def profM (sh : Bool) : Int := if sh = true then 48862 else 4096
def extPM (ex : List Xt) : List UInt8 := extBM (shortM ex) ex ++ zerosM (extBM (shortM ex) ex).length
def headM (mk : Bool) (ty seq ti ss : Int) (cs : List Int) (ex : List Xt) (pad : Int) : List UInt8 := headBM mk ty seq ti ss cs ex.length pad ++ (if ex.length = 0 then [] else putM 2 [profM (shortM ex), ((extPM ex).length / 4 : Nat)] ++ extPM ex)
def firstXM (ex : List Xt) : List AV := (cellsXM ex).take 2
def smG : SM := lookS [(34, cPut), (57, cShort)]
theorem smG_ok : ∀ f g, smG f = some g → ValidF Tryd.prog gl0 f g := lookS_ok _ (by simp only [List.mem_cons, List.not_mem_nil, or_false, forall_eq_or_imp, forall_eq]; exact ⟨put_raw, short_ok⟩)
def invA_56 (sh : Bool) (mk : Bool) (ty seq ti ss : Int) (tc : Nat) (cs : List Int) (tx : Nat) (ex : List Xt) (pad : Int) (pl : List UInt8) : LInv where
  α := Nat
  pre i := Lf (i = 0 ∧ sh = shortM ex)
  st i := ⟨mkT [(5, .sl 1 (headBM mk ty seq ti ss cs ex.length pad).length 0 (headBM mk ty seq ti ss cs ex.length pad).length 1), (6, .nils), (7, .int .i64 (bif sh then 48862 else 4096)), (60, .lst tx (cellsXM ex) ex.length 2), (61, .int .i64 ex.length), (62, .int .i64 (i : Nat))], [⟨.exact, true, (medM mk ty seq ti ss tc cs tx ex pad pl)⟩, ⟨.grow, true, ofBytes (headBM mk ty seq ti ss cs ex.length pad)⟩]⟩
  mu i := ex.length + 1
def invB_56 (sh : Bool) (mk : Bool) (ty seq ti ss : Int) (tc : Nat) (cs : List Int) (tx : Nat) (ex : List Xt) (pad : Int) (pl : List UInt8) : LInv where
  α := Nat
  pre i := Lf (1 ≤ i ∧ i ≤ ex.length ∧ sh = shortM ex)
  st i := ⟨mkT [(5, .sl 1 (headBM mk ty seq ti ss cs ex.length pad).length 0 (headBM mk ty seq ti ss cs ex.length pad).length 1), (6, .sl 3 (extBM sh (ex.take i)).length 0 (extBM sh (ex.take i)).length 1), (7, .int .i64 (bif sh then 48862 else 4096)), (60, .lst tx (cellsXM ex) ex.length 2), (61, .int .i64 ex.length), (62, .int .i64 (i : Nat))], [⟨.exact, true, (medM mk ty seq ti ss tc cs tx ex pad pl)⟩, ⟨.grow, true, ofBytes (headBM mk ty seq ti ss cs ex.length pad)⟩, ⟨.exact, true, firstXM ex⟩, ⟨.grow, true, ofBytes (extBM sh (ex.take i))⟩]⟩
  mu i := ex.length - i
def inv_56 (mk : Bool) (ty seq ti ss : Int) (tc : Nat) (cs : List Int) (tx : Nat) (ex : List Xt) (pad : Int) (pl : List UInt8) (s : S) : List (List LInv) := match s.tm.get 7 with
  | .int _ p => bif p == 48862 then [[invA_56 true mk ty seq ti ss tc cs tx ex pad pl, invB_56 true mk ty seq ti ss tc cs tx ex pad pl]] else [[invA_56 false mk ty seq ti ss tc cs tx ex pad pl, invB_56 false mk ty seq ti ss tc cs tx ex pad pl]]
  | _ => []
noncomputable def env_56 (hv : Nat → Option Pa) (hb : Nat → Option Bool) (mk : Bool) (ty seq ti ss : Int) (tc : Nat) (cs : List Int) (tx : Nat) (ex : List Xt) (pad : Int) (pl : List UInt8) : Env := { e23 smG (fun i => bif Nat.beq i 56000 then some (inv_56 mk ty seq ti ss tc cs tx ex pad pl) else none) hv hb with hz := fun k => [229409, 229414, 229421, 229453, 229461, 229479].any (Nat.beq k) }
noncomputable def goal_56 (hv : Nat → Option Pa) (hb : Nat → Option Bool) (mk : Bool) (ty seq ti ss : Int) (tc : Nat) (cs : List Int) (tx : Nat) (ex : List Xt) (pad : Int) (pl : List UInt8) (Q : Out → List Blk → Gh → Prop) : Prop :=
  callx (env_56 hv hb mk ty seq ti ss tc cs tx ex pad pl) (wpx (env_56 hv hb mk ty seq ti ss tc cs tx ex pad pl) 1000) 56 [.agg (medM mk ty seq ti ss tc cs tx ex pad pl)] [] {} Q
/-- a packet's cells -/
@[reducible] def mdL (a : Bool) (b c d e : Int) (x y : AV) (p : Int) (s : List UInt8) : List AV := [.bool a, .int .i64 b, .int .i64 c, .int .i64 d, .int .i64 e, x, y, .int .i64 p, .str s]
def vc_56_1 (mk : Bool) (ty : Int) (seq : Int) (ti : Int) (ss : Int) (tc : Nat) (cs : List Int) (tx : Nat) (ex : List Xt) (pad : Int) (pl : List UInt8) : Prop := (
(((medM mk ty seq ti ss tc cs tx ex pad pl) = (medM mk ty seq ti ss tc cs tx ex pad pl)) ∧
 (((ofBytes (headBM mk ty seq ti ss cs (List.length ex) pad)) = (ofBytes (headBM mk ty seq ti ss cs (List.length ex) pad))) ∧
 False)))
def vc_56_2 (mk : Bool) (ty : Int) (seq : Int) (ti : Int) (ss : Int) (tc : Nat) (cs : List Int) (tx : Nat) (ex : List Xt) (pad : Int) (pl : List UInt8) : Prop := (
((((List.length ex) + (1 : Nat)) < ((List.length ex) + (1 : Nat))) ∧
 (vc_56_1 mk ty seq ti ss tc cs tx ex pad pl)))
def vc_56_3 (mk : Bool) (ty : Int) (seq : Int) (ti : Int) (ss : Int) (tc : Nat) (cs : List Int) (tx : Nat) (ex : List Xt) (pad : Int) (pl : List UInt8) : Prop := (
(∃ y_0 : Nat, ((Lf ((y_0 = (0 : Nat)) ∧
 (true = (shortM ex)))) ∧
 (vc_56_2 mk ty seq ti ss tc cs tx ex pad pl))))
def vc_56_4 (mk : Bool) (ty : Int) (seq : Int) (ti : Int) (ss : Int) (tc : Nat) (cs : List Int) (tx : Nat) (ex : List Xt) (pad : Int) (pl : List UInt8) (Q : Out → List Blk → Gh → Prop) : Prop := (
((∀ x_0 : Nat, ((Lf ((x_0 = (0 : Nat)) ∧
 (true = (shortM ex)))) →
(bif (decide ((Nat.cast x_0 : Int) < (Nat.cast (List.length ex) : Int))) then (bif ((Nat.blt (Int.toNat (Nat.cast x_0 : Int)) (List.length ex)) && true) then (bif (Nat.ble (((Int.toNat (Nat.cast x_0 : Int)) * (2 : Nat)) + (2 : Nat)) (List.length (cellsXM ex))) then (∃ n_1 : Int, (∃ s_2 : (List UInt8), (((AV.agg (List.take (2 : Nat) (List.drop ((Int.toNat (Nat.cast x_0 : Int)) * (2 : Nat)) (cellsXM ex)))) = (AV.agg ((AV.int .i64 n_1) :: ((AV.str s_2) :: [])))) ∧
 (∃ n_3 : Int, (((AV.int .i64 (IntKind.wrap .i64 (n_1 * (16 : Int)))) = (AV.int .i64 n_3)) ∧
 (∃ n_4 : Int, (((AV.int .i64 (Nat.cast (List.length s_2) : Int)) = (AV.int .i64 n_4)) ∧
 (∃ n_5 : Int, (((AV.int .i64 (IntKind.wrap .i64 (n_4 - (1 : Int)))) = (AV.int .i64 n_5)) ∧
 (∃ n_6 : Int, (((AV.int .i64 (IntKind.wrap .i64 (Nat.cast ((Int.toNat (n_3 % (18446744073709551616 : Int))) ||| (Int.toNat (n_5 % (18446744073709551616 : Int)))) : Int))) = (AV.int .i64 n_6)) ∧
 (∃ xs_7 : (List Int), ((Lf ((((AV.int .i64 n_6) :: []) = (cellsI xs_7)) ∧
 (((1 : Nat) = (List.length xs_7)) ∧
 (((1 : Int) ≤ (1 : Int)) ∧
 (((1 : Int) ≤ (7 : Int)) ∧
 (((1 : Nat) ≤ (List.length xs_7)) ∧
 ((List.length xs_7) ≤ (1000000 : Nat)))))))) ∧
 (bif (((oneL (ofBytes s_2)) && true) && (Nat.ble ((List.length s_2) * (1 : Nat)) (1099511627776 : Nat))) then (bif (Nat.beq (List.length s_2) (0 : Nat)) then (bif (Nat.beq (List.length s_2) (0 : Nat)) then (bif ((Nat.beq (List.length (ofBytes (putM (1 : Nat) xs_7))) (List.length (putM (1 : Nat) xs_7))) && true) then (∃ n_8 : Int, (((AV.int .i64 (IntKind.wrap .i64 ((Nat.cast x_0 : Int) + (1 : Int)))) = (AV.int .i64 n_8)) ∧
 ((True ∧
 ((0 : Nat) = (0 : Nat))) ∧
 ((vc_56_3 mk ty seq ti ss tc cs tx ex pad pl) ∨
 (∃ y_9 : Nat, ((Lf (((1 : Nat) ≤ y_9) ∧
 ((y_9 ≤ (List.length ex)) ∧
 (true = (shortM ex))))) ∧
 ((((List.length ex) - y_9) < ((List.length ex) + (1 : Nat))) ∧
 (((medM mk ty seq ti ss tc cs tx ex pad pl) = (medM mk ty seq ti ss tc cs tx ex pad pl)) ∧
 (((ofBytes (headBM mk ty seq ti ss cs (List.length ex) pad)) = (ofBytes (headBM mk ty seq ti ss cs (List.length ex) pad))) ∧
 ((((AV.int .i64 n_1) :: ((AV.str s_2) :: [])) = (firstXM ex)) ∧
 (((ofBytes (putM (1 : Nat) xs_7)) = (ofBytes (extBM true (List.take y_9 ex)))) ∧
 (((AV.int .i64 (48862 : Int)) = (AV.int .i64 (48862 : Int))) ∧
 (((AV.sl (1 : Nat) (List.length (headBM mk ty seq ti ss cs (List.length ex) pad)) (0 : Nat) (List.length (headBM mk ty seq ti ss cs (List.length ex) pad)) (1 : Nat)) = (AV.sl (1 : Nat) (List.length (headBM mk ty seq ti ss cs (List.length ex) pad)) (0 : Nat) (List.length (headBM mk ty seq ti ss cs (List.length ex) pad)) (1 : Nat))) ∧
 (((AV.int .i64 (Nat.cast (List.length ex) : Int)) = (AV.int .i64 (Nat.cast (List.length ex) : Int))) ∧
 (((AV.lst tx (cellsXM ex) (List.length ex) (2 : Nat)) = (AV.lst tx (cellsXM ex) (List.length ex) (2 : Nat))) ∧
 (((AV.sl (3 : Nat) (List.length (putM (1 : Nat) xs_7)) (0 : Nat) (List.length (putM (1 : Nat) xs_7)) (1 : Nat)) = (AV.sl (3 : Nat) (List.length (extBM true (List.take y_9 ex))) (0 : Nat) (List.length (extBM true (List.take y_9 ex))) (1 : Nat))) ∧
 (((AV.int .i64 n_8) = (AV.int .i64 (Nat.cast y_9 : Int))) ∧
 True)))))))))))))))))
else False)
else False)
else (bif (Nat.blt (0 : Nat) (List.length s_2)) then (bif (((((Nat.beq (List.length (ofBytes (putM (1 : Nat) xs_7))) (List.length (putM (1 : Nat) xs_7))) && true) && (Nat.beq ((0 : Nat) + ((List.length (putM (1 : Nat) xs_7)) * (1 : Nat))) (List.length (putM (1 : Nat) xs_7)))) && (Nat.ble ((List.length (putM (1 : Nat) xs_7)) + (List.length s_2)) (1099511627776 : Nat))) && (Nat.ble (((List.length (putM (1 : Nat) xs_7)) + (List.length s_2)) * (1 : Nat)) (1099511627776 : Nat))) then (∃ n_8 : Int, (((AV.int .i64 (IntKind.wrap .i64 ((Nat.cast x_0 : Int) + (1 : Int)))) = (AV.int .i64 n_8)) ∧
 ((True ∧
 ((0 : Nat) = (0 : Nat))) ∧
 ((vc_56_3 mk ty seq ti ss tc cs tx ex pad pl) ∨
 (∃ y_9 : Nat, ((Lf (((1 : Nat) ≤ y_9) ∧
 ((y_9 ≤ (List.length ex)) ∧
 (true = (shortM ex))))) ∧
 ((((List.length ex) - y_9) < ((List.length ex) + (1 : Nat))) ∧
 (((medM mk ty seq ti ss tc cs tx ex pad pl) = (medM mk ty seq ti ss tc cs tx ex pad pl)) ∧
 (((ofBytes (headBM mk ty seq ti ss cs (List.length ex) pad)) = (ofBytes (headBM mk ty seq ti ss cs (List.length ex) pad))) ∧
 ((((AV.int .i64 n_1) :: ((AV.str s_2) :: [])) = (firstXM ex)) ∧
 (bif ((oldL (0 : Nat) (ofBytes s_2)) == true) then ((((ofBytes (putM (1 : Nat) xs_7)) ++ (ofBytes s_2)) = (ofBytes (extBM true (List.take y_9 ex)))) ∧
 (((AV.int .i64 (48862 : Int)) = (AV.int .i64 (48862 : Int))) ∧
 (((AV.sl (1 : Nat) (List.length (headBM mk ty seq ti ss cs (List.length ex) pad)) (0 : Nat) (List.length (headBM mk ty seq ti ss cs (List.length ex) pad)) (1 : Nat)) = (AV.sl (1 : Nat) (List.length (headBM mk ty seq ti ss cs (List.length ex) pad)) (0 : Nat) (List.length (headBM mk ty seq ti ss cs (List.length ex) pad)) (1 : Nat))) ∧
 (((AV.int .i64 (Nat.cast (List.length ex) : Int)) = (AV.int .i64 (Nat.cast (List.length ex) : Int))) ∧
 (((AV.lst tx (cellsXM ex) (List.length ex) (2 : Nat)) = (AV.lst tx (cellsXM ex) (List.length ex) (2 : Nat))) ∧
 (((AV.sl (3 : Nat) ((List.length (putM (1 : Nat) xs_7)) + (List.length (ofBytes s_2))) (0 : Nat) ((List.length (putM (1 : Nat) xs_7)) + (List.length s_2)) (1 : Nat)) = (AV.sl (3 : Nat) (List.length (extBM true (List.take y_9 ex))) (0 : Nat) (List.length (extBM true (List.take y_9 ex))) (1 : Nat))) ∧
 (((AV.int .i64 n_8) = (AV.int .i64 (Nat.cast y_9 : Int))) ∧
 True)))))))
else False)))))))))))
else False)
else False))
else False))))))))))))))
else False)
else False)
else (∃ n_1 : Int, (((AV.int .i64 (0 : Int)) = (AV.int .i64 n_1)) ∧
 (∃ n_2 : Int, (((AV.int .i64 (IntKind.wrap .i64 ((0 : Int) - n_1))) = (AV.int .i64 n_2)) ∧
 (∃ n_3 : Int, (((AV.int .i64 (IntKind.wrap .i64 (Nat.cast ((Int.toNat (n_2 % (18446744073709551616 : Int))) &&& (3 : Nat)) : Int))) = (AV.int .i64 n_3)) ∧
 (bif (((((decide ((0 : Int) ≤ n_3)) && (decide (n_3 ≤ (1099511627776 : Int)))) && (oneL (List.flatten (List.replicate (Int.toNat n_3) ((AV.int .u8 (0 : Int)) :: []))))) && true) && (Nat.ble ((Int.toNat n_3) * (1 : Nat)) (1099511627776 : Nat))) then (bif (decide (n_3 = (0 : Int))) then (bif (Nat.beq (Int.toNat n_3) (0 : Nat)) then (∃ n_4 : Int, (((AV.int .i64 (0 : Int)) = (AV.int .i64 n_4)) ∧
 (∃ n_5 : Int, (((AV.int .i64 (IntKind.wrap .i64 (Int.tdiv n_4 (4 : Int)))) = (AV.int .i64 n_5)) ∧
 (∃ bs_6 : (List UInt8), (∃ xs_7 : (List Int), ((Lf (((GetElem?.getElem? ((Blk.mk BK.exact true (medM mk ty seq ti ss tc cs tx ex pad pl)) :: ((Blk.mk BK.grow true (ofBytes (headBM mk ty seq ti ss cs (List.length ex) pad))) :: [])) (1 : Nat)) = (Option.some (Blk.mk BK.grow true (ofBytes bs_6)))) ∧
 (((List.length (headBM mk ty seq ti ss cs (List.length ex) pad)) = (List.length bs_6)) ∧
 (((List.length (headBM mk ty seq ti ss cs (List.length ex) pad)) = (List.length bs_6)) ∧
 (((List.length bs_6) ≤ (1000000 : Nat)) ∧
 ((((AV.int .i64 (48862 : Int)) :: ((AV.int .i64 n_5) :: [])) = (cellsI xs_7)) ∧
 (((2 : Nat) = (List.length xs_7)) ∧
 (((1 : Int) ≤ (2 : Int)) ∧
 (((2 : Int) ≤ (7 : Int)) ∧
 ((List.length xs_7) ≤ (1000000 : Nat))))))))))) ∧
 (bif ((Nat.beq (List.length (ofBytes (bs_6 ++ (putM (2 : Nat) xs_7)))) (List.length (bs_6 ++ (putM (2 : Nat) xs_7)))) && true) then (Q (Out.ret (AV.sl (1 : Nat) (List.length (bs_6 ++ (putM (2 : Nat) xs_7))) (0 : Nat) (List.length (bs_6 ++ (putM (2 : Nat) xs_7))) (1 : Nat))) ((Blk.mk BK.exact true (medM mk ty seq ti ss tc cs tx ex pad pl)) :: ((Blk.mk BK.grow true (ofBytes (bs_6 ++ (putM (2 : Nat) xs_7)))) :: [])) (Gh.mk (0 : Nat) (0 : Nat) []))
else False))))))))
else False)
else (bif (Nat.blt (0 : Nat) (Int.toNat n_3)) then (bif ((Nat.ble (Int.toNat n_3) (1099511627776 : Nat)) && (Nat.ble ((Int.toNat n_3) * (1 : Nat)) (1099511627776 : Nat))) then (bif (Nat.beq (List.length (List.flatten (List.replicate (Int.toNat n_3) ((AV.int .u8 (0 : Int)) :: [])))) (List.length (List.flatten (List.replicate (Int.toNat n_3) ((AV.int .u8 (0 : Int)) :: []))))) then (∃ n_4 : Int, (((AV.int .i64 (Nat.cast (Int.toNat n_3) : Int)) = (AV.int .i64 n_4)) ∧
 (∃ n_5 : Int, (((AV.int .i64 (IntKind.wrap .i64 (Int.tdiv n_4 (4 : Int)))) = (AV.int .i64 n_5)) ∧
 (∃ bs_6 : (List UInt8), (∃ xs_7 : (List Int), ((Lf (((GetElem?.getElem? ((Blk.mk BK.exact true (medM mk ty seq ti ss tc cs tx ex pad pl)) :: ((Blk.mk BK.grow true (ofBytes (headBM mk ty seq ti ss cs (List.length ex) pad))) :: ((Blk.mk BK.grow (oldL (0 : Nat) (List.flatten (List.replicate (Int.toNat n_3) ((AV.int .u8 (0 : Int)) :: [])))) (List.flatten (List.replicate (Int.toNat n_3) ((AV.int .u8 (0 : Int)) :: [])))) :: []))) (1 : Nat)) = (Option.some (Blk.mk BK.grow true (ofBytes bs_6)))) ∧
 (((List.length (headBM mk ty seq ti ss cs (List.length ex) pad)) = (List.length bs_6)) ∧
 (((List.length (headBM mk ty seq ti ss cs (List.length ex) pad)) = (List.length bs_6)) ∧
 (((List.length bs_6) ≤ (1000000 : Nat)) ∧
 ((((AV.int .i64 (48862 : Int)) :: ((AV.int .i64 n_5) :: [])) = (cellsI xs_7)) ∧
 (((2 : Nat) = (List.length xs_7)) ∧
 (((1 : Int) ≤ (2 : Int)) ∧
 (((2 : Int) ≤ (7 : Int)) ∧
 ((List.length xs_7) ≤ (1000000 : Nat))))))))))) ∧
 (bif ((((((Nat.beq (List.length (List.flatten (List.replicate (Int.toNat n_3) ((AV.int .u8 (0 : Int)) :: [])))) (List.length (List.flatten (List.replicate (Int.toNat n_3) ((AV.int .u8 (0 : Int)) :: []))))) && true) && (Nat.ble ((0 : Nat) + ((Int.toNat n_3) * (1 : Nat))) (List.length (List.flatten (List.replicate (Int.toNat n_3) ((AV.int .u8 (0 : Int)) :: [])))))) && (oneL (List.take ((Int.toNat n_3) * (1 : Nat)) (List.drop (0 : Nat) (List.flatten (List.replicate (Int.toNat n_3) ((AV.int .u8 (0 : Int)) :: []))))))) && true) && (Nat.ble ((Int.toNat n_3) * (1 : Nat)) (1099511627776 : Nat))) then (bif (Nat.beq (Int.toNat n_3) (0 : Nat)) then (bif (Nat.beq (Int.toNat n_3) (0 : Nat)) then (bif ((Nat.beq (List.length (ofBytes (bs_6 ++ (putM (2 : Nat) xs_7)))) (List.length (bs_6 ++ (putM (2 : Nat) xs_7)))) && true) then (Q (Out.ret (AV.sl (1 : Nat) (List.length (bs_6 ++ (putM (2 : Nat) xs_7))) (0 : Nat) (List.length (bs_6 ++ (putM (2 : Nat) xs_7))) (1 : Nat))) ((Blk.mk BK.exact true (medM mk ty seq ti ss tc cs tx ex pad pl)) :: ((Blk.mk BK.grow true (ofBytes (bs_6 ++ (putM (2 : Nat) xs_7)))) :: ((Blk.mk BK.grow (oldL (0 : Nat) (List.flatten (List.replicate (Int.toNat n_3) ((AV.int .u8 (0 : Int)) :: [])))) (List.flatten (List.replicate (Int.toNat n_3) ((AV.int .u8 (0 : Int)) :: [])))) :: []))) (Gh.mk (0 : Nat) (0 : Nat) []))
else False)
else False)
else (bif (Nat.blt (0 : Nat) (Int.toNat n_3)) then (bif (((((Nat.beq (List.length (ofBytes (bs_6 ++ (putM (2 : Nat) xs_7)))) (List.length (bs_6 ++ (putM (2 : Nat) xs_7)))) && true) && (Nat.beq ((0 : Nat) + ((List.length (bs_6 ++ (putM (2 : Nat) xs_7))) * (1 : Nat))) (List.length (bs_6 ++ (putM (2 : Nat) xs_7))))) && (Nat.ble ((List.length (bs_6 ++ (putM (2 : Nat) xs_7))) + (Int.toNat n_3)) (1099511627776 : Nat))) && (Nat.ble (((List.length (bs_6 ++ (putM (2 : Nat) xs_7))) + (Int.toNat n_3)) * (1 : Nat)) (1099511627776 : Nat))) then (Q (Out.ret (AV.sl (1 : Nat) ((List.length (bs_6 ++ (putM (2 : Nat) xs_7))) + (List.length (List.take ((Int.toNat n_3) * (1 : Nat)) (List.drop (0 : Nat) (List.flatten (List.replicate (Int.toNat n_3) ((AV.int .u8 (0 : Int)) :: []))))))) (0 : Nat) ((List.length (bs_6 ++ (putM (2 : Nat) xs_7))) + (Int.toNat n_3)) (1 : Nat))) ((Blk.mk BK.exact true (medM mk ty seq ti ss tc cs tx ex pad pl)) :: ((Blk.mk BK.grow (oldL (0 : Nat) (List.take ((Int.toNat n_3) * (1 : Nat)) (List.drop (0 : Nat) (List.flatten (List.replicate (Int.toNat n_3) ((AV.int .u8 (0 : Int)) :: [])))))) ((ofBytes (bs_6 ++ (putM (2 : Nat) xs_7))) ++ (List.take ((Int.toNat n_3) * (1 : Nat)) (List.drop (0 : Nat) (List.flatten (List.replicate (Int.toNat n_3) ((AV.int .u8 (0 : Int)) :: []))))))) :: ((Blk.mk BK.grow (oldL (0 : Nat) (List.flatten (List.replicate (Int.toNat n_3) ((AV.int .u8 (0 : Int)) :: [])))) (List.flatten (List.replicate (Int.toNat n_3) ((AV.int .u8 (0 : Int)) :: [])))) :: []))) (Gh.mk (0 : Nat) (0 : Nat) []))
else False)
else False))
else False))))))))
else False)
else False)
else False))
else False)))))))))) ∧
 (∀ x_0 : Nat, ((Lf (((1 : Nat) ≤ x_0) ∧
 ((x_0 ≤ (List.length ex)) ∧
 (true = (shortM ex))))) →
(bif (decide ((Nat.cast x_0 : Int) < (Nat.cast (List.length ex) : Int))) then (bif ((Nat.blt (Int.toNat (Nat.cast x_0 : Int)) (List.length ex)) && true) then (bif (Nat.ble (((Int.toNat (Nat.cast x_0 : Int)) * (2 : Nat)) + (2 : Nat)) (List.length (cellsXM ex))) then (∃ n_1 : Int, (∃ s_2 : (List UInt8), (((AV.agg (List.take (2 : Nat) (List.drop ((Int.toNat (Nat.cast x_0 : Int)) * (2 : Nat)) (cellsXM ex)))) = (AV.agg ((AV.int .i64 n_1) :: ((AV.str s_2) :: [])))) ∧
 (∃ n_3 : Int, (((AV.int .i64 (IntKind.wrap .i64 (n_1 * (16 : Int)))) = (AV.int .i64 n_3)) ∧
 (∃ n_4 : Int, (((AV.int .i64 (Nat.cast (List.length s_2) : Int)) = (AV.int .i64 n_4)) ∧
 (∃ n_5 : Int, (((AV.int .i64 (IntKind.wrap .i64 (n_4 - (1 : Int)))) = (AV.int .i64 n_5)) ∧
 (∃ n_6 : Int, (((AV.int .i64 (IntKind.wrap .i64 (Nat.cast ((Int.toNat (n_3 % (18446744073709551616 : Int))) ||| (Int.toNat (n_5 % (18446744073709551616 : Int)))) : Int))) = (AV.int .i64 n_6)) ∧
 (∃ bs_7 : (List UInt8), (∃ xs_8 : (List Int), ((Lf (((GetElem?.getElem? ((Blk.mk BK.exact true (medM mk ty seq ti ss tc cs tx ex pad pl)) :: ((Blk.mk BK.grow true (ofBytes (headBM mk ty seq ti ss cs (List.length ex) pad))) :: ((Blk.mk BK.exact true (firstXM ex)) :: ((Blk.mk BK.grow true (ofBytes (extBM true (List.take x_0 ex)))) :: ((Blk.mk BK.exact true ((AV.int .i64 n_1) :: ((AV.str s_2) :: []))) :: []))))) (3 : Nat)) = (Option.some (Blk.mk BK.grow true (ofBytes bs_7)))) ∧
 (((List.length (extBM true (List.take x_0 ex))) = (List.length bs_7)) ∧
 (((List.length (extBM true (List.take x_0 ex))) = (List.length bs_7)) ∧
 (((List.length bs_7) ≤ (1000000 : Nat)) ∧
 ((((AV.int .i64 n_6) :: []) = (cellsI xs_8)) ∧
 (((1 : Nat) = (List.length xs_8)) ∧
 (((1 : Int) ≤ (1 : Int)) ∧
 (((1 : Int) ≤ (7 : Int)) ∧
 ((List.length xs_8) ≤ (1000000 : Nat))))))))))) ∧
 (bif (((oneL (ofBytes s_2)) && true) && (Nat.ble ((List.length s_2) * (1 : Nat)) (1099511627776 : Nat))) then (bif (Nat.beq (List.length s_2) (0 : Nat)) then (bif (Nat.beq (List.length s_2) (0 : Nat)) then (bif ((Nat.beq (List.length (ofBytes (bs_7 ++ (putM (1 : Nat) xs_8)))) (List.length (bs_7 ++ (putM (1 : Nat) xs_8)))) && true) then (∃ n_9 : Int, (((AV.int .i64 (IntKind.wrap .i64 ((Nat.cast x_0 : Int) + (1 : Int)))) = (AV.int .i64 n_9)) ∧
 ((True ∧
 ((0 : Nat) = (0 : Nat))) ∧
 ((∃ y_10 : Nat, ((Lf ((y_10 = (0 : Nat)) ∧
 (true = (shortM ex)))) ∧
 ((((List.length ex) + (1 : Nat)) < ((List.length ex) - x_0)) ∧
 (vc_56_1 mk ty seq ti ss tc cs tx ex pad pl)))) ∨
 (∃ y_10 : Nat, ((Lf (((1 : Nat) ≤ y_10) ∧
 ((y_10 ≤ (List.length ex)) ∧
 (true = (shortM ex))))) ∧
 ((((List.length ex) - y_10) < ((List.length ex) - x_0)) ∧
 (((medM mk ty seq ti ss tc cs tx ex pad pl) = (medM mk ty seq ti ss tc cs tx ex pad pl)) ∧
 (((ofBytes (headBM mk ty seq ti ss cs (List.length ex) pad)) = (ofBytes (headBM mk ty seq ti ss cs (List.length ex) pad))) ∧
 (((firstXM ex) = (firstXM ex)) ∧
 (((ofBytes (bs_7 ++ (putM (1 : Nat) xs_8))) = (ofBytes (extBM true (List.take y_10 ex)))) ∧
 (((AV.int .i64 (48862 : Int)) = (AV.int .i64 (48862 : Int))) ∧
 (((AV.sl (1 : Nat) (List.length (headBM mk ty seq ti ss cs (List.length ex) pad)) (0 : Nat) (List.length (headBM mk ty seq ti ss cs (List.length ex) pad)) (1 : Nat)) = (AV.sl (1 : Nat) (List.length (headBM mk ty seq ti ss cs (List.length ex) pad)) (0 : Nat) (List.length (headBM mk ty seq ti ss cs (List.length ex) pad)) (1 : Nat))) ∧
 (((AV.int .i64 (Nat.cast (List.length ex) : Int)) = (AV.int .i64 (Nat.cast (List.length ex) : Int))) ∧
 (((AV.lst tx (cellsXM ex) (List.length ex) (2 : Nat)) = (AV.lst tx (cellsXM ex) (List.length ex) (2 : Nat))) ∧
 (((AV.sl (3 : Nat) (List.length (bs_7 ++ (putM (1 : Nat) xs_8))) (0 : Nat) (List.length (bs_7 ++ (putM (1 : Nat) xs_8))) (1 : Nat)) = (AV.sl (3 : Nat) (List.length (extBM true (List.take y_10 ex))) (0 : Nat) (List.length (extBM true (List.take y_10 ex))) (1 : Nat))) ∧
 (((AV.int .i64 n_9) = (AV.int .i64 (Nat.cast y_10 : Int))) ∧
 True)))))))))))))))))
else False)
else False)
else (bif (Nat.blt (0 : Nat) (List.length s_2)) then (bif (((((Nat.beq (List.length (ofBytes (bs_7 ++ (putM (1 : Nat) xs_8)))) (List.length (bs_7 ++ (putM (1 : Nat) xs_8)))) && true) && (Nat.beq ((0 : Nat) + ((List.length (bs_7 ++ (putM (1 : Nat) xs_8))) * (1 : Nat))) (List.length (bs_7 ++ (putM (1 : Nat) xs_8))))) && (Nat.ble ((List.length (bs_7 ++ (putM (1 : Nat) xs_8))) + (List.length s_2)) (1099511627776 : Nat))) && (Nat.ble (((List.length (bs_7 ++ (putM (1 : Nat) xs_8))) + (List.length s_2)) * (1 : Nat)) (1099511627776 : Nat))) then (∃ n_9 : Int, (((AV.int .i64 (IntKind.wrap .i64 ((Nat.cast x_0 : Int) + (1 : Int)))) = (AV.int .i64 n_9)) ∧
 (bif (((oldL (0 : Nat) (ofBytes s_2)) || (oldL (4 : Nat) ((ofBytes (bs_7 ++ (putM (1 : Nat) xs_8))) ++ (ofBytes s_2)))) && true) then ((True ∧
 ((0 : Nat) = (0 : Nat))) ∧
 ((∃ y_10 : Nat, ((Lf ((y_10 = (0 : Nat)) ∧
 (true = (shortM ex)))) ∧
 ((((List.length ex) + (1 : Nat)) < ((List.length ex) - x_0)) ∧
 (vc_56_1 mk ty seq ti ss tc cs tx ex pad pl)))) ∨
 (∃ y_10 : Nat, ((Lf (((1 : Nat) ≤ y_10) ∧
 ((y_10 ≤ (List.length ex)) ∧
 (true = (shortM ex))))) ∧
 ((((List.length ex) - y_10) < ((List.length ex) - x_0)) ∧
 (((medM mk ty seq ti ss tc cs tx ex pad pl) = (medM mk ty seq ti ss tc cs tx ex pad pl)) ∧
 (((ofBytes (headBM mk ty seq ti ss cs (List.length ex) pad)) = (ofBytes (headBM mk ty seq ti ss cs (List.length ex) pad))) ∧
 (((firstXM ex) = (firstXM ex)) ∧
 (bif ((oldL (0 : Nat) (ofBytes s_2)) == true) then ((((ofBytes (bs_7 ++ (putM (1 : Nat) xs_8))) ++ (ofBytes s_2)) = (ofBytes (extBM true (List.take y_10 ex)))) ∧
 (((AV.int .i64 (48862 : Int)) = (AV.int .i64 (48862 : Int))) ∧
 (((AV.sl (1 : Nat) (List.length (headBM mk ty seq ti ss cs (List.length ex) pad)) (0 : Nat) (List.length (headBM mk ty seq ti ss cs (List.length ex) pad)) (1 : Nat)) = (AV.sl (1 : Nat) (List.length (headBM mk ty seq ti ss cs (List.length ex) pad)) (0 : Nat) (List.length (headBM mk ty seq ti ss cs (List.length ex) pad)) (1 : Nat))) ∧
 (((AV.int .i64 (Nat.cast (List.length ex) : Int)) = (AV.int .i64 (Nat.cast (List.length ex) : Int))) ∧
 (((AV.lst tx (cellsXM ex) (List.length ex) (2 : Nat)) = (AV.lst tx (cellsXM ex) (List.length ex) (2 : Nat))) ∧
 (((AV.sl (3 : Nat) ((List.length (bs_7 ++ (putM (1 : Nat) xs_8))) + (List.length (ofBytes s_2))) (0 : Nat) ((List.length (bs_7 ++ (putM (1 : Nat) xs_8))) + (List.length s_2)) (1 : Nat)) = (AV.sl (3 : Nat) (List.length (extBM true (List.take y_10 ex))) (0 : Nat) (List.length (extBM true (List.take y_10 ex))) (1 : Nat))) ∧
 (((AV.int .i64 n_9) = (AV.int .i64 (Nat.cast y_10 : Int))) ∧
 True)))))))
else False)))))))))
else ((True ∧
 ((0 : Nat) = (0 : Nat))) ∧
 ((∃ y_10 : Nat, ((Lf ((y_10 = (0 : Nat)) ∧
 (true = (shortM ex)))) ∧
 ((((List.length ex) + (1 : Nat)) < ((List.length ex) - x_0)) ∧
 (vc_56_1 mk ty seq ti ss tc cs tx ex pad pl)))) ∨
 (∃ y_10 : Nat, ((Lf (((1 : Nat) ≤ y_10) ∧
 ((y_10 ≤ (List.length ex)) ∧
 (true = (shortM ex))))) ∧
 ((((List.length ex) - y_10) < ((List.length ex) - x_0)) ∧
 (((medM mk ty seq ti ss tc cs tx ex pad pl) = (medM mk ty seq ti ss tc cs tx ex pad pl)) ∧
 (((ofBytes (headBM mk ty seq ti ss cs (List.length ex) pad)) = (ofBytes (headBM mk ty seq ti ss cs (List.length ex) pad))) ∧
 (((firstXM ex) = (firstXM ex)) ∧
 (bif ((oldL (0 : Nat) (ofBytes s_2)) == true) then ((((ofBytes (bs_7 ++ (putM (1 : Nat) xs_8))) ++ (ofBytes s_2)) = (ofBytes (extBM true (List.take y_10 ex)))) ∧
 False)
else False))))))))))))
else False)
else False))
else False)))))))))))))))
else False)
else False)
else (bif (Nat.beq (List.length (ofBytes (extBM true (List.take x_0 ex)))) (List.length (extBM true (List.take x_0 ex)))) then (∃ n_1 : Int, (((AV.int .i64 (Nat.cast (List.length (extBM true (List.take x_0 ex))) : Int)) = (AV.int .i64 n_1)) ∧
 (∃ n_2 : Int, (((AV.int .i64 (IntKind.wrap .i64 ((0 : Int) - n_1))) = (AV.int .i64 n_2)) ∧
 (∃ n_3 : Int, (((AV.int .i64 (IntKind.wrap .i64 (Nat.cast ((Int.toNat (n_2 % (18446744073709551616 : Int))) &&& (3 : Nat)) : Int))) = (AV.int .i64 n_3)) ∧
 (bif (((((decide ((0 : Int) ≤ n_3)) && (decide (n_3 ≤ (1099511627776 : Int)))) && (oneL (List.flatten (List.replicate (Int.toNat n_3) ((AV.int .u8 (0 : Int)) :: []))))) && true) && (Nat.ble ((Int.toNat n_3) * (1 : Nat)) (1099511627776 : Nat))) then (bif (decide (n_3 = (0 : Int))) then (bif (Nat.beq (Int.toNat n_3) (0 : Nat)) then (bif ((Nat.beq (List.length (ofBytes (extBM true (List.take x_0 ex)))) (List.length (extBM true (List.take x_0 ex)))) && true) then (bif (Nat.beq (List.length (ofBytes (extBM true (List.take x_0 ex)))) (List.length (extBM true (List.take x_0 ex)))) then (∃ n_4 : Int, (((AV.int .i64 (Nat.cast (List.length (extBM true (List.take x_0 ex))) : Int)) = (AV.int .i64 n_4)) ∧
 (∃ n_5 : Int, (((AV.int .i64 (IntKind.wrap .i64 (Int.tdiv n_4 (4 : Int)))) = (AV.int .i64 n_5)) ∧
 (∃ bs_6 : (List UInt8), (∃ xs_7 : (List Int), ((Lf (((GetElem?.getElem? ((Blk.mk BK.exact true (medM mk ty seq ti ss tc cs tx ex pad pl)) :: ((Blk.mk BK.grow true (ofBytes (headBM mk ty seq ti ss cs (List.length ex) pad))) :: ((Blk.mk BK.exact true (firstXM ex)) :: ((Blk.mk BK.grow true (ofBytes (extBM true (List.take x_0 ex)))) :: [])))) (1 : Nat)) = (Option.some (Blk.mk BK.grow true (ofBytes bs_6)))) ∧
 (((List.length (headBM mk ty seq ti ss cs (List.length ex) pad)) = (List.length bs_6)) ∧
 (((List.length (headBM mk ty seq ti ss cs (List.length ex) pad)) = (List.length bs_6)) ∧
 (((List.length bs_6) ≤ (1000000 : Nat)) ∧
 ((((AV.int .i64 (48862 : Int)) :: ((AV.int .i64 n_5) :: [])) = (cellsI xs_7)) ∧
 (((2 : Nat) = (List.length xs_7)) ∧
 (((1 : Int) ≤ (2 : Int)) ∧
 (((2 : Int) ≤ (7 : Int)) ∧
 ((List.length xs_7) ≤ (1000000 : Nat))))))))))) ∧
 (bif ((((((Nat.beq (List.length (ofBytes (extBM true (List.take x_0 ex)))) (List.length (extBM true (List.take x_0 ex)))) && true) && (Nat.ble ((0 : Nat) + ((List.length (extBM true (List.take x_0 ex))) * (1 : Nat))) (List.length (extBM true (List.take x_0 ex))))) && (oneL (List.take ((List.length (extBM true (List.take x_0 ex))) * (1 : Nat)) (List.drop (0 : Nat) (ofBytes (extBM true (List.take x_0 ex))))))) && true) && (Nat.ble ((List.length (extBM true (List.take x_0 ex))) * (1 : Nat)) (1099511627776 : Nat))) then (bif (Nat.beq (List.length (extBM true (List.take x_0 ex))) (0 : Nat)) then (bif (Nat.beq (List.length (extBM true (List.take x_0 ex))) (0 : Nat)) then (bif ((Nat.beq (List.length (ofBytes (bs_6 ++ (putM (2 : Nat) xs_7)))) (List.length (bs_6 ++ (putM (2 : Nat) xs_7)))) && true) then (Q (Out.ret (AV.sl (1 : Nat) (List.length (bs_6 ++ (putM (2 : Nat) xs_7))) (0 : Nat) (List.length (bs_6 ++ (putM (2 : Nat) xs_7))) (1 : Nat))) ((Blk.mk BK.exact true (medM mk ty seq ti ss tc cs tx ex pad pl)) :: ((Blk.mk BK.grow true (ofBytes (bs_6 ++ (putM (2 : Nat) xs_7)))) :: ((Blk.mk BK.exact true (firstXM ex)) :: ((Blk.mk BK.grow true (ofBytes (extBM true (List.take x_0 ex)))) :: [])))) (Gh.mk (0 : Nat) (0 : Nat) []))
else False)
else False)
else (bif (Nat.blt (0 : Nat) (List.length (extBM true (List.take x_0 ex)))) then (bif (((((Nat.beq (List.length (ofBytes (bs_6 ++ (putM (2 : Nat) xs_7)))) (List.length (bs_6 ++ (putM (2 : Nat) xs_7)))) && true) && (Nat.beq ((0 : Nat) + ((List.length (bs_6 ++ (putM (2 : Nat) xs_7))) * (1 : Nat))) (List.length (bs_6 ++ (putM (2 : Nat) xs_7))))) && (Nat.ble ((List.length (bs_6 ++ (putM (2 : Nat) xs_7))) + (List.length (extBM true (List.take x_0 ex)))) (1099511627776 : Nat))) && (Nat.ble (((List.length (bs_6 ++ (putM (2 : Nat) xs_7))) + (List.length (extBM true (List.take x_0 ex)))) * (1 : Nat)) (1099511627776 : Nat))) then (Q (Out.ret (AV.sl (1 : Nat) ((List.length (bs_6 ++ (putM (2 : Nat) xs_7))) + (List.length (List.take ((List.length (extBM true (List.take x_0 ex))) * (1 : Nat)) (List.drop (0 : Nat) (ofBytes (extBM true (List.take x_0 ex))))))) (0 : Nat) ((List.length (bs_6 ++ (putM (2 : Nat) xs_7))) + (List.length (extBM true (List.take x_0 ex)))) (1 : Nat))) ((Blk.mk BK.exact true (medM mk ty seq ti ss tc cs tx ex pad pl)) :: ((Blk.mk BK.grow (oldL (0 : Nat) (List.take ((List.length (extBM true (List.take x_0 ex))) * (1 : Nat)) (List.drop (0 : Nat) (ofBytes (extBM true (List.take x_0 ex)))))) ((ofBytes (bs_6 ++ (putM (2 : Nat) xs_7))) ++ (List.take ((List.length (extBM true (List.take x_0 ex))) * (1 : Nat)) (List.drop (0 : Nat) (ofBytes (extBM true (List.take x_0 ex))))))) :: ((Blk.mk BK.exact true (firstXM ex)) :: ((Blk.mk BK.grow true (ofBytes (extBM true (List.take x_0 ex)))) :: [])))) (Gh.mk (0 : Nat) (0 : Nat) []))
else False)
else False))
else False))))))))
else False)
else False)
else False)
else (bif (Nat.blt (0 : Nat) (Int.toNat n_3)) then (bif (((((Nat.beq (List.length (ofBytes (extBM true (List.take x_0 ex)))) (List.length (extBM true (List.take x_0 ex)))) && true) && (Nat.beq ((0 : Nat) + ((List.length (extBM true (List.take x_0 ex))) * (1 : Nat))) (List.length (extBM true (List.take x_0 ex))))) && (Nat.ble ((List.length (extBM true (List.take x_0 ex))) + (Int.toNat n_3)) (1099511627776 : Nat))) && (Nat.ble (((List.length (extBM true (List.take x_0 ex))) + (Int.toNat n_3)) * (1 : Nat)) (1099511627776 : Nat))) then (bif (Nat.beq (List.length ((ofBytes (extBM true (List.take x_0 ex))) ++ (List.flatten (List.replicate (Int.toNat n_3) ((AV.int .u8 (0 : Int)) :: []))))) ((List.length (extBM true (List.take x_0 ex))) + (List.length (List.flatten (List.replicate (Int.toNat n_3) ((AV.int .u8 (0 : Int)) :: [])))))) then (∃ n_4 : Int, (((AV.int .i64 (Nat.cast ((List.length (extBM true (List.take x_0 ex))) + (Int.toNat n_3)) : Int)) = (AV.int .i64 n_4)) ∧
 (∃ n_5 : Int, (((AV.int .i64 (IntKind.wrap .i64 (Int.tdiv n_4 (4 : Int)))) = (AV.int .i64 n_5)) ∧
 (∃ bs_6 : (List UInt8), (∃ xs_7 : (List Int), ((Lf (((GetElem?.getElem? ((Blk.mk BK.exact true (medM mk ty seq ti ss tc cs tx ex pad pl)) :: ((Blk.mk BK.grow true (ofBytes (headBM mk ty seq ti ss cs (List.length ex) pad))) :: ((Blk.mk BK.exact true (firstXM ex)) :: ((Blk.mk BK.grow (oldL (0 : Nat) (List.flatten (List.replicate (Int.toNat n_3) ((AV.int .u8 (0 : Int)) :: [])))) ((ofBytes (extBM true (List.take x_0 ex))) ++ (List.flatten (List.replicate (Int.toNat n_3) ((AV.int .u8 (0 : Int)) :: []))))) :: [])))) (1 : Nat)) = (Option.some (Blk.mk BK.grow true (ofBytes bs_6)))) ∧
 (((List.length (headBM mk ty seq ti ss cs (List.length ex) pad)) = (List.length bs_6)) ∧
 (((List.length (headBM mk ty seq ti ss cs (List.length ex) pad)) = (List.length bs_6)) ∧
 (((List.length bs_6) ≤ (1000000 : Nat)) ∧
 ((((AV.int .i64 (48862 : Int)) :: ((AV.int .i64 n_5) :: [])) = (cellsI xs_7)) ∧
 (((2 : Nat) = (List.length xs_7)) ∧
 (((1 : Int) ≤ (2 : Int)) ∧
 (((2 : Int) ≤ (7 : Int)) ∧
 ((List.length xs_7) ≤ (1000000 : Nat))))))))))) ∧
 (bif ((((((Nat.beq (List.length ((ofBytes (extBM true (List.take x_0 ex))) ++ (List.flatten (List.replicate (Int.toNat n_3) ((AV.int .u8 (0 : Int)) :: []))))) ((List.length (extBM true (List.take x_0 ex))) + (List.length (List.flatten (List.replicate (Int.toNat n_3) ((AV.int .u8 (0 : Int)) :: [])))))) && true) && (Nat.ble ((0 : Nat) + (((List.length (extBM true (List.take x_0 ex))) + (Int.toNat n_3)) * (1 : Nat))) ((List.length (extBM true (List.take x_0 ex))) + (List.length (List.flatten (List.replicate (Int.toNat n_3) ((AV.int .u8 (0 : Int)) :: []))))))) && (oneL (List.take (((List.length (extBM true (List.take x_0 ex))) + (Int.toNat n_3)) * (1 : Nat)) (List.drop (0 : Nat) ((ofBytes (extBM true (List.take x_0 ex))) ++ (List.flatten (List.replicate (Int.toNat n_3) ((AV.int .u8 (0 : Int)) :: [])))))))) && true) && (Nat.ble (((List.length (extBM true (List.take x_0 ex))) + (Int.toNat n_3)) * (1 : Nat)) (1099511627776 : Nat))) then (bif (Nat.beq ((List.length (extBM true (List.take x_0 ex))) + (Int.toNat n_3)) (0 : Nat)) then (bif (Nat.beq ((List.length (extBM true (List.take x_0 ex))) + (Int.toNat n_3)) (0 : Nat)) then (bif ((Nat.beq (List.length (ofBytes (bs_6 ++ (putM (2 : Nat) xs_7)))) (List.length (bs_6 ++ (putM (2 : Nat) xs_7)))) && true) then (Q (Out.ret (AV.sl (1 : Nat) (List.length (bs_6 ++ (putM (2 : Nat) xs_7))) (0 : Nat) (List.length (bs_6 ++ (putM (2 : Nat) xs_7))) (1 : Nat))) ((Blk.mk BK.exact true (medM mk ty seq ti ss tc cs tx ex pad pl)) :: ((Blk.mk BK.grow true (ofBytes (bs_6 ++ (putM (2 : Nat) xs_7)))) :: ((Blk.mk BK.exact true (firstXM ex)) :: ((Blk.mk BK.grow (oldL (0 : Nat) (List.flatten (List.replicate (Int.toNat n_3) ((AV.int .u8 (0 : Int)) :: [])))) ((ofBytes (extBM true (List.take x_0 ex))) ++ (List.flatten (List.replicate (Int.toNat n_3) ((AV.int .u8 (0 : Int)) :: []))))) :: [])))) (Gh.mk (0 : Nat) (0 : Nat) []))
else False)
else False)
else (bif (Nat.blt (0 : Nat) ((List.length (extBM true (List.take x_0 ex))) + (Int.toNat n_3))) then (bif (((((Nat.beq (List.length (ofBytes (bs_6 ++ (putM (2 : Nat) xs_7)))) (List.length (bs_6 ++ (putM (2 : Nat) xs_7)))) && true) && (Nat.beq ((0 : Nat) + ((List.length (bs_6 ++ (putM (2 : Nat) xs_7))) * (1 : Nat))) (List.length (bs_6 ++ (putM (2 : Nat) xs_7))))) && (Nat.ble ((List.length (bs_6 ++ (putM (2 : Nat) xs_7))) + ((List.length (extBM true (List.take x_0 ex))) + (Int.toNat n_3))) (1099511627776 : Nat))) && (Nat.ble (((List.length (bs_6 ++ (putM (2 : Nat) xs_7))) + ((List.length (extBM true (List.take x_0 ex))) + (Int.toNat n_3))) * (1 : Nat)) (1099511627776 : Nat))) then (Q (Out.ret (AV.sl (1 : Nat) ((List.length (bs_6 ++ (putM (2 : Nat) xs_7))) + (List.length (List.take (((List.length (extBM true (List.take x_0 ex))) + (Int.toNat n_3)) * (1 : Nat)) (List.drop (0 : Nat) ((ofBytes (extBM true (List.take x_0 ex))) ++ (List.flatten (List.replicate (Int.toNat n_3) ((AV.int .u8 (0 : Int)) :: [])))))))) (0 : Nat) ((List.length (bs_6 ++ (putM (2 : Nat) xs_7))) + ((List.length (extBM true (List.take x_0 ex))) + (Int.toNat n_3))) (1 : Nat))) ((Blk.mk BK.exact true (medM mk ty seq ti ss tc cs tx ex pad pl)) :: ((Blk.mk BK.grow (oldL (0 : Nat) (List.take (((List.length (extBM true (List.take x_0 ex))) + (Int.toNat n_3)) * (1 : Nat)) (List.drop (0 : Nat) ((ofBytes (extBM true (List.take x_0 ex))) ++ (List.flatten (List.replicate (Int.toNat n_3) ((AV.int .u8 (0 : Int)) :: []))))))) ((ofBytes (bs_6 ++ (putM (2 : Nat) xs_7))) ++ (List.take (((List.length (extBM true (List.take x_0 ex))) + (Int.toNat n_3)) * (1 : Nat)) (List.drop (0 : Nat) ((ofBytes (extBM true (List.take x_0 ex))) ++ (List.flatten (List.replicate (Int.toNat n_3) ((AV.int .u8 (0 : Int)) :: [])))))))) :: ((Blk.mk BK.exact true (firstXM ex)) :: ((Blk.mk BK.grow (oldL (0 : Nat) (List.flatten (List.replicate (Int.toNat n_3) ((AV.int .u8 (0 : Int)) :: [])))) ((ofBytes (extBM true (List.take x_0 ex))) ++ (List.flatten (List.replicate (Int.toNat n_3) ((AV.int .u8 (0 : Int)) :: []))))) :: [])))) (Gh.mk (0 : Nat) (0 : Nat) []))
else False)
else False))
else False))))))))
else False)
else False)
else False))
else False)))))))
else False))))))
def vc_56_5 (mk : Bool) (ty : Int) (seq : Int) (ti : Int) (ss : Int) (tc : Nat) (cs : List Int) (tx : Nat) (ex : List Xt) (pad : Int) (pl : List UInt8) : Prop := (
(∃ y_0 : Nat, ((Lf ((y_0 = (0 : Nat)) ∧
 (false = (shortM ex)))) ∧
 (vc_56_2 mk ty seq ti ss tc cs tx ex pad pl))))
def vc_56_6 (mk : Bool) (ty : Int) (seq : Int) (ti : Int) (ss : Int) (tc : Nat) (cs : List Int) (tx : Nat) (ex : List Xt) (pad : Int) (pl : List UInt8) (Q : Out → List Blk → Gh → Prop) : Prop := (
((∀ x_0 : Nat, ((Lf ((x_0 = (0 : Nat)) ∧
 (false = (shortM ex)))) →
(bif (decide ((Nat.cast x_0 : Int) < (Nat.cast (List.length ex) : Int))) then (bif ((Nat.blt (Int.toNat (Nat.cast x_0 : Int)) (List.length ex)) && true) then (bif (Nat.ble (((Int.toNat (Nat.cast x_0 : Int)) * (2 : Nat)) + (2 : Nat)) (List.length (cellsXM ex))) then (∃ n_1 : Int, (∃ s_2 : (List UInt8), (((AV.agg (List.take (2 : Nat) (List.drop ((Int.toNat (Nat.cast x_0 : Int)) * (2 : Nat)) (cellsXM ex)))) = (AV.agg ((AV.int .i64 n_1) :: ((AV.str s_2) :: [])))) ∧
 (∃ n_3 : Int, (((AV.int .i64 (Nat.cast (List.length s_2) : Int)) = (AV.int .i64 n_3)) ∧
 (∃ xs_4 : (List Int), ((Lf ((((AV.int .i64 n_1) :: ((AV.int .i64 n_3) :: [])) = (cellsI xs_4)) ∧
 (((2 : Nat) = (List.length xs_4)) ∧
 (((1 : Int) ≤ (1 : Int)) ∧
 (((1 : Int) ≤ (7 : Int)) ∧
 (((1 : Nat) ≤ (List.length xs_4)) ∧
 ((List.length xs_4) ≤ (1000000 : Nat)))))))) ∧
 (bif (((oneL (ofBytes s_2)) && true) && (Nat.ble ((List.length s_2) * (1 : Nat)) (1099511627776 : Nat))) then (bif (Nat.beq (List.length s_2) (0 : Nat)) then (bif (Nat.beq (List.length s_2) (0 : Nat)) then (bif ((Nat.beq (List.length (ofBytes (putM (1 : Nat) xs_4))) (List.length (putM (1 : Nat) xs_4))) && true) then (∃ n_5 : Int, (((AV.int .i64 (IntKind.wrap .i64 ((Nat.cast x_0 : Int) + (1 : Int)))) = (AV.int .i64 n_5)) ∧
 ((True ∧
 ((0 : Nat) = (0 : Nat))) ∧
 ((vc_56_5 mk ty seq ti ss tc cs tx ex pad pl) ∨
 (∃ y_6 : Nat, ((Lf (((1 : Nat) ≤ y_6) ∧
 ((y_6 ≤ (List.length ex)) ∧
 (false = (shortM ex))))) ∧
 ((((List.length ex) - y_6) < ((List.length ex) + (1 : Nat))) ∧
 (((medM mk ty seq ti ss tc cs tx ex pad pl) = (medM mk ty seq ti ss tc cs tx ex pad pl)) ∧
 (((ofBytes (headBM mk ty seq ti ss cs (List.length ex) pad)) = (ofBytes (headBM mk ty seq ti ss cs (List.length ex) pad))) ∧
 ((((AV.int .i64 n_1) :: ((AV.str s_2) :: [])) = (firstXM ex)) ∧
 (((ofBytes (putM (1 : Nat) xs_4)) = (ofBytes (extBM false (List.take y_6 ex)))) ∧
 (((AV.int .i64 (4096 : Int)) = (AV.int .i64 (4096 : Int))) ∧
 (((AV.sl (1 : Nat) (List.length (headBM mk ty seq ti ss cs (List.length ex) pad)) (0 : Nat) (List.length (headBM mk ty seq ti ss cs (List.length ex) pad)) (1 : Nat)) = (AV.sl (1 : Nat) (List.length (headBM mk ty seq ti ss cs (List.length ex) pad)) (0 : Nat) (List.length (headBM mk ty seq ti ss cs (List.length ex) pad)) (1 : Nat))) ∧
 (((AV.int .i64 (Nat.cast (List.length ex) : Int)) = (AV.int .i64 (Nat.cast (List.length ex) : Int))) ∧
 (((AV.lst tx (cellsXM ex) (List.length ex) (2 : Nat)) = (AV.lst tx (cellsXM ex) (List.length ex) (2 : Nat))) ∧
 (((AV.sl (3 : Nat) (List.length (putM (1 : Nat) xs_4)) (0 : Nat) (List.length (putM (1 : Nat) xs_4)) (1 : Nat)) = (AV.sl (3 : Nat) (List.length (extBM false (List.take y_6 ex))) (0 : Nat) (List.length (extBM false (List.take y_6 ex))) (1 : Nat))) ∧
 (((AV.int .i64 n_5) = (AV.int .i64 (Nat.cast y_6 : Int))) ∧
 True)))))))))))))))))
else False)
else False)
else (bif (Nat.blt (0 : Nat) (List.length s_2)) then (bif (((((Nat.beq (List.length (ofBytes (putM (1 : Nat) xs_4))) (List.length (putM (1 : Nat) xs_4))) && true) && (Nat.beq ((0 : Nat) + ((List.length (putM (1 : Nat) xs_4)) * (1 : Nat))) (List.length (putM (1 : Nat) xs_4)))) && (Nat.ble ((List.length (putM (1 : Nat) xs_4)) + (List.length s_2)) (1099511627776 : Nat))) && (Nat.ble (((List.length (putM (1 : Nat) xs_4)) + (List.length s_2)) * (1 : Nat)) (1099511627776 : Nat))) then (∃ n_5 : Int, (((AV.int .i64 (IntKind.wrap .i64 ((Nat.cast x_0 : Int) + (1 : Int)))) = (AV.int .i64 n_5)) ∧
 ((True ∧
 ((0 : Nat) = (0 : Nat))) ∧
 ((vc_56_5 mk ty seq ti ss tc cs tx ex pad pl) ∨
 (∃ y_6 : Nat, ((Lf (((1 : Nat) ≤ y_6) ∧
 ((y_6 ≤ (List.length ex)) ∧
 (false = (shortM ex))))) ∧
 ((((List.length ex) - y_6) < ((List.length ex) + (1 : Nat))) ∧
 (((medM mk ty seq ti ss tc cs tx ex pad pl) = (medM mk ty seq ti ss tc cs tx ex pad pl)) ∧
 (((ofBytes (headBM mk ty seq ti ss cs (List.length ex) pad)) = (ofBytes (headBM mk ty seq ti ss cs (List.length ex) pad))) ∧
 ((((AV.int .i64 n_1) :: ((AV.str s_2) :: [])) = (firstXM ex)) ∧
 (bif ((oldL (0 : Nat) (ofBytes s_2)) == true) then ((((ofBytes (putM (1 : Nat) xs_4)) ++ (ofBytes s_2)) = (ofBytes (extBM false (List.take y_6 ex)))) ∧
 (((AV.int .i64 (4096 : Int)) = (AV.int .i64 (4096 : Int))) ∧
 (((AV.sl (1 : Nat) (List.length (headBM mk ty seq ti ss cs (List.length ex) pad)) (0 : Nat) (List.length (headBM mk ty seq ti ss cs (List.length ex) pad)) (1 : Nat)) = (AV.sl (1 : Nat) (List.length (headBM mk ty seq ti ss cs (List.length ex) pad)) (0 : Nat) (List.length (headBM mk ty seq ti ss cs (List.length ex) pad)) (1 : Nat))) ∧
 (((AV.int .i64 (Nat.cast (List.length ex) : Int)) = (AV.int .i64 (Nat.cast (List.length ex) : Int))) ∧
 (((AV.lst tx (cellsXM ex) (List.length ex) (2 : Nat)) = (AV.lst tx (cellsXM ex) (List.length ex) (2 : Nat))) ∧
 (((AV.sl (3 : Nat) ((List.length (putM (1 : Nat) xs_4)) + (List.length (ofBytes s_2))) (0 : Nat) ((List.length (putM (1 : Nat) xs_4)) + (List.length s_2)) (1 : Nat)) = (AV.sl (3 : Nat) (List.length (extBM false (List.take y_6 ex))) (0 : Nat) (List.length (extBM false (List.take y_6 ex))) (1 : Nat))) ∧
 (((AV.int .i64 n_5) = (AV.int .i64 (Nat.cast y_6 : Int))) ∧
 True)))))))
else False)))))))))))
else False)
else False))
else False))))))))
else False)
else False)
else (∃ n_1 : Int, (((AV.int .i64 (0 : Int)) = (AV.int .i64 n_1)) ∧
 (∃ n_2 : Int, (((AV.int .i64 (IntKind.wrap .i64 ((0 : Int) - n_1))) = (AV.int .i64 n_2)) ∧
 (∃ n_3 : Int, (((AV.int .i64 (IntKind.wrap .i64 (Nat.cast ((Int.toNat (n_2 % (18446744073709551616 : Int))) &&& (3 : Nat)) : Int))) = (AV.int .i64 n_3)) ∧
 (bif (((((decide ((0 : Int) ≤ n_3)) && (decide (n_3 ≤ (1099511627776 : Int)))) && (oneL (List.flatten (List.replicate (Int.toNat n_3) ((AV.int .u8 (0 : Int)) :: []))))) && true) && (Nat.ble ((Int.toNat n_3) * (1 : Nat)) (1099511627776 : Nat))) then (bif (decide (n_3 = (0 : Int))) then (bif (Nat.beq (Int.toNat n_3) (0 : Nat)) then (∃ n_4 : Int, (((AV.int .i64 (0 : Int)) = (AV.int .i64 n_4)) ∧
 (∃ n_5 : Int, (((AV.int .i64 (IntKind.wrap .i64 (Int.tdiv n_4 (4 : Int)))) = (AV.int .i64 n_5)) ∧
 (∃ bs_6 : (List UInt8), (∃ xs_7 : (List Int), ((Lf (((GetElem?.getElem? ((Blk.mk BK.exact true (medM mk ty seq ti ss tc cs tx ex pad pl)) :: ((Blk.mk BK.grow true (ofBytes (headBM mk ty seq ti ss cs (List.length ex) pad))) :: [])) (1 : Nat)) = (Option.some (Blk.mk BK.grow true (ofBytes bs_6)))) ∧
 (((List.length (headBM mk ty seq ti ss cs (List.length ex) pad)) = (List.length bs_6)) ∧
 (((List.length (headBM mk ty seq ti ss cs (List.length ex) pad)) = (List.length bs_6)) ∧
 (((List.length bs_6) ≤ (1000000 : Nat)) ∧
 ((((AV.int .i64 (4096 : Int)) :: ((AV.int .i64 n_5) :: [])) = (cellsI xs_7)) ∧
 (((2 : Nat) = (List.length xs_7)) ∧
 (((1 : Int) ≤ (2 : Int)) ∧
 (((2 : Int) ≤ (7 : Int)) ∧
 ((List.length xs_7) ≤ (1000000 : Nat))))))))))) ∧
 (bif ((Nat.beq (List.length (ofBytes (bs_6 ++ (putM (2 : Nat) xs_7)))) (List.length (bs_6 ++ (putM (2 : Nat) xs_7)))) && true) then (Q (Out.ret (AV.sl (1 : Nat) (List.length (bs_6 ++ (putM (2 : Nat) xs_7))) (0 : Nat) (List.length (bs_6 ++ (putM (2 : Nat) xs_7))) (1 : Nat))) ((Blk.mk BK.exact true (medM mk ty seq ti ss tc cs tx ex pad pl)) :: ((Blk.mk BK.grow true (ofBytes (bs_6 ++ (putM (2 : Nat) xs_7)))) :: [])) (Gh.mk (0 : Nat) (0 : Nat) []))
else False))))))))
else False)
else (bif (Nat.blt (0 : Nat) (Int.toNat n_3)) then (bif ((Nat.ble (Int.toNat n_3) (1099511627776 : Nat)) && (Nat.ble ((Int.toNat n_3) * (1 : Nat)) (1099511627776 : Nat))) then (bif (Nat.beq (List.length (List.flatten (List.replicate (Int.toNat n_3) ((AV.int .u8 (0 : Int)) :: [])))) (List.length (List.flatten (List.replicate (Int.toNat n_3) ((AV.int .u8 (0 : Int)) :: []))))) then (∃ n_4 : Int, (((AV.int .i64 (Nat.cast (Int.toNat n_3) : Int)) = (AV.int .i64 n_4)) ∧
 (∃ n_5 : Int, (((AV.int .i64 (IntKind.wrap .i64 (Int.tdiv n_4 (4 : Int)))) = (AV.int .i64 n_5)) ∧
 (∃ bs_6 : (List UInt8), (∃ xs_7 : (List Int), ((Lf (((GetElem?.getElem? ((Blk.mk BK.exact true (medM mk ty seq ti ss tc cs tx ex pad pl)) :: ((Blk.mk BK.grow true (ofBytes (headBM mk ty seq ti ss cs (List.length ex) pad))) :: ((Blk.mk BK.grow (oldL (0 : Nat) (List.flatten (List.replicate (Int.toNat n_3) ((AV.int .u8 (0 : Int)) :: [])))) (List.flatten (List.replicate (Int.toNat n_3) ((AV.int .u8 (0 : Int)) :: [])))) :: []))) (1 : Nat)) = (Option.some (Blk.mk BK.grow true (ofBytes bs_6)))) ∧
 (((List.length (headBM mk ty seq ti ss cs (List.length ex) pad)) = (List.length bs_6)) ∧
 (((List.length (headBM mk ty seq ti ss cs (List.length ex) pad)) = (List.length bs_6)) ∧
 (((List.length bs_6) ≤ (1000000 : Nat)) ∧
 ((((AV.int .i64 (4096 : Int)) :: ((AV.int .i64 n_5) :: [])) = (cellsI xs_7)) ∧
 (((2 : Nat) = (List.length xs_7)) ∧
 (((1 : Int) ≤ (2 : Int)) ∧
 (((2 : Int) ≤ (7 : Int)) ∧
 ((List.length xs_7) ≤ (1000000 : Nat))))))))))) ∧
 (bif ((((((Nat.beq (List.length (List.flatten (List.replicate (Int.toNat n_3) ((AV.int .u8 (0 : Int)) :: [])))) (List.length (List.flatten (List.replicate (Int.toNat n_3) ((AV.int .u8 (0 : Int)) :: []))))) && true) && (Nat.ble ((0 : Nat) + ((Int.toNat n_3) * (1 : Nat))) (List.length (List.flatten (List.replicate (Int.toNat n_3) ((AV.int .u8 (0 : Int)) :: [])))))) && (oneL (List.take ((Int.toNat n_3) * (1 : Nat)) (List.drop (0 : Nat) (List.flatten (List.replicate (Int.toNat n_3) ((AV.int .u8 (0 : Int)) :: []))))))) && true) && (Nat.ble ((Int.toNat n_3) * (1 : Nat)) (1099511627776 : Nat))) then (bif (Nat.beq (Int.toNat n_3) (0 : Nat)) then (bif (Nat.beq (Int.toNat n_3) (0 : Nat)) then (bif ((Nat.beq (List.length (ofBytes (bs_6 ++ (putM (2 : Nat) xs_7)))) (List.length (bs_6 ++ (putM (2 : Nat) xs_7)))) && true) then (Q (Out.ret (AV.sl (1 : Nat) (List.length (bs_6 ++ (putM (2 : Nat) xs_7))) (0 : Nat) (List.length (bs_6 ++ (putM (2 : Nat) xs_7))) (1 : Nat))) ((Blk.mk BK.exact true (medM mk ty seq ti ss tc cs tx ex pad pl)) :: ((Blk.mk BK.grow true (ofBytes (bs_6 ++ (putM (2 : Nat) xs_7)))) :: ((Blk.mk BK.grow (oldL (0 : Nat) (List.flatten (List.replicate (Int.toNat n_3) ((AV.int .u8 (0 : Int)) :: [])))) (List.flatten (List.replicate (Int.toNat n_3) ((AV.int .u8 (0 : Int)) :: [])))) :: []))) (Gh.mk (0 : Nat) (0 : Nat) []))
else False)
else False)
else (bif (Nat.blt (0 : Nat) (Int.toNat n_3)) then (bif (((((Nat.beq (List.length (ofBytes (bs_6 ++ (putM (2 : Nat) xs_7)))) (List.length (bs_6 ++ (putM (2 : Nat) xs_7)))) && true) && (Nat.beq ((0 : Nat) + ((List.length (bs_6 ++ (putM (2 : Nat) xs_7))) * (1 : Nat))) (List.length (bs_6 ++ (putM (2 : Nat) xs_7))))) && (Nat.ble ((List.length (bs_6 ++ (putM (2 : Nat) xs_7))) + (Int.toNat n_3)) (1099511627776 : Nat))) && (Nat.ble (((List.length (bs_6 ++ (putM (2 : Nat) xs_7))) + (Int.toNat n_3)) * (1 : Nat)) (1099511627776 : Nat))) then (Q (Out.ret (AV.sl (1 : Nat) ((List.length (bs_6 ++ (putM (2 : Nat) xs_7))) + (List.length (List.take ((Int.toNat n_3) * (1 : Nat)) (List.drop (0 : Nat) (List.flatten (List.replicate (Int.toNat n_3) ((AV.int .u8 (0 : Int)) :: []))))))) (0 : Nat) ((List.length (bs_6 ++ (putM (2 : Nat) xs_7))) + (Int.toNat n_3)) (1 : Nat))) ((Blk.mk BK.exact true (medM mk ty seq ti ss tc cs tx ex pad pl)) :: ((Blk.mk BK.grow (oldL (0 : Nat) (List.take ((Int.toNat n_3) * (1 : Nat)) (List.drop (0 : Nat) (List.flatten (List.replicate (Int.toNat n_3) ((AV.int .u8 (0 : Int)) :: [])))))) ((ofBytes (bs_6 ++ (putM (2 : Nat) xs_7))) ++ (List.take ((Int.toNat n_3) * (1 : Nat)) (List.drop (0 : Nat) (List.flatten (List.replicate (Int.toNat n_3) ((AV.int .u8 (0 : Int)) :: []))))))) :: ((Blk.mk BK.grow (oldL (0 : Nat) (List.flatten (List.replicate (Int.toNat n_3) ((AV.int .u8 (0 : Int)) :: [])))) (List.flatten (List.replicate (Int.toNat n_3) ((AV.int .u8 (0 : Int)) :: [])))) :: []))) (Gh.mk (0 : Nat) (0 : Nat) []))
else False)
else False))
else False))))))))
else False)
else False)
else False))
else False)))))))))) ∧
 (∀ x_0 : Nat, ((Lf (((1 : Nat) ≤ x_0) ∧
 ((x_0 ≤ (List.length ex)) ∧
 (false = (shortM ex))))) →
(bif (decide ((Nat.cast x_0 : Int) < (Nat.cast (List.length ex) : Int))) then (bif ((Nat.blt (Int.toNat (Nat.cast x_0 : Int)) (List.length ex)) && true) then (bif (Nat.ble (((Int.toNat (Nat.cast x_0 : Int)) * (2 : Nat)) + (2 : Nat)) (List.length (cellsXM ex))) then (∃ n_1 : Int, (∃ s_2 : (List UInt8), (((AV.agg (List.take (2 : Nat) (List.drop ((Int.toNat (Nat.cast x_0 : Int)) * (2 : Nat)) (cellsXM ex)))) = (AV.agg ((AV.int .i64 n_1) :: ((AV.str s_2) :: [])))) ∧
 (∃ n_3 : Int, (((AV.int .i64 (Nat.cast (List.length s_2) : Int)) = (AV.int .i64 n_3)) ∧
 (∃ bs_4 : (List UInt8), (∃ xs_5 : (List Int), ((Lf (((GetElem?.getElem? ((Blk.mk BK.exact true (medM mk ty seq ti ss tc cs tx ex pad pl)) :: ((Blk.mk BK.grow true (ofBytes (headBM mk ty seq ti ss cs (List.length ex) pad))) :: ((Blk.mk BK.exact true (firstXM ex)) :: ((Blk.mk BK.grow true (ofBytes (extBM false (List.take x_0 ex)))) :: ((Blk.mk BK.exact true ((AV.int .i64 n_1) :: ((AV.str s_2) :: []))) :: []))))) (3 : Nat)) = (Option.some (Blk.mk BK.grow true (ofBytes bs_4)))) ∧
 (((List.length (extBM false (List.take x_0 ex))) = (List.length bs_4)) ∧
 (((List.length (extBM false (List.take x_0 ex))) = (List.length bs_4)) ∧
 (((List.length bs_4) ≤ (1000000 : Nat)) ∧
 ((((AV.int .i64 n_1) :: ((AV.int .i64 n_3) :: [])) = (cellsI xs_5)) ∧
 (((2 : Nat) = (List.length xs_5)) ∧
 (((1 : Int) ≤ (1 : Int)) ∧
 (((1 : Int) ≤ (7 : Int)) ∧
 ((List.length xs_5) ≤ (1000000 : Nat))))))))))) ∧
 (bif (((oneL (ofBytes s_2)) && true) && (Nat.ble ((List.length s_2) * (1 : Nat)) (1099511627776 : Nat))) then (bif (Nat.beq (List.length s_2) (0 : Nat)) then (bif (Nat.beq (List.length s_2) (0 : Nat)) then (bif ((Nat.beq (List.length (ofBytes (bs_4 ++ (putM (1 : Nat) xs_5)))) (List.length (bs_4 ++ (putM (1 : Nat) xs_5)))) && true) then (∃ n_6 : Int, (((AV.int .i64 (IntKind.wrap .i64 ((Nat.cast x_0 : Int) + (1 : Int)))) = (AV.int .i64 n_6)) ∧
 ((True ∧
 ((0 : Nat) = (0 : Nat))) ∧
 ((∃ y_7 : Nat, ((Lf ((y_7 = (0 : Nat)) ∧
 (false = (shortM ex)))) ∧
 ((((List.length ex) + (1 : Nat)) < ((List.length ex) - x_0)) ∧
 (vc_56_1 mk ty seq ti ss tc cs tx ex pad pl)))) ∨
 (∃ y_7 : Nat, ((Lf (((1 : Nat) ≤ y_7) ∧
 ((y_7 ≤ (List.length ex)) ∧
 (false = (shortM ex))))) ∧
 ((((List.length ex) - y_7) < ((List.length ex) - x_0)) ∧
 (((medM mk ty seq ti ss tc cs tx ex pad pl) = (medM mk ty seq ti ss tc cs tx ex pad pl)) ∧
 (((ofBytes (headBM mk ty seq ti ss cs (List.length ex) pad)) = (ofBytes (headBM mk ty seq ti ss cs (List.length ex) pad))) ∧
 (((firstXM ex) = (firstXM ex)) ∧
 (((ofBytes (bs_4 ++ (putM (1 : Nat) xs_5))) = (ofBytes (extBM false (List.take y_7 ex)))) ∧
 (((AV.int .i64 (4096 : Int)) = (AV.int .i64 (4096 : Int))) ∧
 (((AV.sl (1 : Nat) (List.length (headBM mk ty seq ti ss cs (List.length ex) pad)) (0 : Nat) (List.length (headBM mk ty seq ti ss cs (List.length ex) pad)) (1 : Nat)) = (AV.sl (1 : Nat) (List.length (headBM mk ty seq ti ss cs (List.length ex) pad)) (0 : Nat) (List.length (headBM mk ty seq ti ss cs (List.length ex) pad)) (1 : Nat))) ∧
 (((AV.int .i64 (Nat.cast (List.length ex) : Int)) = (AV.int .i64 (Nat.cast (List.length ex) : Int))) ∧
 (((AV.lst tx (cellsXM ex) (List.length ex) (2 : Nat)) = (AV.lst tx (cellsXM ex) (List.length ex) (2 : Nat))) ∧
 (((AV.sl (3 : Nat) (List.length (bs_4 ++ (putM (1 : Nat) xs_5))) (0 : Nat) (List.length (bs_4 ++ (putM (1 : Nat) xs_5))) (1 : Nat)) = (AV.sl (3 : Nat) (List.length (extBM false (List.take y_7 ex))) (0 : Nat) (List.length (extBM false (List.take y_7 ex))) (1 : Nat))) ∧
 (((AV.int .i64 n_6) = (AV.int .i64 (Nat.cast y_7 : Int))) ∧
 True)))))))))))))))))
else False)
else False)
else (bif (Nat.blt (0 : Nat) (List.length s_2)) then (bif (((((Nat.beq (List.length (ofBytes (bs_4 ++ (putM (1 : Nat) xs_5)))) (List.length (bs_4 ++ (putM (1 : Nat) xs_5)))) && true) && (Nat.beq ((0 : Nat) + ((List.length (bs_4 ++ (putM (1 : Nat) xs_5))) * (1 : Nat))) (List.length (bs_4 ++ (putM (1 : Nat) xs_5))))) && (Nat.ble ((List.length (bs_4 ++ (putM (1 : Nat) xs_5))) + (List.length s_2)) (1099511627776 : Nat))) && (Nat.ble (((List.length (bs_4 ++ (putM (1 : Nat) xs_5))) + (List.length s_2)) * (1 : Nat)) (1099511627776 : Nat))) then (∃ n_6 : Int, (((AV.int .i64 (IntKind.wrap .i64 ((Nat.cast x_0 : Int) + (1 : Int)))) = (AV.int .i64 n_6)) ∧
 (bif (((oldL (0 : Nat) (ofBytes s_2)) || (oldL (4 : Nat) ((ofBytes (bs_4 ++ (putM (1 : Nat) xs_5))) ++ (ofBytes s_2)))) && true) then ((True ∧
 ((0 : Nat) = (0 : Nat))) ∧
 ((∃ y_7 : Nat, ((Lf ((y_7 = (0 : Nat)) ∧
 (false = (shortM ex)))) ∧
 ((((List.length ex) + (1 : Nat)) < ((List.length ex) - x_0)) ∧
 (vc_56_1 mk ty seq ti ss tc cs tx ex pad pl)))) ∨
 (∃ y_7 : Nat, ((Lf (((1 : Nat) ≤ y_7) ∧
 ((y_7 ≤ (List.length ex)) ∧
 (false = (shortM ex))))) ∧
 ((((List.length ex) - y_7) < ((List.length ex) - x_0)) ∧
 (((medM mk ty seq ti ss tc cs tx ex pad pl) = (medM mk ty seq ti ss tc cs tx ex pad pl)) ∧
 (((ofBytes (headBM mk ty seq ti ss cs (List.length ex) pad)) = (ofBytes (headBM mk ty seq ti ss cs (List.length ex) pad))) ∧
 (((firstXM ex) = (firstXM ex)) ∧
 (bif ((oldL (0 : Nat) (ofBytes s_2)) == true) then ((((ofBytes (bs_4 ++ (putM (1 : Nat) xs_5))) ++ (ofBytes s_2)) = (ofBytes (extBM false (List.take y_7 ex)))) ∧
 (((AV.int .i64 (4096 : Int)) = (AV.int .i64 (4096 : Int))) ∧
 (((AV.sl (1 : Nat) (List.length (headBM mk ty seq ti ss cs (List.length ex) pad)) (0 : Nat) (List.length (headBM mk ty seq ti ss cs (List.length ex) pad)) (1 : Nat)) = (AV.sl (1 : Nat) (List.length (headBM mk ty seq ti ss cs (List.length ex) pad)) (0 : Nat) (List.length (headBM mk ty seq ti ss cs (List.length ex) pad)) (1 : Nat))) ∧
 (((AV.int .i64 (Nat.cast (List.length ex) : Int)) = (AV.int .i64 (Nat.cast (List.length ex) : Int))) ∧
 (((AV.lst tx (cellsXM ex) (List.length ex) (2 : Nat)) = (AV.lst tx (cellsXM ex) (List.length ex) (2 : Nat))) ∧
 (((AV.sl (3 : Nat) ((List.length (bs_4 ++ (putM (1 : Nat) xs_5))) + (List.length (ofBytes s_2))) (0 : Nat) ((List.length (bs_4 ++ (putM (1 : Nat) xs_5))) + (List.length s_2)) (1 : Nat)) = (AV.sl (3 : Nat) (List.length (extBM false (List.take y_7 ex))) (0 : Nat) (List.length (extBM false (List.take y_7 ex))) (1 : Nat))) ∧
 (((AV.int .i64 n_6) = (AV.int .i64 (Nat.cast y_7 : Int))) ∧
 True)))))))
else False)))))))))
else ((True ∧
 ((0 : Nat) = (0 : Nat))) ∧
 ((∃ y_7 : Nat, ((Lf ((y_7 = (0 : Nat)) ∧
 (false = (shortM ex)))) ∧
 ((((List.length ex) + (1 : Nat)) < ((List.length ex) - x_0)) ∧
 (vc_56_1 mk ty seq ti ss tc cs tx ex pad pl)))) ∨
 (∃ y_7 : Nat, ((Lf (((1 : Nat) ≤ y_7) ∧
 ((y_7 ≤ (List.length ex)) ∧
 (false = (shortM ex))))) ∧
 ((((List.length ex) - y_7) < ((List.length ex) - x_0)) ∧
 (((medM mk ty seq ti ss tc cs tx ex pad pl) = (medM mk ty seq ti ss tc cs tx ex pad pl)) ∧
 (((ofBytes (headBM mk ty seq ti ss cs (List.length ex) pad)) = (ofBytes (headBM mk ty seq ti ss cs (List.length ex) pad))) ∧
 (((firstXM ex) = (firstXM ex)) ∧
 (bif ((oldL (0 : Nat) (ofBytes s_2)) == true) then ((((ofBytes (bs_4 ++ (putM (1 : Nat) xs_5))) ++ (ofBytes s_2)) = (ofBytes (extBM false (List.take y_7 ex)))) ∧
 False)
else False))))))))))))
else False)
else False))
else False)))))))))
else False)
else False)
else (bif (Nat.beq (List.length (ofBytes (extBM false (List.take x_0 ex)))) (List.length (extBM false (List.take x_0 ex)))) then (∃ n_1 : Int, (((AV.int .i64 (Nat.cast (List.length (extBM false (List.take x_0 ex))) : Int)) = (AV.int .i64 n_1)) ∧
 (∃ n_2 : Int, (((AV.int .i64 (IntKind.wrap .i64 ((0 : Int) - n_1))) = (AV.int .i64 n_2)) ∧
 (∃ n_3 : Int, (((AV.int .i64 (IntKind.wrap .i64 (Nat.cast ((Int.toNat (n_2 % (18446744073709551616 : Int))) &&& (3 : Nat)) : Int))) = (AV.int .i64 n_3)) ∧
 (bif (((((decide ((0 : Int) ≤ n_3)) && (decide (n_3 ≤ (1099511627776 : Int)))) && (oneL (List.flatten (List.replicate (Int.toNat n_3) ((AV.int .u8 (0 : Int)) :: []))))) && true) && (Nat.ble ((Int.toNat n_3) * (1 : Nat)) (1099511627776 : Nat))) then (bif (decide (n_3 = (0 : Int))) then (bif (Nat.beq (Int.toNat n_3) (0 : Nat)) then (bif ((Nat.beq (List.length (ofBytes (extBM false (List.take x_0 ex)))) (List.length (extBM false (List.take x_0 ex)))) && true) then (bif (Nat.beq (List.length (ofBytes (extBM false (List.take x_0 ex)))) (List.length (extBM false (List.take x_0 ex)))) then (∃ n_4 : Int, (((AV.int .i64 (Nat.cast (List.length (extBM false (List.take x_0 ex))) : Int)) = (AV.int .i64 n_4)) ∧
 (∃ n_5 : Int, (((AV.int .i64 (IntKind.wrap .i64 (Int.tdiv n_4 (4 : Int)))) = (AV.int .i64 n_5)) ∧
 (∃ bs_6 : (List UInt8), (∃ xs_7 : (List Int), ((Lf (((GetElem?.getElem? ((Blk.mk BK.exact true (medM mk ty seq ti ss tc cs tx ex pad pl)) :: ((Blk.mk BK.grow true (ofBytes (headBM mk ty seq ti ss cs (List.length ex) pad))) :: ((Blk.mk BK.exact true (firstXM ex)) :: ((Blk.mk BK.grow true (ofBytes (extBM false (List.take x_0 ex)))) :: [])))) (1 : Nat)) = (Option.some (Blk.mk BK.grow true (ofBytes bs_6)))) ∧
 (((List.length (headBM mk ty seq ti ss cs (List.length ex) pad)) = (List.length bs_6)) ∧
 (((List.length (headBM mk ty seq ti ss cs (List.length ex) pad)) = (List.length bs_6)) ∧
 (((List.length bs_6) ≤ (1000000 : Nat)) ∧
 ((((AV.int .i64 (4096 : Int)) :: ((AV.int .i64 n_5) :: [])) = (cellsI xs_7)) ∧
 (((2 : Nat) = (List.length xs_7)) ∧
 (((1 : Int) ≤ (2 : Int)) ∧
 (((2 : Int) ≤ (7 : Int)) ∧
 ((List.length xs_7) ≤ (1000000 : Nat))))))))))) ∧
 (bif ((((((Nat.beq (List.length (ofBytes (extBM false (List.take x_0 ex)))) (List.length (extBM false (List.take x_0 ex)))) && true) && (Nat.ble ((0 : Nat) + ((List.length (extBM false (List.take x_0 ex))) * (1 : Nat))) (List.length (extBM false (List.take x_0 ex))))) && (oneL (List.take ((List.length (extBM false (List.take x_0 ex))) * (1 : Nat)) (List.drop (0 : Nat) (ofBytes (extBM false (List.take x_0 ex))))))) && true) && (Nat.ble ((List.length (extBM false (List.take x_0 ex))) * (1 : Nat)) (1099511627776 : Nat))) then (bif (Nat.beq (List.length (extBM false (List.take x_0 ex))) (0 : Nat)) then (bif (Nat.beq (List.length (extBM false (List.take x_0 ex))) (0 : Nat)) then (bif ((Nat.beq (List.length (ofBytes (bs_6 ++ (putM (2 : Nat) xs_7)))) (List.length (bs_6 ++ (putM (2 : Nat) xs_7)))) && true) then (Q (Out.ret (AV.sl (1 : Nat) (List.length (bs_6 ++ (putM (2 : Nat) xs_7))) (0 : Nat) (List.length (bs_6 ++ (putM (2 : Nat) xs_7))) (1 : Nat))) ((Blk.mk BK.exact true (medM mk ty seq ti ss tc cs tx ex pad pl)) :: ((Blk.mk BK.grow true (ofBytes (bs_6 ++ (putM (2 : Nat) xs_7)))) :: ((Blk.mk BK.exact true (firstXM ex)) :: ((Blk.mk BK.grow true (ofBytes (extBM false (List.take x_0 ex)))) :: [])))) (Gh.mk (0 : Nat) (0 : Nat) []))
else False)
else False)
else (bif (Nat.blt (0 : Nat) (List.length (extBM false (List.take x_0 ex)))) then (bif (((((Nat.beq (List.length (ofBytes (bs_6 ++ (putM (2 : Nat) xs_7)))) (List.length (bs_6 ++ (putM (2 : Nat) xs_7)))) && true) && (Nat.beq ((0 : Nat) + ((List.length (bs_6 ++ (putM (2 : Nat) xs_7))) * (1 : Nat))) (List.length (bs_6 ++ (putM (2 : Nat) xs_7))))) && (Nat.ble ((List.length (bs_6 ++ (putM (2 : Nat) xs_7))) + (List.length (extBM false (List.take x_0 ex)))) (1099511627776 : Nat))) && (Nat.ble (((List.length (bs_6 ++ (putM (2 : Nat) xs_7))) + (List.length (extBM false (List.take x_0 ex)))) * (1 : Nat)) (1099511627776 : Nat))) then (Q (Out.ret (AV.sl (1 : Nat) ((List.length (bs_6 ++ (putM (2 : Nat) xs_7))) + (List.length (List.take ((List.length (extBM false (List.take x_0 ex))) * (1 : Nat)) (List.drop (0 : Nat) (ofBytes (extBM false (List.take x_0 ex))))))) (0 : Nat) ((List.length (bs_6 ++ (putM (2 : Nat) xs_7))) + (List.length (extBM false (List.take x_0 ex)))) (1 : Nat))) ((Blk.mk BK.exact true (medM mk ty seq ti ss tc cs tx ex pad pl)) :: ((Blk.mk BK.grow (oldL (0 : Nat) (List.take ((List.length (extBM false (List.take x_0 ex))) * (1 : Nat)) (List.drop (0 : Nat) (ofBytes (extBM false (List.take x_0 ex)))))) ((ofBytes (bs_6 ++ (putM (2 : Nat) xs_7))) ++ (List.take ((List.length (extBM false (List.take x_0 ex))) * (1 : Nat)) (List.drop (0 : Nat) (ofBytes (extBM false (List.take x_0 ex))))))) :: ((Blk.mk BK.exact true (firstXM ex)) :: ((Blk.mk BK.grow true (ofBytes (extBM false (List.take x_0 ex)))) :: [])))) (Gh.mk (0 : Nat) (0 : Nat) []))
else False)
else False))
else False))))))))
else False)
else False)
else False)
else (bif (Nat.blt (0 : Nat) (Int.toNat n_3)) then (bif (((((Nat.beq (List.length (ofBytes (extBM false (List.take x_0 ex)))) (List.length (extBM false (List.take x_0 ex)))) && true) && (Nat.beq ((0 : Nat) + ((List.length (extBM false (List.take x_0 ex))) * (1 : Nat))) (List.length (extBM false (List.take x_0 ex))))) && (Nat.ble ((List.length (extBM false (List.take x_0 ex))) + (Int.toNat n_3)) (1099511627776 : Nat))) && (Nat.ble (((List.length (extBM false (List.take x_0 ex))) + (Int.toNat n_3)) * (1 : Nat)) (1099511627776 : Nat))) then (bif (Nat.beq (List.length ((ofBytes (extBM false (List.take x_0 ex))) ++ (List.flatten (List.replicate (Int.toNat n_3) ((AV.int .u8 (0 : Int)) :: []))))) ((List.length (extBM false (List.take x_0 ex))) + (List.length (List.flatten (List.replicate (Int.toNat n_3) ((AV.int .u8 (0 : Int)) :: [])))))) then (∃ n_4 : Int, (((AV.int .i64 (Nat.cast ((List.length (extBM false (List.take x_0 ex))) + (Int.toNat n_3)) : Int)) = (AV.int .i64 n_4)) ∧
 (∃ n_5 : Int, (((AV.int .i64 (IntKind.wrap .i64 (Int.tdiv n_4 (4 : Int)))) = (AV.int .i64 n_5)) ∧
 (∃ bs_6 : (List UInt8), (∃ xs_7 : (List Int), ((Lf (((GetElem?.getElem? ((Blk.mk BK.exact true (medM mk ty seq ti ss tc cs tx ex pad pl)) :: ((Blk.mk BK.grow true (ofBytes (headBM mk ty seq ti ss cs (List.length ex) pad))) :: ((Blk.mk BK.exact true (firstXM ex)) :: ((Blk.mk BK.grow (oldL (0 : Nat) (List.flatten (List.replicate (Int.toNat n_3) ((AV.int .u8 (0 : Int)) :: [])))) ((ofBytes (extBM false (List.take x_0 ex))) ++ (List.flatten (List.replicate (Int.toNat n_3) ((AV.int .u8 (0 : Int)) :: []))))) :: [])))) (1 : Nat)) = (Option.some (Blk.mk BK.grow true (ofBytes bs_6)))) ∧
 (((List.length (headBM mk ty seq ti ss cs (List.length ex) pad)) = (List.length bs_6)) ∧
 (((List.length (headBM mk ty seq ti ss cs (List.length ex) pad)) = (List.length bs_6)) ∧
 (((List.length bs_6) ≤ (1000000 : Nat)) ∧
 ((((AV.int .i64 (4096 : Int)) :: ((AV.int .i64 n_5) :: [])) = (cellsI xs_7)) ∧
 (((2 : Nat) = (List.length xs_7)) ∧
 (((1 : Int) ≤ (2 : Int)) ∧
 (((2 : Int) ≤ (7 : Int)) ∧
 ((List.length xs_7) ≤ (1000000 : Nat))))))))))) ∧
 (bif ((((((Nat.beq (List.length ((ofBytes (extBM false (List.take x_0 ex))) ++ (List.flatten (List.replicate (Int.toNat n_3) ((AV.int .u8 (0 : Int)) :: []))))) ((List.length (extBM false (List.take x_0 ex))) + (List.length (List.flatten (List.replicate (Int.toNat n_3) ((AV.int .u8 (0 : Int)) :: [])))))) && true) && (Nat.ble ((0 : Nat) + (((List.length (extBM false (List.take x_0 ex))) + (Int.toNat n_3)) * (1 : Nat))) ((List.length (extBM false (List.take x_0 ex))) + (List.length (List.flatten (List.replicate (Int.toNat n_3) ((AV.int .u8 (0 : Int)) :: []))))))) && (oneL (List.take (((List.length (extBM false (List.take x_0 ex))) + (Int.toNat n_3)) * (1 : Nat)) (List.drop (0 : Nat) ((ofBytes (extBM false (List.take x_0 ex))) ++ (List.flatten (List.replicate (Int.toNat n_3) ((AV.int .u8 (0 : Int)) :: [])))))))) && true) && (Nat.ble (((List.length (extBM false (List.take x_0 ex))) + (Int.toNat n_3)) * (1 : Nat)) (1099511627776 : Nat))) then (bif (Nat.beq ((List.length (extBM false (List.take x_0 ex))) + (Int.toNat n_3)) (0 : Nat)) then (bif (Nat.beq ((List.length (extBM false (List.take x_0 ex))) + (Int.toNat n_3)) (0 : Nat)) then (bif ((Nat.beq (List.length (ofBytes (bs_6 ++ (putM (2 : Nat) xs_7)))) (List.length (bs_6 ++ (putM (2 : Nat) xs_7)))) && true) then (Q (Out.ret (AV.sl (1 : Nat) (List.length (bs_6 ++ (putM (2 : Nat) xs_7))) (0 : Nat) (List.length (bs_6 ++ (putM (2 : Nat) xs_7))) (1 : Nat))) ((Blk.mk BK.exact true (medM mk ty seq ti ss tc cs tx ex pad pl)) :: ((Blk.mk BK.grow true (ofBytes (bs_6 ++ (putM (2 : Nat) xs_7)))) :: ((Blk.mk BK.exact true (firstXM ex)) :: ((Blk.mk BK.grow (oldL (0 : Nat) (List.flatten (List.replicate (Int.toNat n_3) ((AV.int .u8 (0 : Int)) :: [])))) ((ofBytes (extBM false (List.take x_0 ex))) ++ (List.flatten (List.replicate (Int.toNat n_3) ((AV.int .u8 (0 : Int)) :: []))))) :: [])))) (Gh.mk (0 : Nat) (0 : Nat) []))
else False)
else False)
else (bif (Nat.blt (0 : Nat) ((List.length (extBM false (List.take x_0 ex))) + (Int.toNat n_3))) then (bif (((((Nat.beq (List.length (ofBytes (bs_6 ++ (putM (2 : Nat) xs_7)))) (List.length (bs_6 ++ (putM (2 : Nat) xs_7)))) && true) && (Nat.beq ((0 : Nat) + ((List.length (bs_6 ++ (putM (2 : Nat) xs_7))) * (1 : Nat))) (List.length (bs_6 ++ (putM (2 : Nat) xs_7))))) && (Nat.ble ((List.length (bs_6 ++ (putM (2 : Nat) xs_7))) + ((List.length (extBM false (List.take x_0 ex))) + (Int.toNat n_3))) (1099511627776 : Nat))) && (Nat.ble (((List.length (bs_6 ++ (putM (2 : Nat) xs_7))) + ((List.length (extBM false (List.take x_0 ex))) + (Int.toNat n_3))) * (1 : Nat)) (1099511627776 : Nat))) then (Q (Out.ret (AV.sl (1 : Nat) ((List.length (bs_6 ++ (putM (2 : Nat) xs_7))) + (List.length (List.take (((List.length (extBM false (List.take x_0 ex))) + (Int.toNat n_3)) * (1 : Nat)) (List.drop (0 : Nat) ((ofBytes (extBM false (List.take x_0 ex))) ++ (List.flatten (List.replicate (Int.toNat n_3) ((AV.int .u8 (0 : Int)) :: [])))))))) (0 : Nat) ((List.length (bs_6 ++ (putM (2 : Nat) xs_7))) + ((List.length (extBM false (List.take x_0 ex))) + (Int.toNat n_3))) (1 : Nat))) ((Blk.mk BK.exact true (medM mk ty seq ti ss tc cs tx ex pad pl)) :: ((Blk.mk BK.grow (oldL (0 : Nat) (List.take (((List.length (extBM false (List.take x_0 ex))) + (Int.toNat n_3)) * (1 : Nat)) (List.drop (0 : Nat) ((ofBytes (extBM false (List.take x_0 ex))) ++ (List.flatten (List.replicate (Int.toNat n_3) ((AV.int .u8 (0 : Int)) :: []))))))) ((ofBytes (bs_6 ++ (putM (2 : Nat) xs_7))) ++ (List.take (((List.length (extBM false (List.take x_0 ex))) + (Int.toNat n_3)) * (1 : Nat)) (List.drop (0 : Nat) ((ofBytes (extBM false (List.take x_0 ex))) ++ (List.flatten (List.replicate (Int.toNat n_3) ((AV.int .u8 (0 : Int)) :: [])))))))) :: ((Blk.mk BK.exact true (firstXM ex)) :: ((Blk.mk BK.grow (oldL (0 : Nat) (List.flatten (List.replicate (Int.toNat n_3) ((AV.int .u8 (0 : Int)) :: [])))) ((ofBytes (extBM false (List.take x_0 ex))) ++ (List.flatten (List.replicate (Int.toNat n_3) ((AV.int .u8 (0 : Int)) :: []))))) :: [])))) (Gh.mk (0 : Nat) (0 : Nat) []))
else False)
else False))
else False))))))))
else False)
else False)
else False))
else False)))))))
else False))))))
@[reducible] def tailG (mk : Bool) (ty seq ti ss : Int) (tc : Nat) (cs : List Int) (tx : Nat) (ex : List Xt) (pad : Int) (pl : List UInt8) (bs : List UInt8) (xs : List Int) (Q : Out → List Blk → Gh → Prop) : Prop :=
(∃ n_13 : Int, (((AV.int .i64 (Nat.cast (List.length ex) : Int)) = (AV.int .i64 n_13)) ∧
 (bif (n_13 == (0 : Int)) then (Q (Out.ret (AV.sl (1 : Nat) (List.length (bs ++ (putM (4 : Nat) xs))) (0 : Nat) (List.length (bs ++ (putM (4 : Nat) xs))) (1 : Nat))) ((Blk.mk BK.exact true (medM mk ty seq ti ss tc cs tx ex pad pl)) :: ((Blk.mk BK.grow true (ofBytes (bs ++ (putM (4 : Nat) xs)))) :: [])) (Gh.mk (0 : Nat) (0 : Nat) []))
else (∃ ex_14 : (List Xt), ((Lf (((cellsXM ex) = (cellsXM ex_14)) ∧
 (((List.length ex) = (List.length ex_14)) ∧
 (((List.length ex_14) ≤ (1000000 : Nat)) ∧
 (dataM ex_14))))) ∧
 (bif (shortM ex_14) then (∃ n_15 : Int, (((AV.int .i64 (Nat.cast (List.length ex) : Int)) = (AV.int .i64 n_15)) ∧
 (((∃ x_16 : Nat, ((Lf ((x_16 = (0 : Nat)) ∧
 (true = (shortM ex)))) ∧
 (((medM mk ty seq ti ss tc cs tx ex pad pl) = (medM mk ty seq ti ss tc cs tx ex pad pl)) ∧
 (((ofBytes (bs ++ (putM (4 : Nat) xs))) = (ofBytes (headBM mk ty seq ti ss cs (List.length ex) pad))) ∧
 (((AV.int .i64 (48862 : Int)) = (AV.int .i64 (48862 : Int))) ∧
 (((AV.sl (1 : Nat) (List.length (bs ++ (putM (4 : Nat) xs))) (0 : Nat) (List.length (bs ++ (putM (4 : Nat) xs))) (1 : Nat)) = (AV.sl (1 : Nat) (List.length (headBM mk ty seq ti ss cs (List.length ex) pad)) (0 : Nat) (List.length (headBM mk ty seq ti ss cs (List.length ex) pad)) (1 : Nat))) ∧
 (((AV.int .i64 n_15) = (AV.int .i64 (Nat.cast (List.length ex) : Int))) ∧
 (((AV.lst tx (cellsXM ex) (List.length ex) (2 : Nat)) = (AV.lst tx (cellsXM ex) (List.length ex) (2 : Nat))) ∧
 ((AV.nils = AV.nils) ∧
 (((AV.int .i64 (0 : Int)) = (AV.int .i64 (Nat.cast x_16 : Int))) ∧
 True)))))))))) ∨
 (∃ x_16 : Nat, ((Lf (((1 : Nat) ≤ x_16) ∧
 ((x_16 ≤ (List.length ex)) ∧
 (true = (shortM ex))))) ∧
 (((medM mk ty seq ti ss tc cs tx ex pad pl) = (medM mk ty seq ti ss tc cs tx ex pad pl)) ∧
 (((ofBytes (bs ++ (putM (4 : Nat) xs))) = (ofBytes (headBM mk ty seq ti ss cs (List.length ex) pad))) ∧
 False))))) ∧
 (vc_56_4 mk ty seq ti ss tc cs tx ex pad pl Q))))
else (∃ n_15 : Int, (((AV.int .i64 (Nat.cast (List.length ex) : Int)) = (AV.int .i64 n_15)) ∧
 (((∃ x_16 : Nat, ((Lf ((x_16 = (0 : Nat)) ∧
 (false = (shortM ex)))) ∧
 (((medM mk ty seq ti ss tc cs tx ex pad pl) = (medM mk ty seq ti ss tc cs tx ex pad pl)) ∧
 (((ofBytes (bs ++ (putM (4 : Nat) xs))) = (ofBytes (headBM mk ty seq ti ss cs (List.length ex) pad))) ∧
 (((AV.int .i64 (4096 : Int)) = (AV.int .i64 (4096 : Int))) ∧
 (((AV.sl (1 : Nat) (List.length (bs ++ (putM (4 : Nat) xs))) (0 : Nat) (List.length (bs ++ (putM (4 : Nat) xs))) (1 : Nat)) = (AV.sl (1 : Nat) (List.length (headBM mk ty seq ti ss cs (List.length ex) pad)) (0 : Nat) (List.length (headBM mk ty seq ti ss cs (List.length ex) pad)) (1 : Nat))) ∧
 (((AV.int .i64 n_15) = (AV.int .i64 (Nat.cast (List.length ex) : Int))) ∧
 (((AV.lst tx (cellsXM ex) (List.length ex) (2 : Nat)) = (AV.lst tx (cellsXM ex) (List.length ex) (2 : Nat))) ∧
 ((AV.nils = AV.nils) ∧
 (((AV.int .i64 (0 : Int)) = (AV.int .i64 (Nat.cast x_16 : Int))) ∧
 True)))))))))) ∨
 (∃ x_16 : Nat, ((Lf (((1 : Nat) ≤ x_16) ∧
 ((x_16 ≤ (List.length ex)) ∧
 (false = (shortM ex))))) ∧
 (((medM mk ty seq ti ss tc cs tx ex pad pl) = (medM mk ty seq ti ss tc cs tx ex pad pl)) ∧
 (((ofBytes (bs ++ (putM (4 : Nat) xs))) = (ofBytes (headBM mk ty seq ti ss cs (List.length ex) pad))) ∧
 False))))) ∧
 (vc_56_6 mk ty seq ti ss tc cs tx ex pad pl Q))))))))))
theorem vc_56 (mk : Bool) (ty : Int) (seq : Int) (ti : Int) (ss : Int) (tc : Nat) (cs : List Int) (tx : Nat) (ex : List Xt) (pad : Int) (pl : List UInt8) (Q : Out → List Blk → Gh → Prop) : goal_56 (lookV [(229388, .int .i64), (229389, .int .i64), (229396, .int .i64), (229399, .int .i64), (229402, .int .i64), (229406, .int .i64), (229429, .int .i64), (229437, .int .i64), (229441, .agg [(.int .i64), (.str)]), (229447, .int .i64), (229450, .int .i64), (229451, .int .i64), (229452, .int .i64), (229467, .int .i64), (229470, .int .i64), (229471, .int .i64), (229472, .int .i64), (229477, .int .i64), (229478, .int .i64), (229460, .int .i64)]) (lookB []) mk ty seq ti ss tc cs tx ex pad pl Q = (
(∃ n_0 : Int, (((AV.int .i64 (Nat.cast (List.length cs) : Int)) = (AV.int .i64 n_0)) ∧
 (∃ n_1 : Int, (((AV.int .i64 (IntKind.wrap .i64 (Nat.cast ((128 : Nat) ||| (Int.toNat (n_0 % (18446744073709551616 : Int)))) : Int))) = (AV.int .i64 n_1)) ∧
 (bif (decide (pad > (0 : Int))) then (∃ n_2 : Int, (((AV.int .i64 (IntKind.wrap .i64 (Nat.cast ((Int.toNat (n_1 % (18446744073709551616 : Int))) ||| (32 : Nat)) : Int))) = (AV.int .i64 n_2)) ∧
 (∃ n_3 : Int, (((AV.int .i64 (Nat.cast (List.length ex) : Int)) = (AV.int .i64 n_3)) ∧
 (bif (decide (n_3 > (0 : Int))) then (∃ n_4 : Int, (((AV.int .i64 (IntKind.wrap .i64 (Nat.cast ((Int.toNat (n_2 % (18446744073709551616 : Int))) ||| (16 : Nat)) : Int))) = (AV.int .i64 n_4)) ∧
 (bif mk then (∃ n_5 : Int, (((AV.int .i64 (IntKind.wrap .i64 (Nat.cast ((Int.toNat (ty % (18446744073709551616 : Int))) ||| (128 : Nat)) : Int))) = (AV.int .i64 n_5)) ∧
 (∃ xs_6 : (List Int), ((Lf ((((AV.int .i64 n_4) :: ((AV.int .i64 n_5) :: [])) = (cellsI xs_6)) ∧
 (((2 : Nat) = (List.length xs_6)) ∧
 (((1 : Int) ≤ (1 : Int)) ∧
 (((1 : Int) ≤ (7 : Int)) ∧
 (((1 : Nat) ≤ (List.length xs_6)) ∧
 ((List.length xs_6) ≤ (1000000 : Nat)))))))) ∧
 (∃ bs_7 : (List UInt8), (∃ xs_8 : (List Int), ((Lf (((GetElem?.getElem? ((Blk.mk BK.exact true (medM mk ty seq ti ss tc cs tx ex pad pl)) :: ((Blk.mk BK.grow true (ofBytes (putM (1 : Nat) xs_6))) :: [])) (1 : Nat)) = (Option.some (Blk.mk BK.grow true (ofBytes bs_7)))) ∧
 (((List.length (putM (1 : Nat) xs_6)) = (List.length bs_7)) ∧
 (((List.length (putM (1 : Nat) xs_6)) = (List.length bs_7)) ∧
 (((List.length bs_7) ≤ (1000000 : Nat)) ∧
 ((((AV.int .i64 seq) :: []) = (cellsI xs_8)) ∧
 (((1 : Nat) = (List.length xs_8)) ∧
 (((1 : Int) ≤ (2 : Int)) ∧
 (((2 : Int) ≤ (7 : Int)) ∧
 ((List.length xs_8) ≤ (1000000 : Nat))))))))))) ∧
 (∃ bs_9 : (List UInt8), (∃ xs_10 : (List Int), ((Lf (((GetElem?.getElem? ((Blk.mk BK.exact true (medM mk ty seq ti ss tc cs tx ex pad pl)) :: ((Blk.mk BK.grow true (ofBytes (bs_7 ++ (putM (2 : Nat) xs_8)))) :: [])) (1 : Nat)) = (Option.some (Blk.mk BK.grow true (ofBytes bs_9)))) ∧
 (((List.length (bs_7 ++ (putM (2 : Nat) xs_8))) = (List.length bs_9)) ∧
 (((List.length (bs_7 ++ (putM (2 : Nat) xs_8))) = (List.length bs_9)) ∧
 (((List.length bs_9) ≤ (1000000 : Nat)) ∧
 ((((AV.int .i64 ti) :: ((AV.int .i64 ss) :: [])) = (cellsI xs_10)) ∧
 (((2 : Nat) = (List.length xs_10)) ∧
 (((1 : Int) ≤ (4 : Int)) ∧
 (((4 : Int) ≤ (7 : Int)) ∧
 ((List.length xs_10) ≤ (1000000 : Nat))))))))))) ∧
 (∃ bs_11 : (List UInt8), (∃ xs_12 : (List Int), ((Lf (((GetElem?.getElem? ((Blk.mk BK.exact true (medM mk ty seq ti ss tc cs tx ex pad pl)) :: ((Blk.mk BK.grow true (ofBytes (bs_9 ++ (putM (4 : Nat) xs_10)))) :: [])) (1 : Nat)) = (Option.some (Blk.mk BK.grow true (ofBytes bs_11)))) ∧
 (((List.length (bs_9 ++ (putM (4 : Nat) xs_10))) = (List.length bs_11)) ∧
 (((List.length (bs_9 ++ (putM (4 : Nat) xs_10))) = (List.length bs_11)) ∧
 (((List.length bs_11) ≤ (1000000 : Nat)) ∧
 (((cellsI cs) = (cellsI xs_12)) ∧
 (((List.length cs) = (List.length xs_12)) ∧
 (((1 : Int) ≤ (4 : Int)) ∧
 (((4 : Int) ≤ (7 : Int)) ∧
 ((List.length xs_12) ≤ (1000000 : Nat))))))))))) ∧
 (tailG mk ty seq ti ss tc cs tx ex pad pl bs_11 xs_12 Q))))))))))))))
else (∃ xs_5 : (List Int), ((Lf ((((AV.int .i64 n_4) :: ((AV.int .i64 ty) :: [])) = (cellsI xs_5)) ∧
 (((2 : Nat) = (List.length xs_5)) ∧
 (((1 : Int) ≤ (1 : Int)) ∧
 (((1 : Int) ≤ (7 : Int)) ∧
 (((1 : Nat) ≤ (List.length xs_5)) ∧
 ((List.length xs_5) ≤ (1000000 : Nat)))))))) ∧
 (∃ bs_6 : (List UInt8), (∃ xs_7 : (List Int), ((Lf (((GetElem?.getElem? ((Blk.mk BK.exact true (medM mk ty seq ti ss tc cs tx ex pad pl)) :: ((Blk.mk BK.grow true (ofBytes (putM (1 : Nat) xs_5))) :: [])) (1 : Nat)) = (Option.some (Blk.mk BK.grow true (ofBytes bs_6)))) ∧
 (((List.length (putM (1 : Nat) xs_5)) = (List.length bs_6)) ∧
 (((List.length (putM (1 : Nat) xs_5)) = (List.length bs_6)) ∧
 (((List.length bs_6) ≤ (1000000 : Nat)) ∧
 ((((AV.int .i64 seq) :: []) = (cellsI xs_7)) ∧
 (((1 : Nat) = (List.length xs_7)) ∧
 (((1 : Int) ≤ (2 : Int)) ∧
 (((2 : Int) ≤ (7 : Int)) ∧
 ((List.length xs_7) ≤ (1000000 : Nat))))))))))) ∧
 (∃ bs_8 : (List UInt8), (∃ xs_9 : (List Int), ((Lf (((GetElem?.getElem? ((Blk.mk BK.exact true (medM mk ty seq ti ss tc cs tx ex pad pl)) :: ((Blk.mk BK.grow true (ofBytes (bs_6 ++ (putM (2 : Nat) xs_7)))) :: [])) (1 : Nat)) = (Option.some (Blk.mk BK.grow true (ofBytes bs_8)))) ∧
 (((List.length (bs_6 ++ (putM (2 : Nat) xs_7))) = (List.length bs_8)) ∧
 (((List.length (bs_6 ++ (putM (2 : Nat) xs_7))) = (List.length bs_8)) ∧
 (((List.length bs_8) ≤ (1000000 : Nat)) ∧
 ((((AV.int .i64 ti) :: ((AV.int .i64 ss) :: [])) = (cellsI xs_9)) ∧
 (((2 : Nat) = (List.length xs_9)) ∧
 (((1 : Int) ≤ (4 : Int)) ∧
 (((4 : Int) ≤ (7 : Int)) ∧
 ((List.length xs_9) ≤ (1000000 : Nat))))))))))) ∧
 (∃ bs_10 : (List UInt8), (∃ xs_11 : (List Int), ((Lf (((GetElem?.getElem? ((Blk.mk BK.exact true (medM mk ty seq ti ss tc cs tx ex pad pl)) :: ((Blk.mk BK.grow true (ofBytes (bs_8 ++ (putM (4 : Nat) xs_9)))) :: [])) (1 : Nat)) = (Option.some (Blk.mk BK.grow true (ofBytes bs_10)))) ∧
 (((List.length (bs_8 ++ (putM (4 : Nat) xs_9))) = (List.length bs_10)) ∧
 (((List.length (bs_8 ++ (putM (4 : Nat) xs_9))) = (List.length bs_10)) ∧
 (((List.length bs_10) ≤ (1000000 : Nat)) ∧
 (((cellsI cs) = (cellsI xs_11)) ∧
 (((List.length cs) = (List.length xs_11)) ∧
 (((1 : Int) ≤ (4 : Int)) ∧
 (((4 : Int) ≤ (7 : Int)) ∧
 ((List.length xs_11) ≤ (1000000 : Nat))))))))))) ∧
 (tailG mk ty seq ti ss tc cs tx ex pad pl bs_10 xs_11 Q)))))))))))))))
else (bif mk then (∃ n_4 : Int, (((AV.int .i64 (IntKind.wrap .i64 (Nat.cast ((Int.toNat (ty % (18446744073709551616 : Int))) ||| (128 : Nat)) : Int))) = (AV.int .i64 n_4)) ∧
 (∃ xs_5 : (List Int), ((Lf ((((AV.int .i64 n_2) :: ((AV.int .i64 n_4) :: [])) = (cellsI xs_5)) ∧
 (((2 : Nat) = (List.length xs_5)) ∧
 (((1 : Int) ≤ (1 : Int)) ∧
 (((1 : Int) ≤ (7 : Int)) ∧
 (((1 : Nat) ≤ (List.length xs_5)) ∧
 ((List.length xs_5) ≤ (1000000 : Nat)))))))) ∧
 (∃ bs_6 : (List UInt8), (∃ xs_7 : (List Int), ((Lf (((GetElem?.getElem? ((Blk.mk BK.exact true (medM mk ty seq ti ss tc cs tx ex pad pl)) :: ((Blk.mk BK.grow true (ofBytes (putM (1 : Nat) xs_5))) :: [])) (1 : Nat)) = (Option.some (Blk.mk BK.grow true (ofBytes bs_6)))) ∧
 (((List.length (putM (1 : Nat) xs_5)) = (List.length bs_6)) ∧
 (((List.length (putM (1 : Nat) xs_5)) = (List.length bs_6)) ∧
 (((List.length bs_6) ≤ (1000000 : Nat)) ∧
 ((((AV.int .i64 seq) :: []) = (cellsI xs_7)) ∧
 (((1 : Nat) = (List.length xs_7)) ∧
 (((1 : Int) ≤ (2 : Int)) ∧
 (((2 : Int) ≤ (7 : Int)) ∧
 ((List.length xs_7) ≤ (1000000 : Nat))))))))))) ∧
 (∃ bs_8 : (List UInt8), (∃ xs_9 : (List Int), ((Lf (((GetElem?.getElem? ((Blk.mk BK.exact true (medM mk ty seq ti ss tc cs tx ex pad pl)) :: ((Blk.mk BK.grow true (ofBytes (bs_6 ++ (putM (2 : Nat) xs_7)))) :: [])) (1 : Nat)) = (Option.some (Blk.mk BK.grow true (ofBytes bs_8)))) ∧
 (((List.length (bs_6 ++ (putM (2 : Nat) xs_7))) = (List.length bs_8)) ∧
 (((List.length (bs_6 ++ (putM (2 : Nat) xs_7))) = (List.length bs_8)) ∧
 (((List.length bs_8) ≤ (1000000 : Nat)) ∧
 ((((AV.int .i64 ti) :: ((AV.int .i64 ss) :: [])) = (cellsI xs_9)) ∧
 (((2 : Nat) = (List.length xs_9)) ∧
 (((1 : Int) ≤ (4 : Int)) ∧
 (((4 : Int) ≤ (7 : Int)) ∧
 ((List.length xs_9) ≤ (1000000 : Nat))))))))))) ∧
 (∃ bs_10 : (List UInt8), (∃ xs_11 : (List Int), ((Lf (((GetElem?.getElem? ((Blk.mk BK.exact true (medM mk ty seq ti ss tc cs tx ex pad pl)) :: ((Blk.mk BK.grow true (ofBytes (bs_8 ++ (putM (4 : Nat) xs_9)))) :: [])) (1 : Nat)) = (Option.some (Blk.mk BK.grow true (ofBytes bs_10)))) ∧
 (((List.length (bs_8 ++ (putM (4 : Nat) xs_9))) = (List.length bs_10)) ∧
 (((List.length (bs_8 ++ (putM (4 : Nat) xs_9))) = (List.length bs_10)) ∧
 (((List.length bs_10) ≤ (1000000 : Nat)) ∧
 (((cellsI cs) = (cellsI xs_11)) ∧
 (((List.length cs) = (List.length xs_11)) ∧
 (((1 : Int) ≤ (4 : Int)) ∧
 (((4 : Int) ≤ (7 : Int)) ∧
 ((List.length xs_11) ≤ (1000000 : Nat))))))))))) ∧
 (tailG mk ty seq ti ss tc cs tx ex pad pl bs_10 xs_11 Q))))))))))))))
else (∃ xs_4 : (List Int), ((Lf ((((AV.int .i64 n_2) :: ((AV.int .i64 ty) :: [])) = (cellsI xs_4)) ∧
 (((2 : Nat) = (List.length xs_4)) ∧
 (((1 : Int) ≤ (1 : Int)) ∧
 (((1 : Int) ≤ (7 : Int)) ∧
 (((1 : Nat) ≤ (List.length xs_4)) ∧
 ((List.length xs_4) ≤ (1000000 : Nat)))))))) ∧
 (∃ bs_5 : (List UInt8), (∃ xs_6 : (List Int), ((Lf (((GetElem?.getElem? ((Blk.mk BK.exact true (medM mk ty seq ti ss tc cs tx ex pad pl)) :: ((Blk.mk BK.grow true (ofBytes (putM (1 : Nat) xs_4))) :: [])) (1 : Nat)) = (Option.some (Blk.mk BK.grow true (ofBytes bs_5)))) ∧
 (((List.length (putM (1 : Nat) xs_4)) = (List.length bs_5)) ∧
 (((List.length (putM (1 : Nat) xs_4)) = (List.length bs_5)) ∧
 (((List.length bs_5) ≤ (1000000 : Nat)) ∧
 ((((AV.int .i64 seq) :: []) = (cellsI xs_6)) ∧
 (((1 : Nat) = (List.length xs_6)) ∧
 (((1 : Int) ≤ (2 : Int)) ∧
 (((2 : Int) ≤ (7 : Int)) ∧
 ((List.length xs_6) ≤ (1000000 : Nat))))))))))) ∧
 (∃ bs_7 : (List UInt8), (∃ xs_8 : (List Int), ((Lf (((GetElem?.getElem? ((Blk.mk BK.exact true (medM mk ty seq ti ss tc cs tx ex pad pl)) :: ((Blk.mk BK.grow true (ofBytes (bs_5 ++ (putM (2 : Nat) xs_6)))) :: [])) (1 : Nat)) = (Option.some (Blk.mk BK.grow true (ofBytes bs_7)))) ∧
 (((List.length (bs_5 ++ (putM (2 : Nat) xs_6))) = (List.length bs_7)) ∧
 (((List.length (bs_5 ++ (putM (2 : Nat) xs_6))) = (List.length bs_7)) ∧
 (((List.length bs_7) ≤ (1000000 : Nat)) ∧
 ((((AV.int .i64 ti) :: ((AV.int .i64 ss) :: [])) = (cellsI xs_8)) ∧
 (((2 : Nat) = (List.length xs_8)) ∧
 (((1 : Int) ≤ (4 : Int)) ∧
 (((4 : Int) ≤ (7 : Int)) ∧
 ((List.length xs_8) ≤ (1000000 : Nat))))))))))) ∧
 (∃ bs_9 : (List UInt8), (∃ xs_10 : (List Int), ((Lf (((GetElem?.getElem? ((Blk.mk BK.exact true (medM mk ty seq ti ss tc cs tx ex pad pl)) :: ((Blk.mk BK.grow true (ofBytes (bs_7 ++ (putM (4 : Nat) xs_8)))) :: [])) (1 : Nat)) = (Option.some (Blk.mk BK.grow true (ofBytes bs_9)))) ∧
 (((List.length (bs_7 ++ (putM (4 : Nat) xs_8))) = (List.length bs_9)) ∧
 (((List.length (bs_7 ++ (putM (4 : Nat) xs_8))) = (List.length bs_9)) ∧
 (((List.length bs_9) ≤ (1000000 : Nat)) ∧
 (((cellsI cs) = (cellsI xs_10)) ∧
 (((List.length cs) = (List.length xs_10)) ∧
 (((1 : Int) ≤ (4 : Int)) ∧
 (((4 : Int) ≤ (7 : Int)) ∧
 ((List.length xs_10) ≤ (1000000 : Nat))))))))))) ∧
 (tailG mk ty seq ti ss tc cs tx ex pad pl bs_9 xs_10 Q))))))))))))))))))
else (∃ n_2 : Int, (((AV.int .i64 (Nat.cast (List.length ex) : Int)) = (AV.int .i64 n_2)) ∧
 (bif (decide (n_2 > (0 : Int))) then (∃ n_3 : Int, (((AV.int .i64 (IntKind.wrap .i64 (Nat.cast ((Int.toNat (n_1 % (18446744073709551616 : Int))) ||| (16 : Nat)) : Int))) = (AV.int .i64 n_3)) ∧
 (bif mk then (∃ n_4 : Int, (((AV.int .i64 (IntKind.wrap .i64 (Nat.cast ((Int.toNat (ty % (18446744073709551616 : Int))) ||| (128 : Nat)) : Int))) = (AV.int .i64 n_4)) ∧
 (∃ xs_5 : (List Int), ((Lf ((((AV.int .i64 n_3) :: ((AV.int .i64 n_4) :: [])) = (cellsI xs_5)) ∧
 (((2 : Nat) = (List.length xs_5)) ∧
 (((1 : Int) ≤ (1 : Int)) ∧
 (((1 : Int) ≤ (7 : Int)) ∧
 (((1 : Nat) ≤ (List.length xs_5)) ∧
 ((List.length xs_5) ≤ (1000000 : Nat)))))))) ∧
 (∃ bs_6 : (List UInt8), (∃ xs_7 : (List Int), ((Lf (((GetElem?.getElem? ((Blk.mk BK.exact true (medM mk ty seq ti ss tc cs tx ex pad pl)) :: ((Blk.mk BK.grow true (ofBytes (putM (1 : Nat) xs_5))) :: [])) (1 : Nat)) = (Option.some (Blk.mk BK.grow true (ofBytes bs_6)))) ∧
 (((List.length (putM (1 : Nat) xs_5)) = (List.length bs_6)) ∧
 (((List.length (putM (1 : Nat) xs_5)) = (List.length bs_6)) ∧
 (((List.length bs_6) ≤ (1000000 : Nat)) ∧
 ((((AV.int .i64 seq) :: []) = (cellsI xs_7)) ∧
 (((1 : Nat) = (List.length xs_7)) ∧
 (((1 : Int) ≤ (2 : Int)) ∧
 (((2 : Int) ≤ (7 : Int)) ∧
 ((List.length xs_7) ≤ (1000000 : Nat))))))))))) ∧
 (∃ bs_8 : (List UInt8), (∃ xs_9 : (List Int), ((Lf (((GetElem?.getElem? ((Blk.mk BK.exact true (medM mk ty seq ti ss tc cs tx ex pad pl)) :: ((Blk.mk BK.grow true (ofBytes (bs_6 ++ (putM (2 : Nat) xs_7)))) :: [])) (1 : Nat)) = (Option.some (Blk.mk BK.grow true (ofBytes bs_8)))) ∧
 (((List.length (bs_6 ++ (putM (2 : Nat) xs_7))) = (List.length bs_8)) ∧
 (((List.length (bs_6 ++ (putM (2 : Nat) xs_7))) = (List.length bs_8)) ∧
 (((List.length bs_8) ≤ (1000000 : Nat)) ∧
 ((((AV.int .i64 ti) :: ((AV.int .i64 ss) :: [])) = (cellsI xs_9)) ∧
 (((2 : Nat) = (List.length xs_9)) ∧
 (((1 : Int) ≤ (4 : Int)) ∧
 (((4 : Int) ≤ (7 : Int)) ∧
 ((List.length xs_9) ≤ (1000000 : Nat))))))))))) ∧
 (∃ bs_10 : (List UInt8), (∃ xs_11 : (List Int), ((Lf (((GetElem?.getElem? ((Blk.mk BK.exact true (medM mk ty seq ti ss tc cs tx ex pad pl)) :: ((Blk.mk BK.grow true (ofBytes (bs_8 ++ (putM (4 : Nat) xs_9)))) :: [])) (1 : Nat)) = (Option.some (Blk.mk BK.grow true (ofBytes bs_10)))) ∧
 (((List.length (bs_8 ++ (putM (4 : Nat) xs_9))) = (List.length bs_10)) ∧
 (((List.length (bs_8 ++ (putM (4 : Nat) xs_9))) = (List.length bs_10)) ∧
 (((List.length bs_10) ≤ (1000000 : Nat)) ∧
 (((cellsI cs) = (cellsI xs_11)) ∧
 (((List.length cs) = (List.length xs_11)) ∧
 (((1 : Int) ≤ (4 : Int)) ∧
 (((4 : Int) ≤ (7 : Int)) ∧
 ((List.length xs_11) ≤ (1000000 : Nat))))))))))) ∧
 (tailG mk ty seq ti ss tc cs tx ex pad pl bs_10 xs_11 Q))))))))))))))
else (∃ xs_4 : (List Int), ((Lf ((((AV.int .i64 n_3) :: ((AV.int .i64 ty) :: [])) = (cellsI xs_4)) ∧
 (((2 : Nat) = (List.length xs_4)) ∧
 (((1 : Int) ≤ (1 : Int)) ∧
 (((1 : Int) ≤ (7 : Int)) ∧
 (((1 : Nat) ≤ (List.length xs_4)) ∧
 ((List.length xs_4) ≤ (1000000 : Nat)))))))) ∧
 (∃ bs_5 : (List UInt8), (∃ xs_6 : (List Int), ((Lf (((GetElem?.getElem? ((Blk.mk BK.exact true (medM mk ty seq ti ss tc cs tx ex pad pl)) :: ((Blk.mk BK.grow true (ofBytes (putM (1 : Nat) xs_4))) :: [])) (1 : Nat)) = (Option.some (Blk.mk BK.grow true (ofBytes bs_5)))) ∧
 (((List.length (putM (1 : Nat) xs_4)) = (List.length bs_5)) ∧
 (((List.length (putM (1 : Nat) xs_4)) = (List.length bs_5)) ∧
 (((List.length bs_5) ≤ (1000000 : Nat)) ∧
 ((((AV.int .i64 seq) :: []) = (cellsI xs_6)) ∧
 (((1 : Nat) = (List.length xs_6)) ∧
 (((1 : Int) ≤ (2 : Int)) ∧
 (((2 : Int) ≤ (7 : Int)) ∧
 ((List.length xs_6) ≤ (1000000 : Nat))))))))))) ∧
 (∃ bs_7 : (List UInt8), (∃ xs_8 : (List Int), ((Lf (((GetElem?.getElem? ((Blk.mk BK.exact true (medM mk ty seq ti ss tc cs tx ex pad pl)) :: ((Blk.mk BK.grow true (ofBytes (bs_5 ++ (putM (2 : Nat) xs_6)))) :: [])) (1 : Nat)) = (Option.some (Blk.mk BK.grow true (ofBytes bs_7)))) ∧
 (((List.length (bs_5 ++ (putM (2 : Nat) xs_6))) = (List.length bs_7)) ∧
 (((List.length (bs_5 ++ (putM (2 : Nat) xs_6))) = (List.length bs_7)) ∧
 (((List.length bs_7) ≤ (1000000 : Nat)) ∧
 ((((AV.int .i64 ti) :: ((AV.int .i64 ss) :: [])) = (cellsI xs_8)) ∧
 (((2 : Nat) = (List.length xs_8)) ∧
 (((1 : Int) ≤ (4 : Int)) ∧
 (((4 : Int) ≤ (7 : Int)) ∧
 ((List.length xs_8) ≤ (1000000 : Nat))))))))))) ∧
 (∃ bs_9 : (List UInt8), (∃ xs_10 : (List Int), ((Lf (((GetElem?.getElem? ((Blk.mk BK.exact true (medM mk ty seq ti ss tc cs tx ex pad pl)) :: ((Blk.mk BK.grow true (ofBytes (bs_7 ++ (putM (4 : Nat) xs_8)))) :: [])) (1 : Nat)) = (Option.some (Blk.mk BK.grow true (ofBytes bs_9)))) ∧
 (((List.length (bs_7 ++ (putM (4 : Nat) xs_8))) = (List.length bs_9)) ∧
 (((List.length (bs_7 ++ (putM (4 : Nat) xs_8))) = (List.length bs_9)) ∧
 (((List.length bs_9) ≤ (1000000 : Nat)) ∧
 (((cellsI cs) = (cellsI xs_10)) ∧
 (((List.length cs) = (List.length xs_10)) ∧
 (((1 : Int) ≤ (4 : Int)) ∧
 (((4 : Int) ≤ (7 : Int)) ∧
 ((List.length xs_10) ≤ (1000000 : Nat))))))))))) ∧
 (tailG mk ty seq ti ss tc cs tx ex pad pl bs_9 xs_10 Q)))))))))))))))
else (bif mk then (∃ n_3 : Int, (((AV.int .i64 (IntKind.wrap .i64 (Nat.cast ((Int.toNat (ty % (18446744073709551616 : Int))) ||| (128 : Nat)) : Int))) = (AV.int .i64 n_3)) ∧
 (∃ xs_4 : (List Int), ((Lf ((((AV.int .i64 n_1) :: ((AV.int .i64 n_3) :: [])) = (cellsI xs_4)) ∧
 (((2 : Nat) = (List.length xs_4)) ∧
 (((1 : Int) ≤ (1 : Int)) ∧
 (((1 : Int) ≤ (7 : Int)) ∧
 (((1 : Nat) ≤ (List.length xs_4)) ∧
 ((List.length xs_4) ≤ (1000000 : Nat)))))))) ∧
 (∃ bs_5 : (List UInt8), (∃ xs_6 : (List Int), ((Lf (((GetElem?.getElem? ((Blk.mk BK.exact true (medM mk ty seq ti ss tc cs tx ex pad pl)) :: ((Blk.mk BK.grow true (ofBytes (putM (1 : Nat) xs_4))) :: [])) (1 : Nat)) = (Option.some (Blk.mk BK.grow true (ofBytes bs_5)))) ∧
 (((List.length (putM (1 : Nat) xs_4)) = (List.length bs_5)) ∧
 (((List.length (putM (1 : Nat) xs_4)) = (List.length bs_5)) ∧
 (((List.length bs_5) ≤ (1000000 : Nat)) ∧
 ((((AV.int .i64 seq) :: []) = (cellsI xs_6)) ∧
 (((1 : Nat) = (List.length xs_6)) ∧
 (((1 : Int) ≤ (2 : Int)) ∧
 (((2 : Int) ≤ (7 : Int)) ∧
 ((List.length xs_6) ≤ (1000000 : Nat))))))))))) ∧
 (∃ bs_7 : (List UInt8), (∃ xs_8 : (List Int), ((Lf (((GetElem?.getElem? ((Blk.mk BK.exact true (medM mk ty seq ti ss tc cs tx ex pad pl)) :: ((Blk.mk BK.grow true (ofBytes (bs_5 ++ (putM (2 : Nat) xs_6)))) :: [])) (1 : Nat)) = (Option.some (Blk.mk BK.grow true (ofBytes bs_7)))) ∧
 (((List.length (bs_5 ++ (putM (2 : Nat) xs_6))) = (List.length bs_7)) ∧
 (((List.length (bs_5 ++ (putM (2 : Nat) xs_6))) = (List.length bs_7)) ∧
 (((List.length bs_7) ≤ (1000000 : Nat)) ∧
 ((((AV.int .i64 ti) :: ((AV.int .i64 ss) :: [])) = (cellsI xs_8)) ∧
 (((2 : Nat) = (List.length xs_8)) ∧
 (((1 : Int) ≤ (4 : Int)) ∧
 (((4 : Int) ≤ (7 : Int)) ∧
 ((List.length xs_8) ≤ (1000000 : Nat))))))))))) ∧
 (∃ bs_9 : (List UInt8), (∃ xs_10 : (List Int), ((Lf (((GetElem?.getElem? ((Blk.mk BK.exact true (medM mk ty seq ti ss tc cs tx ex pad pl)) :: ((Blk.mk BK.grow true (ofBytes (bs_7 ++ (putM (4 : Nat) xs_8)))) :: [])) (1 : Nat)) = (Option.some (Blk.mk BK.grow true (ofBytes bs_9)))) ∧
 (((List.length (bs_7 ++ (putM (4 : Nat) xs_8))) = (List.length bs_9)) ∧
 (((List.length (bs_7 ++ (putM (4 : Nat) xs_8))) = (List.length bs_9)) ∧
 (((List.length bs_9) ≤ (1000000 : Nat)) ∧
 (((cellsI cs) = (cellsI xs_10)) ∧
 (((List.length cs) = (List.length xs_10)) ∧
 (((1 : Int) ≤ (4 : Int)) ∧
 (((4 : Int) ≤ (7 : Int)) ∧
 ((List.length xs_10) ≤ (1000000 : Nat))))))))))) ∧
 (tailG mk ty seq ti ss tc cs tx ex pad pl bs_9 xs_10 Q))))))))))))))
else (∃ xs_3 : (List Int), ((Lf ((((AV.int .i64 n_1) :: ((AV.int .i64 ty) :: [])) = (cellsI xs_3)) ∧
 (((2 : Nat) = (List.length xs_3)) ∧
 (((1 : Int) ≤ (1 : Int)) ∧
 (((1 : Int) ≤ (7 : Int)) ∧
 (((1 : Nat) ≤ (List.length xs_3)) ∧
 ((List.length xs_3) ≤ (1000000 : Nat)))))))) ∧
 (∃ bs_4 : (List UInt8), (∃ xs_5 : (List Int), ((Lf (((GetElem?.getElem? ((Blk.mk BK.exact true (medM mk ty seq ti ss tc cs tx ex pad pl)) :: ((Blk.mk BK.grow true (ofBytes (putM (1 : Nat) xs_3))) :: [])) (1 : Nat)) = (Option.some (Blk.mk BK.grow true (ofBytes bs_4)))) ∧
 (((List.length (putM (1 : Nat) xs_3)) = (List.length bs_4)) ∧
 (((List.length (putM (1 : Nat) xs_3)) = (List.length bs_4)) ∧
 (((List.length bs_4) ≤ (1000000 : Nat)) ∧
 ((((AV.int .i64 seq) :: []) = (cellsI xs_5)) ∧
 (((1 : Nat) = (List.length xs_5)) ∧
 (((1 : Int) ≤ (2 : Int)) ∧
 (((2 : Int) ≤ (7 : Int)) ∧
 ((List.length xs_5) ≤ (1000000 : Nat))))))))))) ∧
 (∃ bs_6 : (List UInt8), (∃ xs_7 : (List Int), ((Lf (((GetElem?.getElem? ((Blk.mk BK.exact true (medM mk ty seq ti ss tc cs tx ex pad pl)) :: ((Blk.mk BK.grow true (ofBytes (bs_4 ++ (putM (2 : Nat) xs_5)))) :: [])) (1 : Nat)) = (Option.some (Blk.mk BK.grow true (ofBytes bs_6)))) ∧
 (((List.length (bs_4 ++ (putM (2 : Nat) xs_5))) = (List.length bs_6)) ∧
 (((List.length (bs_4 ++ (putM (2 : Nat) xs_5))) = (List.length bs_6)) ∧
 (((List.length bs_6) ≤ (1000000 : Nat)) ∧
 ((((AV.int .i64 ti) :: ((AV.int .i64 ss) :: [])) = (cellsI xs_7)) ∧
 (((2 : Nat) = (List.length xs_7)) ∧
 (((1 : Int) ≤ (4 : Int)) ∧
 (((4 : Int) ≤ (7 : Int)) ∧
 ((List.length xs_7) ≤ (1000000 : Nat))))))))))) ∧
 (∃ bs_8 : (List UInt8), (∃ xs_9 : (List Int), ((Lf (((GetElem?.getElem? ((Blk.mk BK.exact true (medM mk ty seq ti ss tc cs tx ex pad pl)) :: ((Blk.mk BK.grow true (ofBytes (bs_6 ++ (putM (4 : Nat) xs_7)))) :: [])) (1 : Nat)) = (Option.some (Blk.mk BK.grow true (ofBytes bs_8)))) ∧
 (((List.length (bs_6 ++ (putM (4 : Nat) xs_7))) = (List.length bs_8)) ∧
 (((List.length (bs_6 ++ (putM (4 : Nat) xs_7))) = (List.length bs_8)) ∧
 (((List.length bs_8) ≤ (1000000 : Nat)) ∧
 (((cellsI cs) = (cellsI xs_9)) ∧
 (((List.length cs) = (List.length xs_9)) ∧
 (((1 : Int) ≤ (4 : Int)) ∧
 (((4 : Int) ≤ (7 : Int)) ∧
 ((List.length xs_9) ≤ (1000000 : Nat))))))))))) ∧
 (tailG mk ty seq ti ss tc cs tx ex pad pl bs_8 xs_9 Q)))))))))))))))))))))) := by kernel_rfl

/-! ## plain lemmas -/
theorem splitQ {a b : Nat} {A B : Prop} (h : a = b → A) (k : a ≠ b → B) : bif Nat.beq a b then A else B := by
  cases e : Nat.beq a b
  · exact k (Nat.ne_of_beq_eq_false e)
  · exact h (Nat.eq_of_beq_eq_true e)
theorem w64_in (n : Int) (h : -9223372036854775808 ≤ n ∧ n ≤ 9223372036854775807) : IntKind.wrap .i64 n = n := by rw [IntKind.wrap_i64]; omega
theorem orRR {x y : Int} {a b r : Nat} (hx : x = (a : Int)) (hy : y = (b : Int)) (ha : a ≤ 1000000) (hb : b ≤ 1000000) (hr : a ||| b = r) (hr2 : r ≤ 4000000) {K : Int → Prop} (h : K ((r : Nat) : Int)) : ∃ n : Int, AV.int .i64 (IntKind.wrap .i64 (((x % 18446744073709551616).toNat ||| (y % 18446744073709551616).toNat : Nat) : Int)) = AV.int .i64 n ∧ K n := by
  subst hx hy
  have e1 : ((a : Int) % 18446744073709551616).toNat = a := by omega
  have e2 : ((b : Int) % 18446744073709551616).toNat = b := by omega
  rw [e1, e2, hr]
  exact ⟨_, by rw [w64_in _ ⟨by omega, by omega⟩], h⟩
theorem orRL {x : Int} {a b r : Nat} (hx : x = (a : Int)) (ha : a ≤ 1000000) (hr : a ||| b = r) (hr2 : r ≤ 4000000) {K : Int → Prop} (h : K ((r : Nat) : Int)) : ∃ n : Int, AV.int .i64 (IntKind.wrap .i64 (((x % 18446744073709551616).toNat ||| b : Nat) : Int)) = AV.int .i64 n ∧ K n := by
  subst hx
  have e1 : ((a : Int) % 18446744073709551616).toNat = a := by omega
  rw [e1, hr]
  exact ⟨_, by rw [w64_in _ ⟨by omega, by omega⟩], h⟩
theorem orLR {x : Int} {a b r : Nat} (hx : x = (a : Int)) (ha : a ≤ 1000000) (hr : b ||| a = r) (hr2 : r ≤ 4000000) {K : Int → Prop} (h : K ((r : Nat) : Int)) : ∃ n : Int, AV.int .i64 (IntKind.wrap .i64 ((b ||| (x % 18446744073709551616).toNat : Nat) : Int)) = AV.int .i64 n ∧ K n := by
  subst hx
  have e1 : ((a : Int) % 18446744073709551616).toNat = a := by omega
  rw [e1, hr]
  exact ⟨_, by rw [w64_in _ ⟨by omega, by omega⟩], h⟩
theorem and3I {x : Int} {z : Nat} (hz : (z : Int) = x % 4) {K : Int → Prop} (h : K ((z : Nat) : Int)) : ∃ n : Int, AV.int .i64 (IntKind.wrap .i64 (((x % 18446744073709551616).toNat &&& 3 : Nat) : Int)) = AV.int .i64 n ∧ K n := by
  have e1 : ((x % 18446744073709551616).toNat &&& 3) = (x % 18446744073709551616).toNat % 4 := Nat.and_two_pow_sub_one_eq_mod _ 2
  have e2 : (x % 18446744073709551616).toNat % 4 = z := by omega
  rw [e1, e2]
  exact ⟨_, by rw [w64_in _ ⟨by omega, by omega⟩], h⟩
theorem tdI {x : Int} {m d : Nat} (hx : x = (m : Int)) (hm : m ≤ 1000000000) {K : Int → Prop} (h : K ((m / d : Nat) : Int)) : ∃ n : Int, AV.int .i64 (IntKind.wrap .i64 (Int.tdiv x (d : Int))) = AV.int .i64 n ∧ K n := by
  subst hx
  have e1 : Int.tdiv (m : Int) (d : Int) = ((m / d : Nat) : Int) := rfl
  have h2 : m / d ≤ m := Nat.div_le_self _ _
  rw [e1]
  generalize m / d = q at *
  exact ⟨_, by rw [w64_in _ ⟨by omega, by omega⟩], h⟩
theorem zer_of (n : Nat) : List.flatten (List.replicate n [AV.int .u8 0]) = ofBytes (List.replicate n 0) := by
  induction n with
  | zero => rfl
  | succ n ih => rw [List.replicate_succ, List.flatten_cons, ih, List.replicate_succ]; rfl
theorem extB_app (sh : Bool) (a b : List Xt) : extBM sh (a ++ b) = extBM sh a ++ extBM sh b := by
  induction a with
  | nil => rfl
  | cons x a ih => simp only [List.cons_append, extBM, ih, List.append_assoc]
def pieceM (sh : Bool) (x : Xt) : List UInt8 := if sh = true then putM 1 [x.1 * 16 + (x.2.length - 1)] else putM 1 [x.1, (x.2.length : Int)]
theorem extB_take (sh : Bool) {ex : List Xt} {i : Nat} (hi : i < ex.length) : extBM sh (ex.take (i + 1)) = extBM sh (ex.take i) ++ (pieceM sh ex[i] ++ ex[i].2) := by
  rw [List.take_add_one, List.getElem?_eq_getElem hi, Option.toList_some, extB_app, extBM, extBM, List.append_nil]
  rfl
theorem piece_len (sh : Bool) (x : Xt) : 1 ≤ (pieceM sh x).length ∧ (pieceM sh x).length ≤ 2 := by
  unfold pieceM
  split
  · rw [put_len]; simp
  · rw [put_len]; simp
theorem exts_all : ∀ (l : List Xt) (a : Int), 0 ≤ a → extsOkM a l = true → ∀ x ∈ l, 0 < x.1 ∧ x.1 ≤ 255 ∧ x.2.length ≤ 255
  | [], _, _, _, x, hx => by simp at hx
  | y :: l, a, ha, h, x, hx => by
    rw [extsOkM, Bool.and_eq_true, decide_eq_true_eq] at h
    rcases List.mem_cons.1 hx with rfl | hx
    · exact ⟨by omega, h.1.2.1, h.1.2.2⟩
    · exact exts_all l y.1 (by omega) h.2 x hx
theorem extB_len (sh : Bool) : ∀ (l : List Xt), (∀ x ∈ l, x.2.length ≤ 255) → (extBM sh l).length ≤ 257 * l.length
  | [], _ => by simp [extBM]
  | x :: l, h => by
    have h1 := extB_len sh l fun y hy => h y (by simp [hy])
    have h2 := h x (by simp)
    have h3 := piece_len sh x
    have e : extBM sh (x :: l) = pieceM sh x ++ x.2 ++ extBM sh l := rfl
    rw [e, List.length_append, List.length_append, List.length_cons]
    omega
theorem short_at {ex : List Xt} (h : shortM ex = true) : ∀ x ∈ ex, x.1 ≤ 14 ∧ 1 ≤ x.2.length ∧ x.2.length ≤ 16 := fun x hx => by
  have h1 : ex.any isLongM = false := by rw [shortM, Bool.not_eq_true'] at h; exact h
  have h2 := List.any_eq_false.1 h1 x hx
  simp only [isLongM, Bool.or_eq_true, decide_eq_true_eq, not_or] at h2
  omega
theorem firstX_of {ex : List Xt} (h : 0 < ex.length) : firstXM ex = [.int .i64 ex[0].1, .str ex[0].2] := by
  have := cellsX_at h (m := 0) (by omega)
  simpa [firstXM] using this
theorem or16 (a b : Nat) (hb : b < 16) : a * 16 ||| b = a * 16 + b := by
  have := Nat.two_pow_add_eq_or_of_lt (i := 4) hb a
  rw [show (2 : Nat) ^ 4 = 16 from rfl, Nat.mul_comm 16 a] at this
  exact this.symm
theorem head_len (mk : Bool) (ty seq ti ss : Int) (cs : List Int) (n : Nat) (pad : Int) : (headBM mk ty seq ti ss cs n pad).length = 12 + 4 * cs.length := by
  unfold headBM
  simp only [List.length_append, put_len, List.length_cons, List.length_nil]
/-- the end: the extensions behind the head -/
def endOk (mk : Bool) (ty seq ti ss : Int) (tc : Nat) (cs : List Int) (tx : Nat) (ex : List Xt) (pad : Int) (pl : List UInt8) (Q : Out → List Blk → Gh → Prop) : Prop :=
  ∀ (tot len : Nat) (lf : Bool) (c : List AV) (g : List Blk), tot = (headM mk ty seq ti ss cs ex pad).length → len = (headM mk ty seq ti ss cs ex pad).length → lf = true → c = ofBytes (headM mk ty seq ti ss cs ex pad) → Q (.ret (.sl 1 tot 0 len 1)) (⟨.exact, true, medM mk ty seq ti ss tc cs tx ex pad pl⟩ :: ⟨.grow, lf, c⟩ :: g) {}
theorem ckI2 {b : Bool} {A B : Prop} (h : b = true) (k : A) : bif b then A else B := by rw [h]; exact k
theorem loopT (mk : Bool) (ty seq ti ss : Int) (tc : Nat) (cs : List Int) (tx : Nat) (ex : List Xt) (pad : Int) (pl : List UInt8) (Q : Out → List Blk → Gh → Prop) (hcs : cs.length ≤ 15) (hex : ex.length ≤ 16) (hne : 0 < ex.length) (hx : extsOkM 0 ex = true) (hq : endOk mk ty seq ti ss tc cs tx ex pad pl Q) : vc_56_4 mk ty seq ti ss tc cs tx ex pad pl Q := by
  have hall := exts_all ex 0 (Int.le_refl _) hx
  have hhl := head_len mk ty seq ti ss cs ex.length pad
  refine ⟨?_, ?_⟩
  · rintro _ ⟨rfl, hsh⟩
    have hs := short_at hsh.symm
    refine splitD (fun _ => ?_) (fun h => by exfalso; omega)
    have hm := List.getElem_mem hne
    have ha := hall _ hm
    have hs0 := hs _ hm
    have fx := firstX_of hne
    have et := extB_take true hne
    have pl1 := piece_len true ex[0]
    rw [List.take_zero, extBM, List.nil_append] at et
    refine ckI (by simp; omega) (ckI (by rw [cellsX_len]; simp; omega) (getX hne (by simp) (wrapI (by omega) (by omega) ⟨_, rfl, wrapI (by omega) (by omega) ?_⟩)))
    obtain ⟨id, hid⟩ : ∃ n : Nat, ex[0].1 = n := ⟨ex[0].1.toNat, by omega⟩
    have hp : putM 1 [((id * 16 + (ex[0].2.length - 1) : Nat) : Int)] = pieceM true ex[0] := by
      rw [pieceM, if_pos rfl, hid]
      congr 2
      omega
    refine orRR (a := id * 16) (b := ex[0].2.length - 1) (r := id * 16 + (ex[0].2.length - 1)) (by omega) (by omega) (by omega) (by omega) (or16 _ _ (by omega)) (by omega) ⟨[((id * 16 + (ex[0].2.length - 1) : Nat) : Int)], ⟨rfl, rfl, by omega, by omega, by simp, by simp⟩, ?_⟩
    rw [hp]
    refine ckI (by rw [oneL_ofB]; simp; omega) (splitQ (fun h => by exfalso; omega) (fun h => ckI (bltQ_iff.2 (by omega)) (ckI (by simp [ofB_len]; omega) (wrapI (by omega) (by omega) ⟨⟨trivial, rfl⟩, .inr ⟨1, ⟨by omega, by omega, hsh⟩, by omega, rfl, rfl, fx.symm, ckI (by rw [oldL_ofB]; rfl) ⟨by rw [ofB_app, et], rfl, rfl, rfl, rfl, by rw [et, List.length_append, ofB_len], rfl, trivial⟩⟩⟩))))
  · rintro i ⟨h1i, hi, hsh⟩
    have hs := short_at hsh.symm
    refine splitD (fun hlt => ?_) (fun hge => ?_)
    · have hlt' : i < ex.length := by omega
      have hm := List.getElem_mem hlt'
      have ha := hall _ hm
      have hs0 := hs _ hm
      have et := extB_take true hlt'
      have pl1 := piece_len true ex[i]
      have hXl := extB_len true (ex.take i) fun x hx => (hall x (List.mem_of_mem_take hx)).2.2
      rw [List.length_take, Nat.min_eq_left hi] at hXl
      refine ckI (by simp; omega) (ckI (by rw [cellsX_len]; simp; omega) (getX hlt' (by simp) (wrapI (by omega) (by omega) ⟨_, rfl, wrapI (by omega) (by omega) ?_⟩)))
      obtain ⟨id, hid⟩ : ∃ n : Nat, ex[i].1 = n := ⟨ex[i].1.toNat, by omega⟩
      have hp : putM 1 [((id * 16 + (ex[i].2.length - 1) : Nat) : Int)] = pieceM true ex[i] := by
        rw [pieceM, if_pos rfl, hid]
        congr 2
        omega
      refine orRR (a := id * 16) (b := ex[i].2.length - 1) (r := id * 16 + (ex[i].2.length - 1)) (by omega) (by omega) (by omega) (by omega) (or16 _ _ (by omega)) (by omega) ⟨extBM true (ex.take i), [((id * 16 + (ex[i].2.length - 1) : Nat) : Int)], ⟨rfl, rfl, rfl, by omega, rfl, rfl, by omega, by omega, by simp⟩, ?_⟩
      rw [hp]
      refine ckI (by rw [oneL_ofB]; simp; omega) (splitQ (fun h => by exfalso; omega) (fun h => ckI (bltQ_iff.2 (by omega)) (ckI (by simp [ofB_len]; omega) (wrapI (by omega) (by omega) (ckI2 (by rw [oldL_ofB]; rfl) ⟨⟨trivial, rfl⟩, .inr ⟨i + 1, ⟨by omega, by omega, hsh⟩, by omega, rfl, rfl, rfl, ckI (by rw [oldL_ofB]; rfl) ⟨by rw [ofB_app, et, List.append_assoc], rfl, rfl, rfl, rfl, by rw [et, ofB_len, List.length_append, List.length_append, List.length_append, Nat.add_assoc], rfl, trivial⟩⟩⟩)))))
    · have hi : i = ex.length := by omega
      subst hi
      rw [List.take_length]
      have hel := extB_len true ex fun x hx => (hall x hx).2.2
      have hE1 : 1 ≤ (extBM true ex).length := by
        have e1 := extB_take true (ex := ex) (i := ex.length - 1) (by omega)
        have e2 := piece_len true ex[ex.length - 1]
        rw [show ex.length - 1 + 1 = ex.length by omega, List.take_length] at e1
        rw [e1, List.length_append, List.length_append]
        omega
      have hq := hq
      unfold endOk headM extPM at hq
      rw [if_neg (by omega), ← hsh] at hq
      generalize hE : extBM true ex = E at *
      have hz : ∃ z : Nat, z = (4 - E.length % 4) % 4 := ⟨_, rfl⟩
      obtain ⟨z, hz⟩ := hz
      have hzz : zerosM E.length = List.replicate z 0 := by rw [zerosM, hz]
      rw [hzz] at hq
      have hZ : (List.replicate z (0 : UInt8)).length = z := List.length_replicate
      refine ckI (by rw [ofB_len]; simp) ⟨_, rfl, wrapI (by omega) (by omega) (and3I (z := z) (by omega) ?_)⟩
      simp only [zer_of, Int.toNat_natCast]
      refine ckI (by rw [oneL_ofB]; simp; omega) (splitD (fun h0 => ?_) (fun h0 => ?_))
      · have hz0 : z = 0 := by omega
        subst hz0
        simp only [List.replicate_zero, List.append_nil] at hq
        refine ckI rfl (ckI (by rw [ofB_len]; simp) (ckI (by rw [ofB_len]; simp) ⟨_, rfl, tdI (m := E.length) rfl (by omega) ⟨headBM mk ty seq ti ss cs ex.length pad, [48862, ((E.length / 4 : Nat) : Int)], ⟨rfl, rfl, rfl, by omega, rfl, rfl, by omega, by omega, by simp⟩, ?_⟩⟩))
        refine ckI ?_ (splitQ (fun h => by exfalso; omega) (fun h => ckI (bltQ_iff.2 (by omega)) (ckI ?_ (hq _ _ _ _ _ ?_ ?_ ?_ ?_))))
        · have e1 : List.take (E.length * 1) (List.drop 0 (ofBytes E)) = ofBytes E := by rw [List.drop_zero, List.take_of_length_le (by rw [ofB_len]; omega)]
          rw [e1, oneL_ofB, ofB_len]; simp; omega
        · simp only [ofB_len, List.length_append, put_len, List.length_cons, List.length_nil]; simp; omega
        · rw [Nat.mul_one, List.drop_zero, List.take_of_length_le (by rw [ofB_len]; omega), ofB_len]
          simp only [List.length_append, put_len, profM]
          simp
          omega
        · simp only [List.length_append, put_len, profM]
          simp
          omega
        · rw [Nat.mul_one, List.drop_zero, List.take_of_length_le (by rw [ofB_len]; omega), oldL_ofB]
        · rw [Nat.mul_one, List.drop_zero, List.take_of_length_le (by rw [ofB_len]; omega), ofB_app, List.append_assoc]
          rfl
      · have hz1 : 1 ≤ z := by omega
        have hEZ : (E ++ List.replicate z (0 : UInt8)).length = E.length + z := by rw [List.length_append, hZ]
        refine ckI (bltQ_iff.2 (by omega)) (ckI (by rw [ofB_len]; simp; omega) (ckI (by rw [ofB_app, ofB_len, ofB_len, List.length_append]; simp) ⟨_, rfl, tdI (m := E.length + z) (by omega) (by omega) ⟨headBM mk ty seq ti ss cs ex.length pad, [48862, (((E.length + z) / 4 : Nat) : Int)], ⟨rfl, rfl, rfl, by omega, rfl, rfl, by omega, by omega, by simp⟩, ?_⟩⟩))
        have e1 : List.take ((E.length + z) * 1) (List.drop 0 (ofBytes (E ++ List.replicate z (0 : UInt8)))) = ofBytes (E ++ List.replicate z 0) := by rw [List.drop_zero, List.take_of_length_le (by rw [ofB_len, hEZ]; omega)]
        rw [ofB_app, e1]
        refine ckI ?_ (splitQ (fun h => by exfalso; omega) (fun h => ckI (bltQ_iff.2 (by omega)) (ckI ?_ (hq _ _ _ _ _ ?_ ?_ ?_ ?_))))
        · rw [oneL_ofB, ofB_len, ofB_len, hEZ, hZ]; simp; omega
        · simp only [ofB_len, List.length_append, put_len, List.length_cons, List.length_nil]; simp; omega
        · rw [ofB_len]
          simp only [List.length_append, put_len, profM, hZ]
          simp
          omega
        · simp only [List.length_append, put_len, profM, hZ]
          simp
          omega
        · rw [oldL_ofB]
        · rw [ofB_app, List.append_assoc, List.length_append, hZ]
          rfl
theorem loopF (mk : Bool) (ty seq ti ss : Int) (tc : Nat) (cs : List Int) (tx : Nat) (ex : List Xt) (pad : Int) (pl : List UInt8) (Q : Out → List Blk → Gh → Prop) (hcs : cs.length ≤ 15) (hex : ex.length ≤ 16) (hne : 0 < ex.length) (hx : extsOkM 0 ex = true) (hq : endOk mk ty seq ti ss tc cs tx ex pad pl Q) : vc_56_6 mk ty seq ti ss tc cs tx ex pad pl Q := by
  have hall := exts_all ex 0 (Int.le_refl _) hx
  have hhl := head_len mk ty seq ti ss cs ex.length pad
  refine ⟨?_, ?_⟩
  · rintro _ ⟨rfl, hsh⟩
    refine splitD (fun _ => ?_) (fun h => by exfalso; omega)
    have hm := List.getElem_mem hne
    have ha := hall _ hm
    have fx := firstX_of hne
    have et := extB_take false hne
    have pl1 := piece_len false ex[0]
    rw [List.take_zero, extBM, List.nil_append] at et
    have hp : putM 1 [ex[0].1, (ex[0].2.length : Int)] = pieceM false ex[0] := by rw [pieceM, if_neg (by simp)]
    refine ckI (by simp; omega) (ckI (by rw [cellsX_len]; simp; omega) (getX hne (by simp) ⟨_, rfl, [ex[0].1, (ex[0].2.length : Int)], ⟨rfl, rfl, by omega, by omega, by simp, by simp⟩, ?_⟩))
    rw [hp]
    refine ckI (by rw [oneL_ofB]; simp; omega) (splitQ (fun h => ?_) (fun h => ckI (bltQ_iff.2 (by omega)) (ckI (by simp [ofB_len]; omega) (wrapI (by omega) (by omega) ⟨⟨trivial, rfl⟩, .inr ⟨1, ⟨by omega, by omega, hsh⟩, by omega, rfl, rfl, fx.symm, ckI (by rw [oldL_ofB]; rfl) ⟨by rw [ofB_app, et], rfl, rfl, rfl, rfl, by rw [et, List.length_append, ofB_len], rfl, trivial⟩⟩⟩))))
    have hnil : ex[0].2 = [] := List.length_eq_zero_iff.1 h
    rw [hnil, List.append_nil] at et
    exact ckI (by rw [h]; rfl) (ckI (by simp [ofB_len]) (wrapI (by omega) (by omega) ⟨⟨trivial, rfl⟩, .inr ⟨1, ⟨by omega, by omega, hsh⟩, by omega, rfl, rfl, fx.symm, by rw [et], rfl, rfl, rfl, rfl, by rw [et], rfl, trivial⟩⟩))
  · rintro i ⟨h1i, hi, hsh⟩
    refine splitD (fun hlt => ?_) (fun hge => ?_)
    · have hlt' : i < ex.length := by omega
      have hm := List.getElem_mem hlt'
      have ha := hall _ hm
      have et := extB_take false hlt'
      have pl1 := piece_len false ex[i]
      have hXl := extB_len false (ex.take i) fun x hx => (hall x (List.mem_of_mem_take hx)).2.2
      rw [List.length_take, Nat.min_eq_left hi] at hXl
      have hp : putM 1 [ex[i].1, (ex[i].2.length : Int)] = pieceM false ex[i] := by rw [pieceM, if_neg (by simp)]
      refine ckI (by simp; omega) (ckI (by rw [cellsX_len]; simp; omega) (getX hlt' (by simp) ⟨_, rfl, extBM false (ex.take i), [ex[i].1, (ex[i].2.length : Int)], ⟨rfl, rfl, rfl, by omega, rfl, rfl, by omega, by omega, by simp⟩, ?_⟩))
      rw [hp]
      refine ckI (by rw [oneL_ofB]; simp; omega) (splitQ (fun h => ?_) (fun h => ckI (bltQ_iff.2 (by omega)) (ckI (by simp [ofB_len]; omega) (wrapI (by omega) (by omega) (ckI2 (by rw [oldL_ofB]; rfl) ⟨⟨trivial, rfl⟩, .inr ⟨i + 1, ⟨by omega, by omega, hsh⟩, by omega, rfl, rfl, rfl, ckI (by rw [oldL_ofB]; rfl) ⟨by rw [ofB_app, et, List.append_assoc], rfl, rfl, rfl, rfl, by rw [et, ofB_len, List.length_append, List.length_append, List.length_append, Nat.add_assoc], rfl, trivial⟩⟩⟩)))))
      have hnil : ex[i].2 = [] := List.length_eq_zero_iff.1 h
      rw [hnil, List.append_nil] at et
      exact ckI (by rw [h]; rfl) (ckI (by simp [ofB_len]) (wrapI (by omega) (by omega) ⟨⟨trivial, rfl⟩, .inr ⟨i + 1, ⟨by omega, by omega, hsh⟩, by omega, rfl, rfl, rfl, by rw [et], rfl, rfl, rfl, rfl, by rw [et], rfl, trivial⟩⟩))
    · have hi : i = ex.length := by omega
      subst hi
      rw [List.take_length]
      have hel := extB_len false ex fun x hx => (hall x hx).2.2
      have hE1 : 1 ≤ (extBM false ex).length := by
        have e1 := extB_take false (ex := ex) (i := ex.length - 1) (by omega)
        have e2 := piece_len false ex[ex.length - 1]
        rw [show ex.length - 1 + 1 = ex.length by omega, List.take_length] at e1
        rw [e1, List.length_append, List.length_append]
        omega
      have hq := hq
      unfold endOk headM extPM at hq
      rw [if_neg (by omega), ← hsh] at hq
      generalize hE : extBM false ex = E at *
      have hz : ∃ z : Nat, z = (4 - E.length % 4) % 4 := ⟨_, rfl⟩
      obtain ⟨z, hz⟩ := hz
      have hzz : zerosM E.length = List.replicate z 0 := by rw [zerosM, hz]
      rw [hzz] at hq
      have hZ : (List.replicate z (0 : UInt8)).length = z := List.length_replicate
      refine ckI (by rw [ofB_len]; simp) ⟨_, rfl, wrapI (by omega) (by omega) (and3I (z := z) (by omega) ?_)⟩
      simp only [zer_of, Int.toNat_natCast]
      refine ckI (by rw [oneL_ofB]; simp; omega) (splitD (fun h0 => ?_) (fun h0 => ?_))
      · have hz0 : z = 0 := by omega
        subst hz0
        simp only [List.replicate_zero, List.append_nil] at hq
        refine ckI rfl (ckI (by rw [ofB_len]; simp) (ckI (by rw [ofB_len]; simp) ⟨_, rfl, tdI (m := E.length) rfl (by omega) ⟨headBM mk ty seq ti ss cs ex.length pad, [4096, ((E.length / 4 : Nat) : Int)], ⟨rfl, rfl, rfl, by omega, rfl, rfl, by omega, by omega, by simp⟩, ?_⟩⟩))
        refine ckI ?_ (splitQ (fun h => by exfalso; omega) (fun h => ckI (bltQ_iff.2 (by omega)) (ckI ?_ (hq _ _ _ _ _ ?_ ?_ ?_ ?_))))
        · have e1 : List.take (E.length * 1) (List.drop 0 (ofBytes E)) = ofBytes E := by rw [List.drop_zero, List.take_of_length_le (by rw [ofB_len]; omega)]
          rw [e1, oneL_ofB, ofB_len]; simp; omega
        · simp only [ofB_len, List.length_append, put_len, List.length_cons, List.length_nil]; simp; omega
        · rw [Nat.mul_one, List.drop_zero, List.take_of_length_le (by rw [ofB_len]; omega), ofB_len]
          simp only [List.length_append, put_len, profM]
          simp
          omega
        · simp only [List.length_append, put_len, profM]
          simp
          omega
        · rw [Nat.mul_one, List.drop_zero, List.take_of_length_le (by rw [ofB_len]; omega), oldL_ofB]
        · rw [Nat.mul_one, List.drop_zero, List.take_of_length_le (by rw [ofB_len]; omega), ofB_app, List.append_assoc]
          rfl
      · have hz1 : 1 ≤ z := by omega
        have hEZ : (E ++ List.replicate z (0 : UInt8)).length = E.length + z := by rw [List.length_append, hZ]
        refine ckI (bltQ_iff.2 (by omega)) (ckI (by rw [ofB_len]; simp; omega) (ckI (by rw [ofB_app, ofB_len, ofB_len, List.length_append]; simp) ⟨_, rfl, tdI (m := E.length + z) (by omega) (by omega) ⟨headBM mk ty seq ti ss cs ex.length pad, [4096, (((E.length + z) / 4 : Nat) : Int)], ⟨rfl, rfl, rfl, by omega, rfl, rfl, by omega, by omega, by simp⟩, ?_⟩⟩))
        have e1 : List.take ((E.length + z) * 1) (List.drop 0 (ofBytes (E ++ List.replicate z (0 : UInt8)))) = ofBytes (E ++ List.replicate z 0) := by rw [List.drop_zero, List.take_of_length_le (by rw [ofB_len, hEZ]; omega)]
        rw [ofB_app, e1]
        refine ckI ?_ (splitQ (fun h => by exfalso; omega) (fun h => ckI (bltQ_iff.2 (by omega)) (ckI ?_ (hq _ _ _ _ _ ?_ ?_ ?_ ?_))))
        · rw [oneL_ofB, ofB_len, ofB_len, hEZ, hZ]; simp; omega
        · simp only [ofB_len, List.length_append, put_len, List.length_cons, List.length_nil]; simp; omega
        · rw [ofB_len]
          simp only [List.length_append, put_len, profM, hZ]
          simp
          omega
        · simp only [List.length_append, put_len, profM, hZ]
          simp
          omega
        · rw [oldL_ofB]
        · rw [ofB_app, List.append_assoc, List.length_append, hZ]
          rfl
theorem or128 (c : Nat) (h : c ≤ 15) : 128 ||| c = 128 + c ∧ (128 + c) ||| 32 = 160 + c ∧ (128 + c) ||| 16 = 144 + c ∧ (160 + c) ||| 16 = 176 + c := by
  have : ∀ c, c < 16 → 128 ||| c = 128 + c ∧ (128 + c) ||| 32 = 160 + c ∧ (128 + c) ||| 16 = 144 + c ∧ (160 + c) ||| 16 = 176 + c := by decide
  exact this c (by omega)
theorem or7 (t : Nat) (h : t ≤ 127) : t ||| 128 = t + 128 := by
  have : ∀ t, t < 128 → t ||| 128 = t + 128 := by decide
  exact this t (by omega)
theorem header_run (mk : Bool) (ty seq ti ss : Int) (tc : Nat) (cs : List Int) (tx : Nat) (ex : List Xt) (pad : Int) (pl : List UInt8) (Q : Out → List Blk → Gh → Prop) (hty : 0 ≤ ty ∧ ty ≤ 127) (hcs : cs.length ≤ 15) (hex : ex.length ≤ 16) (hx : extsOkM 0 ex = true) (hq : endOk mk ty seq ti ss tc cs tx ex pad pl Q) : ∃ hv hb, goal_56 hv hb mk ty seq ti ss tc cs tx ex pad pl Q := by
  obtain ⟨hv, hb', e⟩ : ∃ hv hb, goal_56 hv hb mk ty seq ti ss tc cs tx ex pad pl Q = _ := ⟨_, _, vc_56 mk ty seq ti ss tc cs tx ex pad pl Q⟩
  refine ⟨hv, hb', e.mpr ?_⟩
  clear e
  obtain ⟨t, rfl⟩ : ∃ n : Nat, ty = n := ⟨ty.toNat, by omega⟩
  obtain ⟨o1, o2, o3, o4⟩ := or128 cs.length hcs
  have o5 := or7 t (by omega)
  have hall := exts_all ex 0 (Int.le_refl _) hx
  have hd : dataM ex := fun x hx => by have := hall x hx; omega
  have hhl := head_len mk t seq ti ss cs ex.length pad
  -- behind the flags
  have end0 : ∀ f k : Int, f = fstM cs ex.length pad → k = kindM mk t → ex.length = 0 → ∀ g, Q (.ret (.sl 1 (putM 1 [f, k] ++ putM 2 [seq] ++ putM 4 [ti, ss] ++ putM 4 cs).length 0 (putM 1 [f, k] ++ putM 2 [seq] ++ putM 4 [ti, ss] ++ putM 4 cs).length 1)) (⟨.exact, true, medM mk t seq ti ss tc cs tx ex pad pl⟩ :: ⟨.grow, true, ofBytes (putM 1 [f, k] ++ putM 2 [seq] ++ putM 4 [ti, ss] ++ putM 4 cs)⟩ :: g) {} := fun f k hf hk h0 g => by
    have hh : headM mk t seq ti ss cs ex pad = putM 1 [f, k] ++ putM 2 [seq] ++ putM 4 [ti, ss] ++ putM 4 cs := by
      rw [headM, if_pos h0, List.append_nil, headBM, ← hf, ← hk]
    exact hq _ _ _ _ g (by rw [hh]) (by rw [hh]) rfl (by rw [hh])
  have end1 : ∀ f k : Int, f = fstM cs ex.length pad → k = kindM mk t → headBM mk t seq ti ss cs ex.length pad = putM 1 [f, k] ++ putM 2 [seq] ++ putM 4 [ti, ss] ++ putM 4 cs := fun f k hf hk => by
    rw [headBM, ← hf, ← hk]
  have hkT : mk = true → ((t + 128 : Nat) : Int) = kindM mk t := fun h => by rw [kindM, if_pos h]; omega
  have hkF : mk = false → (t : Int) = kindM mk t := fun h => by rw [kindM, if_neg (by rw [h]; simp)]; omega
  have ml := put_len
  refine ⟨_, rfl, orLR (a := cs.length) rfl (by omega) o1 (by omega) (splitD (fun hp => orRL (a := 128 + cs.length) rfl (by omega) o2 (by omega) ⟨_, rfl, splitD (fun he => orRL (a := 160 + cs.length) rfl (by omega) o4 (by omega) (splitI (fun hm => orRL (a := t) rfl (by omega) o5 (by omega) ?_) (fun hm => ?_))) (fun he => splitI (fun hm => orRL (a := t) rfl (by omega) o5 (by omega) ?_) (fun hm => ?_))⟩) (fun hp => ⟨_, rfl, splitD (fun he => orRL (a := 128 + cs.length) rfl (by omega) o3 (by omega) (splitI (fun hm => orRL (a := t) rfl (by omega) o5 (by omega) ?_) (fun hm => ?_))) (fun he => splitI (fun hm => orRL (a := t) rfl (by omega) o5 (by omega) ?_) (fun hm => ?_))⟩))⟩
  all_goals
    refine ⟨[_, _], ⟨rfl, rfl, by omega, by omega, by simp, by simp⟩, putM 1 [_, _], [seq], ⟨rfl, rfl, rfl, by simp [ml], rfl, rfl, by omega, by omega, by simp⟩, _ ++ putM 2 [seq], [ti, ss], ⟨rfl, rfl, rfl, by simp [ml], rfl, rfl, by omega, by omega, by simp⟩, _ ++ putM 4 [ti, ss], cs, ⟨rfl, rfl, rfl, by simp [ml], rfl, rfl, by omega, by omega, by omega⟩, _, rfl, splitE (fun h0 => ?_) (fun h0 => ?_)⟩
    · refine end0 _ _ ?_ ?_ (by omega) _ <;> first
        | exact hkT hm
        | exact hkF hm
        | (unfold fstM; (repeat' split) <;> omega)
    · refine ⟨ex, ⟨rfl, rfl, by omega, hd⟩, splitI (fun hs => ⟨_, rfl, .inl ⟨0, ⟨rfl, hs.symm⟩, rfl, ?_, rfl, ?_, rfl, rfl, rfl, rfl, trivial⟩, loopT mk t seq ti ss tc cs tx ex pad pl Q hcs hex (by omega) hx hq⟩) (fun hs => ⟨_, rfl, .inl ⟨0, ⟨rfl, hs.symm⟩, rfl, ?_, rfl, ?_, rfl, rfl, rfl, rfl, trivial⟩, loopF mk t seq ti ss tc cs tx ex pad pl Q hcs hex (by omega) hx hq⟩)⟩
      all_goals first
        | (refine congrArg ofBytes (end1 _ _ ?_ ?_).symm)
        | (refine congrArg (fun l : List UInt8 => AV.sl 1 l.length 0 l.length 1) (end1 _ _ ?_ ?_).symm)
      all_goals first
        | exact hkT hm
        | exact hkF hm
        | (unfold fstM; (repeat' split) <;> omega)
end Go.Proofs.YtbchmkhliehbfaaDoor

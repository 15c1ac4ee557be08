/-
  Chapter 23: short, Check.
-/
import Derived.Test.YtbchmkhliehbfaaDoorM23E
set_option linter.unusedSimpArgs false
set_option linter.unusedVariables false
namespace Go.Proofs.YtbchmkhliehbfaaDoor
open Go.RowKit
set_option maxRecDepth 1000000

/-- extensions: numbers and data -/
abbrev Xt := Int × List UInt8
def cellsXM : List Xt → List AV
  | [] => []
  | x :: l => .int .i64 x.1 :: .str x.2 :: cellsXM l
def isLongM (x : Xt) : Bool := decide (x.1 > 14) || decide ((x.2.length : Int) = 0) || decide ((x.2.length : Int) > 16)
def shortM (l : List Xt) : Bool := !l.any isLongM
theorem cellsX_len : ∀ l, (cellsXM l).length = 2 * l.length
  | [] => rfl
  | x :: l => by simp [cellsXM, cellsX_len l]; omega
theorem cellsX_drop : ∀ (l : List Xt) (i : Nat), (cellsXM l).drop (2 * i) = cellsXM (l.drop i)
  | l, 0 => rfl
  | [], i + 1 => by simp [cellsXM]
  | x :: l, i + 1 => by
    rw [show 2 * (i + 1) = 2 * i + 2 by omega, cellsXM, List.drop_succ_cons, List.drop_succ_cons, cellsX_drop l i, List.drop_succ_cons]
theorem cellsX_at {l : List Xt} {i m : Nat} (hi : i < l.length) (hm : m = 2 * i) : List.take 2 (List.drop m (cellsXM l)) = [.int .i64 l[i].1, .str l[i].2] := by
  subst hm
  rw [cellsX_drop, List.drop_eq_getElem_cons hi]
  rfl
theorem getX {l : List Xt} {i m : Nat} (hi : i < l.length) (hm : m = i * 2) {K : Int → List UInt8 → Prop} (hk : K l[i].1 l[i].2) : ∃ (n : Int) (s : List UInt8), AV.agg (List.take 2 (List.drop m (cellsXM l))) = AV.agg [AV.int .i64 n, AV.str s] ∧ K n s :=
  ⟨_, _, by rw [cellsX_at hi (by omega)], hk⟩

def inv_57 (t : Nat) (ex : List Xt) : LInv where
  α := Nat
  pre i := Lf (i ≤ ex.length ∧ (ex.take i).any isLongM = false)
  st i := ⟨mkT [(0, .lst t (cellsXM ex) ex.length 2), (1, .fn (.func 71) [] []), (7, .int .i64 ex.length), (8, .int .i64 (i : Nat))], []⟩
  mu i := ex.length - i
noncomputable def env_57 (hv : Nat → Option Pa) (hb : Nat → Option Bool) (t : Nat) (ex : List Xt) : Env := e23 sm0 (fun i => bif Nat.beq i 46000 then some (fun _ => [[inv_57 t ex]]) else none) hv hb
noncomputable def goal_57 (hv : Nat → Option Pa) (hb : Nat → Option Bool) (t : Nat) (ex : List Xt) (Q : Out → List Blk → Gh → Prop) : Prop :=
  callx (env_57 hv hb t ex) (wpx (env_57 hv hb t ex) 1000) 57 [.lst t (cellsXM ex) ex.length 2] [] {} Q
theorem vc_57 (t : Nat) (ex : List Xt) (Q : Out → List Blk → Gh → Prop) : goal_57 (lookV [(188423, .int .i64), (188426, .int .i64), (188431, .agg [(.int .i64), (.str)]), (290825, .int .i64), (290831, .int .i64), (188434, .int .i64)]) (lookB []) t ex Q = (
(∃ n_0 : Int, (((AV.int .i64 (Nat.cast (List.length ex) : Int)) = (AV.int .i64 n_0)) ∧
 ((∃ x_1 : Nat, ((Lf ((x_1 ≤ (List.length ex)) ∧
 ((List.any (List.take x_1 ex) isLongM) = false))) ∧
 (((AV.lst t (cellsXM ex) (List.length ex) (2 : Nat)) = (AV.lst t (cellsXM ex) (List.length ex) (2 : Nat))) ∧
 (((AV.fn (Fn.func (71 : Nat)) [] []) = (AV.fn (Fn.func (71 : Nat)) [] [])) ∧
 (((AV.int .i64 n_0) = (AV.int .i64 (Nat.cast (List.length ex) : Int))) ∧
 (((AV.int .i64 (0 : Int)) = (AV.int .i64 (Nat.cast x_1 : Int))) ∧
 True)))))) ∧
 (∀ x_1 : Nat, ((Lf ((x_1 ≤ (List.length ex)) ∧
 ((List.any (List.take x_1 ex) isLongM) = false))) →
(bif (decide ((Nat.cast x_1 : Int) < (Nat.cast (List.length ex) : Int))) then (∃ n_2 : Int, (((AV.int .i64 (Nat.cast x_1 : Int)) = (AV.int .i64 n_2)) ∧
 (bif (((decide ((0 : Int) ≤ n_2)) && (Nat.blt (Int.toNat n_2) (List.length ex))) && true) then (bif (Nat.ble (((Int.toNat n_2) * (2 : Nat)) + (2 : Nat)) (List.length (cellsXM ex))) then (∃ n_3 : Int, (∃ s_4 : (List UInt8), (((AV.agg (List.take (2 : Nat) (List.drop ((Int.toNat n_2) * (2 : Nat)) (cellsXM ex)))) = (AV.agg ((AV.int .i64 n_3) :: ((AV.str s_4) :: [])))) ∧
 (bif (decide (n_3 > (14 : Int))) then (bif (decide (n_2 ≥ (0 : Int))) then (Q (Out.ret (AV.bool false)) [] (Gh.mk (0 : Nat) (0 : Nat) []))
else (Q (Out.ret (AV.bool true)) [] (Gh.mk (0 : Nat) (0 : Nat) [])))
else (∃ n_5 : Int, (((AV.int .i64 (Nat.cast (List.length s_4) : Int)) = (AV.int .i64 n_5)) ∧
 (bif (n_5 == (0 : Int)) then (bif (decide (n_2 ≥ (0 : Int))) then (Q (Out.ret (AV.bool false)) [] (Gh.mk (0 : Nat) (0 : Nat) []))
else (Q (Out.ret (AV.bool true)) [] (Gh.mk (0 : Nat) (0 : Nat) [])))
else (∃ n_6 : Int, (((AV.int .i64 (Nat.cast (List.length s_4) : Int)) = (AV.int .i64 n_6)) ∧
 (bif (decide (n_6 > (16 : Int))) then (bif (decide (n_2 ≥ (0 : Int))) then (Q (Out.ret (AV.bool false)) [] (Gh.mk (0 : Nat) (0 : Nat) []))
else (Q (Out.ret (AV.bool true)) [] (Gh.mk (0 : Nat) (0 : Nat) [])))
else (∃ n_7 : Int, (((AV.int .i64 (IntKind.wrap .i64 ((Nat.cast x_1 : Int) + (1 : Int)))) = (AV.int .i64 n_7)) ∧
 ((True ∧
 ((0 : Nat) = (0 : Nat))) ∧
 (∃ y_8 : Nat, ((Lf ((y_8 ≤ (List.length ex)) ∧
 ((List.any (List.take y_8 ex) isLongM) = false))) ∧
 ((((List.length ex) - y_8) < ((List.length ex) - x_1)) ∧
 (((AV.lst t (cellsXM ex) (List.length ex) (2 : Nat)) = (AV.lst t (cellsXM ex) (List.length ex) (2 : Nat))) ∧
 (((AV.fn (Fn.func (71 : Nat)) [] []) = (AV.fn (Fn.func (71 : Nat)) [] [])) ∧
 (((AV.int .i64 (Nat.cast (List.length ex) : Int)) = (AV.int .i64 (Nat.cast (List.length ex) : Int))) ∧
 (((AV.int .i64 n_7) = (AV.int .i64 (Nat.cast y_8 : Int))) ∧
 True))))))))))))))))))))
else False)
else False)))
else (Q (Out.ret (AV.bool true)) [] (Gh.mk (0 : Nat) (0 : Nat) []))))))))) := by kernel_rfl

/-! ## Check -/
def smF : SM := lookS [(32, cFitsV)]
theorem smF_ok : ∀ f g, smF f = some g → ValidF Tryd.prog gl0 f g := lookS_ok _ (by simp only [List.mem_cons, List.not_mem_nil, or_false, forall_eq]; exact fits_ok)
def extsOkM : Int → List Xt → Bool
  | _, [] => true
  | last, x :: l => decide (last < x.1 ∧ x.1 ≤ 255 ∧ x.2.length ≤ 255) && extsOkM x.1 l
def medM (mk : Bool) (ty seq ti ss : Int) (tc : Nat) (cs : List Int) (tx : Nat) (ex : List Xt) (pad : Int) (pl : List UInt8) : List AV := [.bool mk, .int .i64 ty, .int .i64 seq, .int .i64 ti, .int .i64 ss, .lst tc (cellsI cs) cs.length 1, .lst tx (cellsXM ex) ex.length 2, .int .i64 pad, .str pl]
def flagsM (ty seq ti ss : Int) (cs : List Int) (n : Nat) (pad : Int) : Bool := decide (0 ≤ ty ∧ ty ≤ 127 ∧ 0 ≤ seq ∧ seq ≤ 65535 ∧ 0 ≤ ti ∧ ti < 4294967296 ∧ 0 ≤ ss ∧ ss < 4294967296 ∧ (∀ x ∈ cs, 0 ≤ x ∧ x < 4294967296) ∧ 0 ≤ pad ∧ pad ≤ 255 ∧ cs.length ≤ 15 ∧ n ≤ 16)
def inv_13 (mk : Bool) (ty seq ti ss : Int) (tc : Nat) (cs : List Int) (tx : Nat) (ex : List Xt) (pad : Int) (pl : List UInt8) : LInv where
  α := Nat × Bool
  pre p := Lf (p.1 ≤ ex.length ∧ p.2 = (flagsM ty seq ti ss cs ex.length pad && extsOkM 0 (ex.take p.1)))
  st p := ⟨mkT [(1, .ptr 0 9 0), (3, .bool p.2), (48, .lst tx (cellsXM ex) ex.length 2), (49, .int .i64 ex.length), (50, .int .i64 (p.1 : Nat))], [⟨.exact, true, (medM mk ty seq ti ss tc cs tx ex pad pl)⟩]⟩
  mu p := ex.length - p.1
noncomputable def env_13 (hv : Nat → Option Pa) (hb : Nat → Option Bool) (mk : Bool) (ty seq ti ss : Int) (tc : Nat) (cs : List Int) (tx : Nat) (ex : List Xt) (pad : Int) (pl : List UInt8) : Env := { e23 smF (fun i => bif Nat.beq i 13000 then some (fun _ => [[inv_13 mk ty seq ti ss tc cs tx ex pad pl]]) else none) hv hb with hz := fun k => Nat.beq k 53256 || Nat.beq k 53261 || Nat.beq k 53269 || Nat.beq k 53280 }
noncomputable def goal_13 (hv : Nat → Option Pa) (hb : Nat → Option Bool) (mk : Bool) (ty seq ti ss : Int) (tc : Nat) (cs : List Int) (tx : Nat) (ex : List Xt) (pad : Int) (pl : List UInt8) (Q : Out → List Blk → Gh → Prop) : Prop :=
  callx (env_13 hv hb mk ty seq ti ss tc cs tx ex pad pl) (wpx (env_13 hv hb mk ty seq ti ss tc cs tx ex pad pl) 1000) 13 [.agg (medM mk ty seq ti ss tc cs tx ex pad pl)] [] {} Q
def vc_13_1 (mk : Bool) (ty : Int) (seq : Int) (ti : Int) (ss : Int) (tc : Nat) (cs : List Int) (tx : Nat) (ex : List Xt) (pad : Int) (pl : List UInt8) (Q : Out → List Blk → Gh → Prop) : Prop := (
(∀ x_0 : (Prod Nat Bool), ((Lf (((Prod.fst x_0) ≤ (List.length ex)) ∧
 ((Prod.snd x_0) = ((flagsM ty seq ti ss cs (List.length ex) pad) && (extsOkM (0 : Int) (List.take (Prod.fst x_0) ex)))))) →
(bif (decide ((Nat.cast (Prod.fst x_0) : Int) < (Nat.cast (List.length ex) : Int))) then (∃ n_1 : Int, (((AV.int .i64 (Nat.cast (Prod.fst x_0) : Int)) = (AV.int .i64 n_1)) ∧
 (bif ((Nat.blt (Int.toNat (Nat.cast (Prod.fst x_0) : Int)) (List.length ex)) && true) then (bif (Nat.ble (((Int.toNat (Nat.cast (Prod.fst x_0) : Int)) * (2 : Nat)) + (2 : Nat)) (List.length (cellsXM ex))) then (∃ n_2 : Int, (∃ s_3 : (List UInt8), (((AV.agg (List.take (2 : Nat) (List.drop ((Int.toNat (Nat.cast (Prod.fst x_0) : Int)) * (2 : Nat)) (cellsXM ex)))) = (AV.agg ((AV.int .i64 n_2) :: ((AV.str s_3) :: [])))) ∧
 (bif (Prod.snd x_0) then (∃ n_4 : Int, (((AV.int .i64 (Nat.cast (List.length s_3) : Int)) = (AV.int .i64 n_4)) ∧
 (∃ xs_5 : (List Int), ((Lf ((((AV.int .i64 n_2) :: ((AV.int .i64 n_4) :: [])) = (cellsI xs_5)) ∧
 (((2 : Nat) = (List.length xs_5)) ∧
 (((0 : Int) ≤ (8 : Int)) ∧
 ((List.length xs_5) ≤ (4611686018427387904 : Nat)))))) ∧
 (bif (!(List.any xs_5 (badM (8 : Int)))) then (bif (decide (n_2 > (0 : Int))) then (bif (n_1 == (0 : Int)) then (∃ n_6 : Int, (((AV.int .i64 (IntKind.wrap .i64 ((Nat.cast (Prod.fst x_0) : Int) + (1 : Int)))) = (AV.int .i64 n_6)) ∧
 ((True ∧
 ((0 : Nat) = (0 : Nat))) ∧
 (∃ y_7 : (Prod Nat Bool), ((Lf (((Prod.fst y_7) ≤ (List.length ex)) ∧
 ((Prod.snd y_7) = ((flagsM ty seq ti ss cs (List.length ex) pad) && (extsOkM (0 : Int) (List.take (Prod.fst y_7) ex)))))) ∧
 ((((List.length ex) - (Prod.fst y_7)) < ((List.length ex) - (Prod.fst x_0))) ∧
 ((((AV.bool mk) :: ((AV.int .i64 ty) :: ((AV.int .i64 seq) :: ((AV.int .i64 ti) :: ((AV.int .i64 ss) :: ((AV.lst tc (cellsI cs) (List.length cs) (1 : Nat)) :: ((AV.lst tx (cellsXM ex) (List.length ex) (2 : Nat)) :: ((AV.int .i64 pad) :: ((AV.str pl) :: []))))))))) = ((AV.bool mk) :: ((AV.int .i64 ty) :: ((AV.int .i64 seq) :: ((AV.int .i64 ti) :: ((AV.int .i64 ss) :: ((AV.lst tc (cellsI cs) (List.length cs) (1 : Nat)) :: ((AV.lst tx (cellsXM ex) (List.length ex) (2 : Nat)) :: ((AV.int .i64 pad) :: ((AV.str pl) :: [])))))))))) ∧
 (((AV.ptr (0 : Nat) (9 : Nat) (0 : Nat)) = (AV.ptr (0 : Nat) (9 : Nat) (0 : Nat))) ∧
 (((AV.bool true) = (AV.bool (Prod.snd y_7))) ∧
 (((AV.int .i64 (Nat.cast (List.length ex) : Int)) = (AV.int .i64 (Nat.cast (List.length ex) : Int))) ∧
 (((AV.lst tx (cellsXM ex) (List.length ex) (2 : Nat)) = (AV.lst tx (cellsXM ex) (List.length ex) (2 : Nat))) ∧
 (((AV.int .i64 n_6) = (AV.int .i64 (Nat.cast (Prod.fst y_7) : Int))) ∧
 True))))))))))))
else (∃ n_6 : Int, (((AV.int .i64 (IntKind.wrap .i64 (n_1 - (1 : Int)))) = (AV.int .i64 n_6)) ∧
 (bif (((decide ((0 : Int) ≤ n_6)) && (Nat.blt (Int.toNat n_6) (List.length ex))) && true) then (bif (Nat.blt (((Int.toNat n_6) * (2 : Nat)) + (0 : Nat)) (List.length (cellsXM ex))) then (∃ n_7 : Int, (((List.getD (cellsXM ex) (((Int.toNat n_6) * (2 : Nat)) + (0 : Nat)) AV.undef) = (AV.int .i64 n_7)) ∧
 (bif (decide (n_2 > n_7)) then (∃ n_8 : Int, (((AV.int .i64 (IntKind.wrap .i64 ((Nat.cast (Prod.fst x_0) : Int) + (1 : Int)))) = (AV.int .i64 n_8)) ∧
 ((True ∧
 ((0 : Nat) = (0 : Nat))) ∧
 (∃ y_9 : (Prod Nat Bool), ((Lf (((Prod.fst y_9) ≤ (List.length ex)) ∧
 ((Prod.snd y_9) = ((flagsM ty seq ti ss cs (List.length ex) pad) && (extsOkM (0 : Int) (List.take (Prod.fst y_9) ex)))))) ∧
 ((((List.length ex) - (Prod.fst y_9)) < ((List.length ex) - (Prod.fst x_0))) ∧
 ((((AV.bool mk) :: ((AV.int .i64 ty) :: ((AV.int .i64 seq) :: ((AV.int .i64 ti) :: ((AV.int .i64 ss) :: ((AV.lst tc (cellsI cs) (List.length cs) (1 : Nat)) :: ((AV.lst tx (cellsXM ex) (List.length ex) (2 : Nat)) :: ((AV.int .i64 pad) :: ((AV.str pl) :: []))))))))) = ((AV.bool mk) :: ((AV.int .i64 ty) :: ((AV.int .i64 seq) :: ((AV.int .i64 ti) :: ((AV.int .i64 ss) :: ((AV.lst tc (cellsI cs) (List.length cs) (1 : Nat)) :: ((AV.lst tx (cellsXM ex) (List.length ex) (2 : Nat)) :: ((AV.int .i64 pad) :: ((AV.str pl) :: [])))))))))) ∧
 (((AV.ptr (0 : Nat) (9 : Nat) (0 : Nat)) = (AV.ptr (0 : Nat) (9 : Nat) (0 : Nat))) ∧
 (((AV.bool true) = (AV.bool (Prod.snd y_9))) ∧
 (((AV.int .i64 (Nat.cast (List.length ex) : Int)) = (AV.int .i64 (Nat.cast (List.length ex) : Int))) ∧
 (((AV.lst tx (cellsXM ex) (List.length ex) (2 : Nat)) = (AV.lst tx (cellsXM ex) (List.length ex) (2 : Nat))) ∧
 (((AV.int .i64 n_8) = (AV.int .i64 (Nat.cast (Prod.fst y_9) : Int))) ∧
 True))))))))))))
else (∃ n_8 : Int, (((AV.int .i64 (IntKind.wrap .i64 ((Nat.cast (Prod.fst x_0) : Int) + (1 : Int)))) = (AV.int .i64 n_8)) ∧
 ((True ∧
 ((0 : Nat) = (0 : Nat))) ∧
 (∃ y_9 : (Prod Nat Bool), ((Lf (((Prod.fst y_9) ≤ (List.length ex)) ∧
 ((Prod.snd y_9) = ((flagsM ty seq ti ss cs (List.length ex) pad) && (extsOkM (0 : Int) (List.take (Prod.fst y_9) ex)))))) ∧
 ((((List.length ex) - (Prod.fst y_9)) < ((List.length ex) - (Prod.fst x_0))) ∧
 ((((AV.bool mk) :: ((AV.int .i64 ty) :: ((AV.int .i64 seq) :: ((AV.int .i64 ti) :: ((AV.int .i64 ss) :: ((AV.lst tc (cellsI cs) (List.length cs) (1 : Nat)) :: ((AV.lst tx (cellsXM ex) (List.length ex) (2 : Nat)) :: ((AV.int .i64 pad) :: ((AV.str pl) :: []))))))))) = ((AV.bool mk) :: ((AV.int .i64 ty) :: ((AV.int .i64 seq) :: ((AV.int .i64 ti) :: ((AV.int .i64 ss) :: ((AV.lst tc (cellsI cs) (List.length cs) (1 : Nat)) :: ((AV.lst tx (cellsXM ex) (List.length ex) (2 : Nat)) :: ((AV.int .i64 pad) :: ((AV.str pl) :: [])))))))))) ∧
 (((AV.ptr (0 : Nat) (9 : Nat) (0 : Nat)) = (AV.ptr (0 : Nat) (9 : Nat) (0 : Nat))) ∧
 (((AV.bool false) = (AV.bool (Prod.snd y_9))) ∧
 (((AV.int .i64 (Nat.cast (List.length ex) : Int)) = (AV.int .i64 (Nat.cast (List.length ex) : Int))) ∧
 (((AV.lst tx (cellsXM ex) (List.length ex) (2 : Nat)) = (AV.lst tx (cellsXM ex) (List.length ex) (2 : Nat))) ∧
 (((AV.int .i64 n_8) = (AV.int .i64 (Nat.cast (Prod.fst y_9) : Int))) ∧
 True)))))))))))))))
else False)
else False))))
else (∃ n_6 : Int, (((AV.int .i64 (IntKind.wrap .i64 ((Nat.cast (Prod.fst x_0) : Int) + (1 : Int)))) = (AV.int .i64 n_6)) ∧
 ((True ∧
 ((0 : Nat) = (0 : Nat))) ∧
 (∃ y_7 : (Prod Nat Bool), ((Lf (((Prod.fst y_7) ≤ (List.length ex)) ∧
 ((Prod.snd y_7) = ((flagsM ty seq ti ss cs (List.length ex) pad) && (extsOkM (0 : Int) (List.take (Prod.fst y_7) ex)))))) ∧
 ((((List.length ex) - (Prod.fst y_7)) < ((List.length ex) - (Prod.fst x_0))) ∧
 ((((AV.bool mk) :: ((AV.int .i64 ty) :: ((AV.int .i64 seq) :: ((AV.int .i64 ti) :: ((AV.int .i64 ss) :: ((AV.lst tc (cellsI cs) (List.length cs) (1 : Nat)) :: ((AV.lst tx (cellsXM ex) (List.length ex) (2 : Nat)) :: ((AV.int .i64 pad) :: ((AV.str pl) :: []))))))))) = ((AV.bool mk) :: ((AV.int .i64 ty) :: ((AV.int .i64 seq) :: ((AV.int .i64 ti) :: ((AV.int .i64 ss) :: ((AV.lst tc (cellsI cs) (List.length cs) (1 : Nat)) :: ((AV.lst tx (cellsXM ex) (List.length ex) (2 : Nat)) :: ((AV.int .i64 pad) :: ((AV.str pl) :: [])))))))))) ∧
 (((AV.ptr (0 : Nat) (9 : Nat) (0 : Nat)) = (AV.ptr (0 : Nat) (9 : Nat) (0 : Nat))) ∧
 (((AV.bool false) = (AV.bool (Prod.snd y_7))) ∧
 (((AV.int .i64 (Nat.cast (List.length ex) : Int)) = (AV.int .i64 (Nat.cast (List.length ex) : Int))) ∧
 (((AV.lst tx (cellsXM ex) (List.length ex) (2 : Nat)) = (AV.lst tx (cellsXM ex) (List.length ex) (2 : Nat))) ∧
 (((AV.int .i64 n_6) = (AV.int .i64 (Nat.cast (Prod.fst y_7) : Int))) ∧
 True)))))))))))))
else (∃ n_6 : Int, (((AV.int .i64 (IntKind.wrap .i64 ((Nat.cast (Prod.fst x_0) : Int) + (1 : Int)))) = (AV.int .i64 n_6)) ∧
 ((True ∧
 ((0 : Nat) = (0 : Nat))) ∧
 (∃ y_7 : (Prod Nat Bool), ((Lf (((Prod.fst y_7) ≤ (List.length ex)) ∧
 ((Prod.snd y_7) = ((flagsM ty seq ti ss cs (List.length ex) pad) && (extsOkM (0 : Int) (List.take (Prod.fst y_7) ex)))))) ∧
 ((((List.length ex) - (Prod.fst y_7)) < ((List.length ex) - (Prod.fst x_0))) ∧
 ((((AV.bool mk) :: ((AV.int .i64 ty) :: ((AV.int .i64 seq) :: ((AV.int .i64 ti) :: ((AV.int .i64 ss) :: ((AV.lst tc (cellsI cs) (List.length cs) (1 : Nat)) :: ((AV.lst tx (cellsXM ex) (List.length ex) (2 : Nat)) :: ((AV.int .i64 pad) :: ((AV.str pl) :: []))))))))) = ((AV.bool mk) :: ((AV.int .i64 ty) :: ((AV.int .i64 seq) :: ((AV.int .i64 ti) :: ((AV.int .i64 ss) :: ((AV.lst tc (cellsI cs) (List.length cs) (1 : Nat)) :: ((AV.lst tx (cellsXM ex) (List.length ex) (2 : Nat)) :: ((AV.int .i64 pad) :: ((AV.str pl) :: [])))))))))) ∧
 (((AV.ptr (0 : Nat) (9 : Nat) (0 : Nat)) = (AV.ptr (0 : Nat) (9 : Nat) (0 : Nat))) ∧
 (((AV.bool false) = (AV.bool (Prod.snd y_7))) ∧
 (((AV.int .i64 (Nat.cast (List.length ex) : Int)) = (AV.int .i64 (Nat.cast (List.length ex) : Int))) ∧
 (((AV.lst tx (cellsXM ex) (List.length ex) (2 : Nat)) = (AV.lst tx (cellsXM ex) (List.length ex) (2 : Nat))) ∧
 (((AV.int .i64 n_6) = (AV.int .i64 (Nat.cast (Prod.fst y_7) : Int))) ∧
 True)))))))))))))))))
else (∃ n_4 : Int, (((AV.int .i64 (IntKind.wrap .i64 ((Nat.cast (Prod.fst x_0) : Int) + (1 : Int)))) = (AV.int .i64 n_4)) ∧
 ((True ∧
 ((0 : Nat) = (0 : Nat))) ∧
 (∃ y_5 : (Prod Nat Bool), ((Lf (((Prod.fst y_5) ≤ (List.length ex)) ∧
 ((Prod.snd y_5) = ((flagsM ty seq ti ss cs (List.length ex) pad) && (extsOkM (0 : Int) (List.take (Prod.fst y_5) ex)))))) ∧
 ((((List.length ex) - (Prod.fst y_5)) < ((List.length ex) - (Prod.fst x_0))) ∧
 ((((AV.bool mk) :: ((AV.int .i64 ty) :: ((AV.int .i64 seq) :: ((AV.int .i64 ti) :: ((AV.int .i64 ss) :: ((AV.lst tc (cellsI cs) (List.length cs) (1 : Nat)) :: ((AV.lst tx (cellsXM ex) (List.length ex) (2 : Nat)) :: ((AV.int .i64 pad) :: ((AV.str pl) :: []))))))))) = ((AV.bool mk) :: ((AV.int .i64 ty) :: ((AV.int .i64 seq) :: ((AV.int .i64 ti) :: ((AV.int .i64 ss) :: ((AV.lst tc (cellsI cs) (List.length cs) (1 : Nat)) :: ((AV.lst tx (cellsXM ex) (List.length ex) (2 : Nat)) :: ((AV.int .i64 pad) :: ((AV.str pl) :: [])))))))))) ∧
 (((AV.ptr (0 : Nat) (9 : Nat) (0 : Nat)) = (AV.ptr (0 : Nat) (9 : Nat) (0 : Nat))) ∧
 (((AV.bool false) = (AV.bool (Prod.snd y_5))) ∧
 (((AV.int .i64 (Nat.cast (List.length ex) : Int)) = (AV.int .i64 (Nat.cast (List.length ex) : Int))) ∧
 (((AV.lst tx (cellsXM ex) (List.length ex) (2 : Nat)) = (AV.lst tx (cellsXM ex) (List.length ex) (2 : Nat))) ∧
 (((AV.int .i64 n_4) = (AV.int .i64 (Nat.cast (Prod.fst y_5) : Int))) ∧
 True))))))))))))))))
else False)
else False)))
else (bif (Prod.snd x_0) then (Q (Out.ret (AV.int .i64 (0 : Int))) [] (Gh.mk (0 : Nat) (0 : Nat) []))
else (Q (Out.ret (AV.int .i64 (230 : Int))) [] (Gh.mk (0 : Nat) (0 : Nat) [])))))))
def vc_13_2 (mk : Bool) (ty : Int) (seq : Int) (ti : Int) (ss : Int) (tc : Nat) (cs : List Int) (tx : Nat) (ex : List Xt) (pad : Int) (pl : List UInt8) (Q : Out → List Blk → Gh → Prop) : Prop := (
(∃ n_0 : Int, (((AV.int .i64 (Nat.cast (List.length ex) : Int)) = (AV.int .i64 n_0)) ∧
 ((∃ x_1 : (Prod Nat Bool), ((Lf (((Prod.fst x_1) ≤ (List.length ex)) ∧
 ((Prod.snd x_1) = ((flagsM ty seq ti ss cs (List.length ex) pad) && (extsOkM (0 : Int) (List.take (Prod.fst x_1) ex)))))) ∧
 ((((AV.bool mk) :: ((AV.int .i64 ty) :: ((AV.int .i64 seq) :: ((AV.int .i64 ti) :: ((AV.int .i64 ss) :: ((AV.lst tc (cellsI cs) (List.length cs) (1 : Nat)) :: ((AV.lst tx (cellsXM ex) (List.length ex) (2 : Nat)) :: ((AV.int .i64 pad) :: ((AV.str pl) :: []))))))))) = ((AV.bool mk) :: ((AV.int .i64 ty) :: ((AV.int .i64 seq) :: ((AV.int .i64 ti) :: ((AV.int .i64 ss) :: ((AV.lst tc (cellsI cs) (List.length cs) (1 : Nat)) :: ((AV.lst tx (cellsXM ex) (List.length ex) (2 : Nat)) :: ((AV.int .i64 pad) :: ((AV.str pl) :: [])))))))))) ∧
 (((AV.ptr (0 : Nat) (9 : Nat) (0 : Nat)) = (AV.ptr (0 : Nat) (9 : Nat) (0 : Nat))) ∧
 (((AV.bool false) = (AV.bool (Prod.snd x_1))) ∧
 (((AV.int .i64 n_0) = (AV.int .i64 (Nat.cast (List.length ex) : Int))) ∧
 (((AV.lst tx (cellsXM ex) (List.length ex) (2 : Nat)) = (AV.lst tx (cellsXM ex) (List.length ex) (2 : Nat))) ∧
 (((AV.int .i64 (0 : Int)) = (AV.int .i64 (Nat.cast (Prod.fst x_1) : Int))) ∧
 True)))))))) ∧
 (vc_13_1 mk ty seq ti ss tc cs tx ex pad pl Q)))))
theorem vc_13 (mk : Bool) (ty : Int) (seq : Int) (ti : Int) (ss : Int) (tc : Nat) (cs : List Int) (tx : Nat) (ex : List Xt) (pad : Int) (pl : List UInt8) (Q : Out → List Blk → Gh → Prop) : goal_13 (lookV [(53286, .int .i64), (53292, .int .i64), (53297, .int .i64), (53300, .int .i64), (53302, .agg [(.int .i64), (.str)]), (53309, .int .i64), (53334, .int .i64), (53327, .int .i64), (53330, .int .i64)]) (lookB []) mk ty seq ti ss tc cs tx ex pad pl Q = (
(∃ xs_0 : (List Int), ((Lf ((((AV.int .i64 ty) :: []) = (cellsI xs_0)) ∧
 (((1 : Nat) = (List.length xs_0)) ∧
 (((0 : Int) ≤ (7 : Int)) ∧
 ((List.length xs_0) ≤ (4611686018427387904 : Nat)))))) ∧
 (bif (!(List.any xs_0 (badM (7 : Int)))) then (∃ xs_1 : (List Int), ((Lf ((((AV.int .i64 seq) :: []) = (cellsI xs_1)) ∧
 (((1 : Nat) = (List.length xs_1)) ∧
 (((0 : Int) ≤ (16 : Int)) ∧
 ((List.length xs_1) ≤ (4611686018427387904 : Nat)))))) ∧
 (bif (!(List.any xs_1 (badM (16 : Int)))) then (∃ xs_2 : (List Int), ((Lf ((((AV.int .i64 ti) :: ((AV.int .i64 ss) :: [])) = (cellsI xs_2)) ∧
 (((2 : Nat) = (List.length xs_2)) ∧
 (((0 : Int) ≤ (32 : Int)) ∧
 ((List.length xs_2) ≤ (4611686018427387904 : Nat)))))) ∧
 (bif (!(List.any xs_2 (badM (32 : Int)))) then (∃ xs_3 : (List Int), ((Lf (((cellsI cs) = (cellsI xs_3)) ∧
 (((List.length cs) = (List.length xs_3)) ∧
 (((0 : Int) ≤ (32 : Int)) ∧
 ((List.length xs_3) ≤ (4611686018427387904 : Nat)))))) ∧
 (bif (!(List.any xs_3 (badM (32 : Int)))) then (∃ xs_4 : (List Int), ((Lf ((((AV.int .i64 pad) :: []) = (cellsI xs_4)) ∧
 (((1 : Nat) = (List.length xs_4)) ∧
 (((0 : Int) ≤ (8 : Int)) ∧
 ((List.length xs_4) ≤ (4611686018427387904 : Nat)))))) ∧
 (bif (!(List.any xs_4 (badM (8 : Int)))) then (∃ n_5 : Int, (((AV.int .i64 (Nat.cast (List.length cs) : Int)) = (AV.int .i64 n_5)) ∧
 (bif (decide (n_5 ≤ (15 : Int))) then (∃ n_6 : Int, (((AV.int .i64 (Nat.cast (List.length ex) : Int)) = (AV.int .i64 n_6)) ∧
 (bif (decide (n_6 ≤ (16 : Int))) then (∃ n_7 : Int, (((AV.int .i64 (Nat.cast (List.length ex) : Int)) = (AV.int .i64 n_7)) ∧
 ((∃ x_8 : (Prod Nat Bool), ((Lf (((Prod.fst x_8) ≤ (List.length ex)) ∧
 ((Prod.snd x_8) = ((flagsM ty seq ti ss cs (List.length ex) pad) && (extsOkM (0 : Int) (List.take (Prod.fst x_8) ex)))))) ∧
 ((((AV.bool mk) :: ((AV.int .i64 ty) :: ((AV.int .i64 seq) :: ((AV.int .i64 ti) :: ((AV.int .i64 ss) :: ((AV.lst tc (cellsI cs) (List.length cs) (1 : Nat)) :: ((AV.lst tx (cellsXM ex) (List.length ex) (2 : Nat)) :: ((AV.int .i64 pad) :: ((AV.str pl) :: []))))))))) = ((AV.bool mk) :: ((AV.int .i64 ty) :: ((AV.int .i64 seq) :: ((AV.int .i64 ti) :: ((AV.int .i64 ss) :: ((AV.lst tc (cellsI cs) (List.length cs) (1 : Nat)) :: ((AV.lst tx (cellsXM ex) (List.length ex) (2 : Nat)) :: ((AV.int .i64 pad) :: ((AV.str pl) :: [])))))))))) ∧
 (((AV.ptr (0 : Nat) (9 : Nat) (0 : Nat)) = (AV.ptr (0 : Nat) (9 : Nat) (0 : Nat))) ∧
 (((AV.bool true) = (AV.bool (Prod.snd x_8))) ∧
 (((AV.int .i64 n_7) = (AV.int .i64 (Nat.cast (List.length ex) : Int))) ∧
 (((AV.lst tx (cellsXM ex) (List.length ex) (2 : Nat)) = (AV.lst tx (cellsXM ex) (List.length ex) (2 : Nat))) ∧
 (((AV.int .i64 (0 : Int)) = (AV.int .i64 (Nat.cast (Prod.fst x_8) : Int))) ∧
 True)))))))) ∧
 (vc_13_1 mk ty seq ti ss tc cs tx ex pad pl Q))))
else (vc_13_2 mk ty seq ti ss tc cs tx ex pad pl Q))))
else (vc_13_2 mk ty seq ti ss tc cs tx ex pad pl Q))))
else (vc_13_2 mk ty seq ti ss tc cs tx ex pad pl Q))))
else (vc_13_2 mk ty seq ti ss tc cs tx ex pad pl Q))))
else (vc_13_2 mk ty seq ti ss tc cs tx ex pad pl Q))))
else (vc_13_2 mk ty seq ti ss tc cs tx ex pad pl Q))))
else (vc_13_2 mk ty seq ti ss tc cs tx ex pad pl Q))))) := by kernel_rfl

theorem short_run (t : Nat) (ex : List Xt) (hx : ex.length ≤ 1000000) (hd : ∀ x ∈ ex, x.2.length ≤ 4611686018427387904) (Q : Out → List Blk → Gh → Prop) (hq : Q (.ret (.bool (shortM ex))) [] {}) : ∃ hv hb, goal_57 hv hb t ex Q := by
  obtain ⟨hv, hb', e⟩ : ∃ hv hb, goal_57 hv hb t ex Q = _ := ⟨_, _, vc_57 t ex Q⟩
  refine ⟨hv, hb', e.mpr ?_⟩
  clear e
  refine ⟨_, rfl, ⟨0, ⟨by omega, by simp⟩, rfl, rfl, rfl, rfl, trivial⟩, ?_⟩
  rintro i ⟨hi, hany⟩
  refine splitD (fun hlt => ?_) (fun hge => ?_)
  · have hlt' : i < ex.length := by omega
    have hdi := hd ex[i] (List.getElem_mem hlt')
    have hstep : (ex.take (i + 1)).any isLongM = isLongM ex[i] := by
      rw [List.take_add_one, List.any_append, hany]; simp [hlt']
    have hbad : isLongM ex[i] = true → shortM ex = false := fun h => by
      have : ex.any isLongM = true := List.any_eq_true.2 ⟨ex[i], List.getElem_mem _, h⟩
      rw [shortM, this]; rfl
    refine ⟨_, rfl, ckI (by simp; omega) (ckI (by rw [cellsX_len]; simp; omega) (getX hlt' (by simp) ?_))⟩
    refine splitD (fun h1 => splitD (fun _ => ?_) (fun h => by exfalso; omega)) (fun h1 => ⟨_, rfl, splitE (fun h2 => splitD (fun _ => ?_) (fun h => by exfalso; omega)) (fun h2 => ⟨_, rfl, splitD (fun h3 => splitD (fun _ => ?_) (fun h => by exfalso; omega)) (fun h3 => ?_)⟩)⟩)
    · rw [← hbad (by simp [isLongM, h1])]; exact hq
    · rw [← hbad (by simp only [isLongM, decide_eq_true h2, Bool.or_true, Bool.true_or])]; exact hq
    · rw [← hbad (by simp only [isLongM, decide_eq_true h3, Bool.or_true])]; exact hq
    · refine wrapI (by omega) (by omega) ⟨⟨trivial, rfl⟩, i + 1, ⟨hlt', ?_⟩, by omega, rfl, rfl, rfl, rfl, trivial⟩
      rw [hstep]
      simp only [isLongM, decide_eq_false h1, decide_eq_false h2, decide_eq_false h3, Bool.or_false]
  · have hle : i = ex.length := by omega
    subst hle
    rw [List.take_length] at hany
    have : shortM ex = true := by rw [shortM, hany]; rfl
    rw [← this]; exact hq
theorem bad_iff {bits P : Int} (hP : (2 : Int) ^ min bits.toNat 64 = P) (h0 : 0 < P) (n : Int) : badM bits n = !decide (0 ≤ n ∧ n < P) := by
  unfold badM
  rw [hP, Int.fdiv_eq_ediv_of_nonneg _ (by omega)]
  by_cases h : n < 0
  · rw [decide_eq_true h, decide_eq_false (by omega)]; rfl
  · rw [decide_eq_false h, Bool.false_or]
    by_cases h2 : n < P
    · rw [decide_eq_true ⟨by omega, h2⟩, Int.ediv_eq_zero_of_lt (by omega) h2]; rfl
    · rw [decide_eq_false (by omega)]
      have : n / P ≠ 0 := by
        intro h3
        have h4 := Int.emod_add_mul_ediv n P
        have h5 := Int.emod_lt_of_pos n h0
        rw [h3] at h4
        omega
      simpa using this
theorem fit1I {bits P n : Int} (hP : (2 : Int) ^ min bits.toNat 64 = P) (h0 : 0 < P) {A B : Prop} (h : 0 ≤ n ∧ n < P → A) (k : ¬ (0 ≤ n ∧ n < P) → B) : bif !(List.any [n] (badM bits)) then A else B := by
  rw [List.any_cons, List.any_nil, Bool.or_false, bad_iff hP h0, Bool.not_not]
  exact splitD h k
theorem fit2I {bits P n m : Int} (hP : (2 : Int) ^ min bits.toNat 64 = P) (h0 : 0 < P) {A B : Prop} (h : (0 ≤ n ∧ n < P) ∧ 0 ≤ m ∧ m < P → A) (k : ¬ ((0 ≤ n ∧ n < P) ∧ 0 ≤ m ∧ m < P) → B) : bif !(List.any [n, m] (badM bits)) then A else B := by
  rw [List.any_cons, List.any_cons, List.any_nil, Bool.or_false, bad_iff hP h0, bad_iff hP h0]
  have e : (!(!decide (0 ≤ n ∧ n < P) || !decide (0 ≤ m ∧ m < P))) = decide ((0 ≤ n ∧ n < P) ∧ 0 ≤ m ∧ m < P) := by rw [Bool.eq_iff_iff]; simp
  rw [e]
  exact splitD h k
theorem fitLI {bits P : Int} {l : List Int} (hP : (2 : Int) ^ min bits.toNat 64 = P) (h0 : 0 < P) {A B : Prop} (h : (∀ x ∈ l, 0 ≤ x ∧ x < P) → A) (k : ¬ (∀ x ∈ l, 0 ≤ x ∧ x < P) → B) : bif !(List.any l (badM bits)) then A else B := by
  have e : (!(List.any l (badM bits))) = decide (∀ x ∈ l, 0 ≤ x ∧ x < P) := by
    rw [Bool.eq_iff_iff, decide_eq_true_eq]
    simp only [Bool.not_eq_true', List.any_eq_false, bad_iff hP h0, Bool.not_eq_true', Bool.not_eq_true, decide_eq_true_eq]
    constructor
    · intro hh x hx
      have := hh x hx
      simpa using this
    · intro hh x hx
      have := hh x hx
      simpa using this
  rw [e]
  exact splitD h k
def lastOfM (a : Int) : List Xt → Int
  | [] => a
  | x :: l => lastOfM x.1 l
theorem exts_snoc (x : Xt) : ∀ (l : List Xt) (a : Int), extsOkM a (l ++ [x]) = (extsOkM a l && decide (lastOfM a l < x.1 ∧ x.1 ≤ 255 ∧ x.2.length ≤ 255))
  | [], a => by rw [List.nil_append, extsOkM, extsOkM, extsOkM, lastOfM, Bool.and_true, Bool.true_and]
  | y :: l, a => by rw [List.cons_append, extsOkM, exts_snoc x l y.1, extsOkM, lastOfM, Bool.and_assoc]
theorem exts_last : ∀ (l : List Xt) (a : Int), extsOkM a l = true → a ≤ lastOfM a l
  | [], a, _ => Int.le_refl _
  | y :: l, a, h => by
    rw [extsOkM, Bool.and_eq_true, decide_eq_true_eq] at h
    have := exts_last l y.1 h.2
    rw [lastOfM]; omega
theorem last_take : ∀ (l : List Xt) (a : Int) (i : Nat) (h : i < l.length), lastOfM a (l.take (i + 1)) = l[i].1
  | x :: l, a, 0, _ => rfl
  | x :: l, a, i + 1, h => by
    rw [List.take_succ_cons, lastOfM, last_take l x.1 i (by simpa using h)]
    rfl
theorem exts_take {ex : List Xt} {i : Nat} (hi : i < ex.length) : extsOkM 0 (ex.take (i + 1)) = (extsOkM 0 (ex.take i) && decide (lastOfM 0 (ex.take i) < ex[i].1 ∧ ex[i].1 ≤ 255 ∧ ex[i].2.length ≤ 255)) := by
  rw [← exts_snoc, List.take_add_one, List.getElem?_eq_getElem hi]
  rfl
theorem getXi {l : List Xt} {i m : Nat} (hi : i < l.length) (hm : m = i * 2 + 0) {K : Int → Prop} (hk : K l[i].1) : ∃ n : Int, (cellsXM l).getD m AV.undef = AV.int .i64 n ∧ K n := by
  refine ⟨_, ?_, hk⟩
  subst hm
  have e := cellsX_at hi (m := i * 2) (by omega)
  have : ((cellsXM l).drop (i * 2))[0]? = some (AV.int .i64 l[i].1) := by
    have h2 : (List.take 2 (List.drop (i * 2) (cellsXM l)))[0]? = some (AV.int .i64 l[i].1) := by rw [e]; rfl
    rwa [List.getElem?_take, if_pos (by omega)] at h2
  rw [List.getElem?_drop] at this
  rw [List.getD_eq_getElem?_getD, this]
  rfl
def rightM (ty seq ti ss : Int) (cs : List Int) (ex : List Xt) (pad : Int) : Bool := flagsM ty seq ti ss cs ex.length pad && extsOkM 0 ex
theorem fin13 {ty seq ti ss : Int} {cs : List Int} {tx : Nat} {ex : List Xt} {pad : Int} {i : Nat} (hi : i < ex.length) (b : Bool) (hb : b = (flagsM ty seq ti ss cs ex.length pad && extsOkM 0 (ex.take (i + 1)))) {cells : List AV} :
    (True ∧ (0 : Nat) = 0) ∧ ∃ y : Nat × Bool, Lf (y.1 ≤ ex.length ∧ y.2 = (flagsM ty seq ti ss cs ex.length pad && extsOkM 0 (ex.take y.1))) ∧ ex.length - y.1 < ex.length - i ∧ cells = cells ∧ AV.ptr 0 9 0 = AV.ptr 0 9 0 ∧ AV.bool b = AV.bool y.2 ∧ AV.int .i64 (ex.length : Int) = AV.int .i64 (ex.length : Int) ∧ AV.lst tx (cellsXM ex) ex.length 2 = AV.lst tx (cellsXM ex) ex.length 2 ∧ AV.int .i64 ((i : Int) + 1) = AV.int .i64 (y.1 : Int) ∧ True :=
  ⟨⟨trivial, rfl⟩, (i + 1, b), ⟨hi, hb⟩, by dsimp only; omega, rfl, rfl, rfl, rfl, rfl, rfl, trivial⟩
theorem body13 (mk : Bool) (ty seq ti ss : Int) (tc : Nat) (cs : List Int) (tx : Nat) (ex : List Xt) (pad : Int) (pl : List UInt8) (hex : ex.length ≤ 1000000) (hd : ∀ x ∈ ex, x.2.length ≤ 4611686018427387904) (Q : Out → List Blk → Gh → Prop)
    (hT : rightM ty seq ti ss cs ex pad = true → Q (.ret (.int .i64 0)) [] {}) (hF : rightM ty seq ti ss cs ex pad = false → Q (.ret (.int .i64 230)) [] {}) : vc_13_1 mk ty seq ti ss tc cs tx ex pad pl Q := by
  rintro ⟨i, b⟩ ⟨hi, hbq⟩
  dsimp only at hi hbq ⊢
  refine splitD (fun hlt => ?_) (fun hge => ?_)
  · have hlt' : i < ex.length := by omega
    have hdi := hd ex[i] (List.getElem_mem hlt')
    refine ⟨_, rfl, ckI (by simp; omega) (ckI (by rw [cellsX_len]; simp; omega) (getX hlt' (by simp) ?_))⟩
    have et := exts_take hlt'
    have key : ∀ b', b' = (b && decide (lastOfM 0 (ex.take i) < ex[i].1 ∧ ex[i].1 ≤ 255 ∧ ex[i].2.length ≤ 255)) → b' = (flagsM ty seq ti ss cs ex.length pad && extsOkM 0 (ex.take (i + 1))) := fun b' hb => by rw [hb, hbq, et, Bool.and_assoc]
    cases b
    · exact wrapI (by omega) (by omega) (fin13 hlt' false (key _ (by rw [Bool.false_and])))
    · have hx0 : extsOkM 0 (ex.take i) = true := by
        have := hbq.symm
        rw [Bool.and_eq_true] at this
        exact this.2
      have hl0 := exts_last _ _ hx0
      have hl1 : i = 0 → lastOfM 0 (ex.take i) = 0 := fun e => by rw [e]; rfl
      have hl2 : ∀ (k : Nat) (hk : k < ex.length), i = k + 1 → lastOfM 0 (ex.take i) = ex[k].1 := fun k hk e => by subst e; exact last_take ex 0 k hk
      refine ⟨_, rfl, [ex[i].1, (ex[i].2.length : Int)], ⟨rfl, rfl, by omega, by simp⟩, fit2I (P := 256) rfl (by decide) (fun g1 => splitD (fun g2 => splitE (fun g3 => ?_) (fun g3 => wrapI (by omega) (by omega) (ckI (by simp; omega) (ckI (by rw [cellsX_len]; simp; omega) (getXi (i := i - 1) (by omega) (by omega) (splitD (fun g4 => ?_) (fun g4 => ?_))))))) (fun g2 => ?_)) (fun g1 => ?_)⟩
      · exact wrapI (by omega) (by omega) (fin13 hlt' true (key _ (by rw [Bool.true_and, decide_eq_true ⟨by rw [hl1 (by omega)]; omega, by omega, by omega⟩])))
      · exact wrapI (by omega) (by omega) (fin13 hlt' true (key _ (by rw [Bool.true_and, decide_eq_true ⟨by rw [hl2 (i - 1) (by omega) (by omega)]; omega, by omega, by omega⟩])))
      · exact wrapI (by omega) (by omega) (fin13 hlt' false (key _ (by rw [Bool.true_and, decide_eq_false (fun hh => g4 (by rw [hl2 (i - 1) (by omega) (by omega)] at hh; omega))])))
      · exact wrapI (by omega) (by omega) (fin13 hlt' false (key _ (by rw [Bool.true_and, decide_eq_false (fun hh => by omega)])))
      · exact wrapI (by omega) (by omega) (fin13 hlt' false (key _ (by rw [Bool.true_and, decide_eq_false (fun hh => by omega)])))
  · have hle : i = ex.length := by omega
    subst hle
    rw [List.take_length] at hbq
    cases b
    · exact hF hbq.symm
    · exact hT hbq.symm
theorem check_run (mk : Bool) (ty seq ti ss : Int) (tc : Nat) (cs : List Int) (tx : Nat) (ex : List Xt) (pad : Int) (pl : List UInt8) (hcs : cs.length ≤ 1000000) (hex : ex.length ≤ 1000000) (hd : ∀ x ∈ ex, x.2.length ≤ 4611686018427387904) (Q : Out → List Blk → Gh → Prop)
    (hT : rightM ty seq ti ss cs ex pad = true → Q (.ret (.int .i64 0)) [] {}) (hF : rightM ty seq ti ss cs ex pad = false → Q (.ret (.int .i64 230)) [] {}) : ∃ hv hb, goal_13 hv hb mk ty seq ti ss tc cs tx ex pad pl Q := by
  obtain ⟨hv, hb', e⟩ : ∃ hv hb, goal_13 hv hb mk ty seq ti ss tc cs tx ex pad pl Q = _ := ⟨_, _, vc_13 mk ty seq ti ss tc cs tx ex pad pl Q⟩
  refine ⟨hv, hb', e.mpr ?_⟩
  clear e
  refine ⟨[ty], ⟨rfl, rfl, by omega, by simp⟩, fit1I (P := 128) rfl (by decide) (fun h1 => ⟨[seq], ⟨rfl, rfl, by omega, by simp⟩, fit1I (P := 65536) rfl (by decide) (fun h2 => ⟨[ti, ss], ⟨rfl, rfl, by omega, by simp⟩, fit2I (P := 4294967296) rfl (by decide) (fun h3 => ⟨cs, ⟨rfl, rfl, by omega, by omega⟩, fitLI (P := 4294967296) rfl (by decide) (fun h4 => ⟨[pad], ⟨rfl, rfl, by omega, by simp⟩, fit1I (P := 256) rfl (by decide) (fun h5 => ⟨_, rfl, splitD (fun h6 => ⟨_, rfl, splitD (fun h7 => ?_) (fun h7 => ?_)⟩) (fun h6 => ?_)⟩) (fun h5 => ?_)⟩) (fun h4 => ?_)⟩) (fun h3 => ?_)⟩) (fun h2 => ?_)⟩) (fun h1 => ?_)⟩
  all_goals first
    | refine ⟨_, rfl, ⟨(0, true), ⟨Nat.zero_le _, by
        rw [List.take_zero, extsOkM, Bool.and_true]
        exact (decide_eq_true ⟨by omega, by omega, by omega, by omega, by omega, by omega, by omega, by omega, h4, by omega, by omega, by omega, by omega⟩).symm⟩, rfl, rfl, rfl, rfl, rfl, rfl, trivial⟩, ?_⟩
    | refine ⟨_, rfl, ⟨(0, false), ⟨Nat.zero_le _, by
        rw [List.take_zero, extsOkM, Bool.and_true]
        refine (decide_eq_false fun hh => ?_).symm
        obtain ⟨a1, a2, a3, a4, a5, a6, a7, a8, a9, a10, a11, a12, a13⟩ := hh
        first | exact h4 a9 | omega⟩, rfl, rfl, rfl, rfl, rfl, rfl, trivial⟩, ?_⟩
  all_goals exact body13 mk ty seq ti ss tc cs tx ex pad pl hex hd Q hT hF
def dataM (ex : List Xt) : Prop := ∀ x ∈ ex, x.2.length ≤ 4611686018427387904
def cShort : Con
  | [.lst _ l n 2], H, K => ∃ ex : List Xt, Lf (l = cellsXM ex ∧ n = ex.length ∧ ex.length ≤ 1000000 ∧ dataM ex) ∧ K (.ret (.bool (shortM ex))) H
  | _, _, _ => False
theorem short_ok : ValidF Tryd.prog gl0 57 cShort := by
  refine valid_flat (enters_of (by kernel_rfl)) gl0_noY fun args H Q hc => ?_
  unfold cShort at hc
  split at hc
  · rename_i t l n
    obtain ⟨ex, ⟨rfl, rfl, hl, hd⟩, hq⟩ := hc
    obtain ⟨hv, hb', h⟩ := short_run t ex hl hd (fun o H' _ => H' = [] ∧ (∃ v, o = .ret v ∧ old 0 v = true ∧ noY v = true) ∧ Q o H) ⟨rfl, ⟨_, rfl, rfl, rfl⟩, hq⟩
    exact ⟨rfl, rfl, _, 1000, envFor23 sm0_ok _ _ _, rfl, h⟩
  · exact hc.elim
def cCheck : Con
  | [.agg [.bool mk, .int .i64 ty, .int .i64 seq, .int .i64 ti, .int .i64 ss, .lst _ c5 n5 1, .lst _ c6 n6 2, .int .i64 pad, .str pl]], H, K => ∃ (cs : List Int) (ex : List Xt), Lf (c5 = cellsI cs ∧ n5 = cs.length ∧ c6 = cellsXM ex ∧ n6 = ex.length ∧ cs.length ≤ 1000000 ∧ ex.length ≤ 1000000 ∧ dataM ex) ∧ ∀ r : Int, Lf (r = if rightM ty seq ti ss cs ex pad = true then 0 else 230) → K (.ret (.int .i64 r)) H
  | _, _, _ => False
theorem check_ok : ValidF Tryd.prog gl0 13 cCheck := by
  refine valid_flat (enters_of (by kernel_rfl)) gl0_noY fun args H Q hc => ?_
  unfold cCheck at hc
  split at hc
  · rename_i mk ty seq ti ss tc c5 n5 tx c6 n6 pad pl
    obtain ⟨cs, ex, ⟨rfl, rfl, rfl, rfl, h1, h2, hd⟩, hq⟩ := hc
    obtain ⟨hv, hb', h⟩ := check_run mk ty seq ti ss tc cs tx ex pad pl h1 h2 hd (fun o H' _ => H' = [] ∧ (∃ v, o = .ret v ∧ old 0 v = true ∧ noY v = true) ∧ Q o H) (fun hr => ⟨rfl, ⟨_, rfl, rfl, rfl⟩, hq _ ⟨by rw [if_pos hr]⟩⟩) (fun hr => ⟨rfl, ⟨_, rfl, rfl, rfl⟩, hq _ ⟨by rw [hr]; rfl⟩⟩)
    refine ⟨rfl, rfl, _, 1000, ?_, rfl, h⟩
    exact ⟨mixed23, names23, tabA_ok, smF_ok⟩
  · exact hc.elim
end Go.Proofs.YtbchmkhliehbfaaDoor

/-
  Chapter 23, the reference: Right, Find; the program's Find.
-/
import Derived.Test.YtbchmkhliehbfaaDoorM23L
set_option linter.unusedSimpArgs false
set_option linter.unusedVariables false
set_option linter.unusedSectionVars false
namespace Go.Proofs.YtbchmkhliehbfaaDoor
open Go.RowKit
set_option maxRecDepth 1000000

def in32M (cs : List Int) : Bool := decide (∀ x ∈ cs, 0 ≤ x ∧ x < 4294967296)
section
variable (mk : Bool) (ty seq ti ss : Int) (tc : Nat) (cs : List Int) (tx : Nat) (ex : List Xt) (pad : Int) (pl : List UInt8)
def inv_16a : LInv where
  α := Nat
  pre i := Lf (i ≤ cs.length ∧ ∀ x ∈ cs.take i, 0 ≤ x ∧ x < 4294967296)
  st i := ⟨mkT [(1, .ptr 0 9 0), (3, .int .i64 (i : Nat))], [⟨.exact, true, medM mk ty seq ti ss tc cs tx ex pad pl⟩]⟩
  mu i := cs.length - i
def inv_16b : LInv where
  α := Nat
  pre i := Lf (i ≤ ex.length ∧ extsOkM 0 (ex.take i) = true)
  st i := ⟨mkT [(1, .ptr 0 9 0), (4, .int .i64 (lastOfM 0 (ex.take i))), (5, .int .i64 (i : Nat))], [⟨.exact, true, medM mk ty seq ti ss tc cs tx ex pad pl⟩]⟩
  mu i := ex.length - i
noncomputable def env_16 (hv : Nat → Option Pa) (hb : Nat → Option Bool) : Env := e23 sm0 (fun i => bif Nat.beq i 16000 then some (fun _ => [[inv_16a mk ty seq ti ss tc cs tx ex pad pl]]) else bif Nat.beq i 16002 then some (fun _ => [[inv_16b mk ty seq ti ss tc cs tx ex pad pl]]) else none) hv hb
def inv_25 (id : Int) : LInv where
  α := Nat
  pre i := Lf (i ≤ ex.length ∧ ∀ x ∈ ex.take i, x.1 ≠ id)
  st i := ⟨mkT [(1, .int .i64 id), (2, .ptr 0 9 0), (6, .int .i64 (i : Nat))], [⟨.exact, true, medM mk ty seq ti ss tc cs tx ex pad pl⟩]⟩
  mu i := ex.length - i
noncomputable def env_25 (id : Int) (hv : Nat → Option Pa) (hb : Nat → Option Bool) : Env := e23 sm0 (fun i => bif Nat.beq i 25000 then some (fun _ => [[inv_25 mk ty seq ti ss tc cs tx ex pad pl id]]) else none) hv hb
def inv_24 (id : Int) : LInv where
  α := Nat
  pre i := Lf (i ≤ ex.length ∧ ∀ x ∈ ex.take i, x.1 ≠ id)
  st i := ⟨mkT [(0, .lst tx (cellsXM ex) ex.length 2), (1, .fn (.func 47) [] [.ptr 1 1 0]), (7, .int .i64 ex.length), (8, .int .i64 (i : Nat))], [⟨.exact, true, medM mk ty seq ti ss tc cs tx ex pad pl⟩, ⟨.exact, true, [.int .i64 id]⟩]⟩
  mu i := ex.length - i
end
def smM : SM := lookS [(13, cCheck)]
theorem smM_ok : ∀ f g, smM f = some g → ValidF Tryd.prog gl0 f g := lookS_ok _ (by simp only [List.mem_cons, List.not_mem_nil, or_false, forall_eq]; exact check_ok)
noncomputable def env_24 (mk : Bool) (ty seq ti ss : Int) (tc : Nat) (cs : List Int) (tx : Nat) (ex : List Xt) (pad : Int) (pl : List UInt8) (id : Int) (hv : Nat → Option Pa) (hb : Nat → Option Bool) : Env := e23 smM (fun i => bif Nat.beq i 46000 then some (fun _ => [[inv_24 mk ty seq ti ss tc cs tx ex pad pl id]]) else none) hv hb
noncomputable def goal_16 (hv : Nat → Option Pa) (hb : Nat → Option Bool) (mk : Bool) (ty seq ti ss : Int) (tc : Nat) (cs : List Int) (tx : Nat) (ex : List Xt) (pad : Int) (pl : List UInt8) (Q : Out → List Blk → Gh → Prop) : Prop :=
  callx (env_16 mk ty seq ti ss tc cs tx ex pad pl hv hb) (wpx (env_16 mk ty seq ti ss tc cs tx ex pad pl hv hb) 1000) 16 [.agg (medM mk ty seq ti ss tc cs tx ex pad pl)] [] {} Q
theorem vc_16 (mk : Bool) (ty : Int) (seq : Int) (ti : Int) (ss : Int) (tc : Nat) (cs : List Int) (tx : Nat) (ex : List Xt) (pad : Int) (pl : List UInt8) (Q : Out → List Blk → Gh → Prop) : goal_16 (lookV [(65593, .int .i64), (65599, .int .i64), (65602, .int .i64), (65605, .int .i64), (65611, .int .i64), (65613, .int .i64), (65618, .int .i64), (65620, .int .i64), (65607, .int .i64), (65608, .int .i64), (65623, .int .i64), (65626, .int .i64), (65632, .int .i64), (65635, .int .i64), (65636, .int .i64), (65641, .int .i64), (65644, .int .i64), (65650, .int .i64), (65653, .str), (65654, .int .i64), (65659, .int .i64), (65662, .int .i64), (65628, .int .i64), (65629, .int .i64)]) (lookB []) mk ty seq ti ss tc cs tx ex pad pl Q = (
(bif (decide (ty < (0 : Int))) then (Q (Out.ret (AV.bool false)) [] (Gh.mk (0 : Nat) (0 : Nat) []))
else (bif (decide (ty > (127 : Int))) then (Q (Out.ret (AV.bool false)) [] (Gh.mk (0 : Nat) (0 : Nat) []))
else (bif (decide (seq < (0 : Int))) then (Q (Out.ret (AV.bool false)) [] (Gh.mk (0 : Nat) (0 : Nat) []))
else (bif (decide (seq > (65535 : Int))) then (Q (Out.ret (AV.bool false)) [] (Gh.mk (0 : Nat) (0 : Nat) []))
else (bif (decide (ti < (0 : Int))) then (Q (Out.ret (AV.bool false)) [] (Gh.mk (0 : Nat) (0 : Nat) []))
else (bif (decide (ti ≥ (4294967296 : Int))) then (Q (Out.ret (AV.bool false)) [] (Gh.mk (0 : Nat) (0 : Nat) []))
else (bif (decide (ss < (0 : Int))) then (Q (Out.ret (AV.bool false)) [] (Gh.mk (0 : Nat) (0 : Nat) []))
else (bif (decide (ss ≥ (4294967296 : Int))) then (Q (Out.ret (AV.bool false)) [] (Gh.mk (0 : Nat) (0 : Nat) []))
else (bif (decide (pad < (0 : Int))) then (Q (Out.ret (AV.bool false)) [] (Gh.mk (0 : Nat) (0 : Nat) []))
else (bif (decide (pad > (255 : Int))) then (Q (Out.ret (AV.bool false)) [] (Gh.mk (0 : Nat) (0 : Nat) []))
else (∃ n_0 : Int, (((AV.int .i64 (Nat.cast (List.length cs) : Int)) = (AV.int .i64 n_0)) ∧
 (bif (decide (n_0 > (15 : Int))) then (Q (Out.ret (AV.bool false)) [] (Gh.mk (0 : Nat) (0 : Nat) []))
else (∃ n_1 : Int, (((AV.int .i64 (Nat.cast (List.length ex) : Int)) = (AV.int .i64 n_1)) ∧
 (bif (decide (n_1 > (16 : Int))) then (Q (Out.ret (AV.bool false)) [] (Gh.mk (0 : Nat) (0 : Nat) []))
else ((∃ x_2 : Nat, ((Lf ((x_2 ≤ (List.length cs)) ∧
 (∀ x_3 : Int, ((Membership.mem (List.take x_2 cs) x_3) →
(((0 : Int) ≤ x_3) ∧
 (x_3 < (4294967296 : Int))))))) ∧
 ((((AV.bool mk) :: ((AV.int .i64 ty) :: ((AV.int .i64 seq) :: ((AV.int .i64 ti) :: ((AV.int .i64 ss) :: ((AV.lst tc (cellsI cs) (List.length cs) (1 : Nat)) :: ((AV.lst tx (cellsXM ex) (List.length ex) (2 : Nat)) :: ((AV.int .i64 pad) :: ((AV.str pl) :: []))))))))) = ((AV.bool mk) :: ((AV.int .i64 ty) :: ((AV.int .i64 seq) :: ((AV.int .i64 ti) :: ((AV.int .i64 ss) :: ((AV.lst tc (cellsI cs) (List.length cs) (1 : Nat)) :: ((AV.lst tx (cellsXM ex) (List.length ex) (2 : Nat)) :: ((AV.int .i64 pad) :: ((AV.str pl) :: [])))))))))) ∧
 (((AV.ptr (0 : Nat) (9 : Nat) (0 : Nat)) = (AV.ptr (0 : Nat) (9 : Nat) (0 : Nat))) ∧
 (((AV.int .i64 (0 : Int)) = (AV.int .i64 (Nat.cast x_2 : Int))) ∧
 True))))) ∧
 (∀ x_2 : Nat, ((Lf ((x_2 ≤ (List.length cs)) ∧
 (∀ x_3 : Int, ((Membership.mem (List.take x_2 cs) x_3) →
(((0 : Int) ≤ x_3) ∧
 (x_3 < (4294967296 : Int))))))) →
(∃ n_3 : Int, (((AV.int .i64 (Nat.cast x_2 : Int)) = (AV.int .i64 n_3)) ∧
 (∃ n_4 : Int, (((AV.int .i64 (Nat.cast (List.length cs) : Int)) = (AV.int .i64 n_4)) ∧
 (bif (decide (n_3 < n_4)) then (∃ n_5 : Int, (((AV.int .i64 (Nat.cast x_2 : Int)) = (AV.int .i64 n_5)) ∧
 (bif (((decide ((0 : Int) ≤ n_5)) && (Nat.blt (Int.toNat n_5) (List.length cs))) && true) then (bif (Nat.blt ((Int.toNat n_5) * (1 : Nat)) (List.length (cellsI cs))) then (∃ n_6 : Int, (((List.getD (cellsI cs) ((Int.toNat n_5) * (1 : Nat)) AV.undef) = (AV.int .i64 n_6)) ∧
 (bif (decide (n_6 < (0 : Int))) then (Q (Out.ret (AV.bool false)) [] (Gh.mk (0 : Nat) (0 : Nat) []))
else (∃ n_7 : Int, (((AV.int .i64 (Nat.cast x_2 : Int)) = (AV.int .i64 n_7)) ∧
 (bif (((decide ((0 : Int) ≤ n_7)) && (Nat.blt (Int.toNat n_7) (List.length cs))) && true) then (bif (Nat.blt ((Int.toNat n_7) * (1 : Nat)) (List.length (cellsI cs))) then (∃ n_8 : Int, (((List.getD (cellsI cs) ((Int.toNat n_7) * (1 : Nat)) AV.undef) = (AV.int .i64 n_8)) ∧
 (bif (decide (n_8 ≥ (4294967296 : Int))) then (Q (Out.ret (AV.bool false)) [] (Gh.mk (0 : Nat) (0 : Nat) []))
else (∃ n_9 : Int, (((AV.int .i64 (Nat.cast x_2 : Int)) = (AV.int .i64 n_9)) ∧
 (∃ n_10 : Int, (((AV.int .i64 (IntKind.wrap .i64 (n_9 + (1 : Int)))) = (AV.int .i64 n_10)) ∧
 ((True ∧
 ((0 : Nat) = (0 : Nat))) ∧
 (∃ y_11 : Nat, ((Lf ((y_11 ≤ (List.length cs)) ∧
 (∀ x_12 : Int, ((Membership.mem (List.take y_11 cs) x_12) →
(((0 : Int) ≤ x_12) ∧
 (x_12 < (4294967296 : Int))))))) ∧
 ((((List.length cs) - y_11) < ((List.length cs) - x_2)) ∧
 ((((AV.bool mk) :: ((AV.int .i64 ty) :: ((AV.int .i64 seq) :: ((AV.int .i64 ti) :: ((AV.int .i64 ss) :: ((AV.lst tc (cellsI cs) (List.length cs) (1 : Nat)) :: ((AV.lst tx (cellsXM ex) (List.length ex) (2 : Nat)) :: ((AV.int .i64 pad) :: ((AV.str pl) :: []))))))))) = ((AV.bool mk) :: ((AV.int .i64 ty) :: ((AV.int .i64 seq) :: ((AV.int .i64 ti) :: ((AV.int .i64 ss) :: ((AV.lst tc (cellsI cs) (List.length cs) (1 : Nat)) :: ((AV.lst tx (cellsXM ex) (List.length ex) (2 : Nat)) :: ((AV.int .i64 pad) :: ((AV.str pl) :: [])))))))))) ∧
 (((AV.ptr (0 : Nat) (9 : Nat) (0 : Nat)) = (AV.ptr (0 : Nat) (9 : Nat) (0 : Nat))) ∧
 (((AV.int .i64 n_10) = (AV.int .i64 (Nat.cast y_11 : Int))) ∧
 True))))))))))))))
else False)
else False))))))
else False)
else False)))
else ((∃ x_5 : Nat, ((Lf ((x_5 ≤ (List.length ex)) ∧
 ((extsOkM (0 : Int) (List.take x_5 ex)) = true))) ∧
 ((((AV.bool mk) :: ((AV.int .i64 ty) :: ((AV.int .i64 seq) :: ((AV.int .i64 ti) :: ((AV.int .i64 ss) :: ((AV.lst tc (cellsI cs) (List.length cs) (1 : Nat)) :: ((AV.lst tx (cellsXM ex) (List.length ex) (2 : Nat)) :: ((AV.int .i64 pad) :: ((AV.str pl) :: []))))))))) = ((AV.bool mk) :: ((AV.int .i64 ty) :: ((AV.int .i64 seq) :: ((AV.int .i64 ti) :: ((AV.int .i64 ss) :: ((AV.lst tc (cellsI cs) (List.length cs) (1 : Nat)) :: ((AV.lst tx (cellsXM ex) (List.length ex) (2 : Nat)) :: ((AV.int .i64 pad) :: ((AV.str pl) :: [])))))))))) ∧
 (((AV.ptr (0 : Nat) (9 : Nat) (0 : Nat)) = (AV.ptr (0 : Nat) (9 : Nat) (0 : Nat))) ∧
 (((AV.int .i64 (0 : Int)) = (AV.int .i64 (Nat.cast x_5 : Int))) ∧
 (((AV.int .i64 (0 : Int)) = (AV.int .i64 (lastOfM (0 : Int) (List.take x_5 ex)))) ∧
 True)))))) ∧
 (∀ x_5 : Nat, ((Lf ((x_5 ≤ (List.length ex)) ∧
 ((extsOkM (0 : Int) (List.take x_5 ex)) = true))) →
(∃ n_6 : Int, (((AV.int .i64 (Nat.cast x_5 : Int)) = (AV.int .i64 n_6)) ∧
 (∃ n_7 : Int, (((AV.int .i64 (Nat.cast (List.length ex) : Int)) = (AV.int .i64 n_7)) ∧
 (bif (decide (n_6 < n_7)) then (∃ n_8 : Int, (((AV.int .i64 (Nat.cast x_5 : Int)) = (AV.int .i64 n_8)) ∧
 (bif (((decide ((0 : Int) ≤ n_8)) && (Nat.blt (Int.toNat n_8) (List.length ex))) && true) then (bif (Nat.blt (((Int.toNat n_8) * (2 : Nat)) + (0 : Nat)) (List.length (cellsXM ex))) then (∃ n_9 : Int, (((List.getD (cellsXM ex) (((Int.toNat n_8) * (2 : Nat)) + (0 : Nat)) AV.undef) = (AV.int .i64 n_9)) ∧
 (∃ n_10 : Int, (((AV.int .i64 (lastOfM (0 : Int) (List.take x_5 ex))) = (AV.int .i64 n_10)) ∧
 (bif (decide (n_9 ≤ n_10)) then (Q (Out.ret (AV.bool false)) [] (Gh.mk (0 : Nat) (0 : Nat) []))
else (∃ n_11 : Int, (((AV.int .i64 (Nat.cast x_5 : Int)) = (AV.int .i64 n_11)) ∧
 (bif (((decide ((0 : Int) ≤ n_11)) && (Nat.blt (Int.toNat n_11) (List.length ex))) && true) then (bif (Nat.blt (((Int.toNat n_11) * (2 : Nat)) + (0 : Nat)) (List.length (cellsXM ex))) then (∃ n_12 : Int, (((List.getD (cellsXM ex) (((Int.toNat n_11) * (2 : Nat)) + (0 : Nat)) AV.undef) = (AV.int .i64 n_12)) ∧
 (bif (decide (n_12 > (255 : Int))) then (Q (Out.ret (AV.bool false)) [] (Gh.mk (0 : Nat) (0 : Nat) []))
else (∃ n_13 : Int, (((AV.int .i64 (Nat.cast x_5 : Int)) = (AV.int .i64 n_13)) ∧
 (bif (((decide ((0 : Int) ≤ n_13)) && (Nat.blt (Int.toNat n_13) (List.length ex))) && true) then (bif (Nat.blt (((Int.toNat n_13) * (2 : Nat)) + (1 : Nat)) (List.length (cellsXM ex))) then (∃ s_14 : (List UInt8), (((List.getD (cellsXM ex) (((Int.toNat n_13) * (2 : Nat)) + (1 : Nat)) AV.undef) = (AV.str s_14)) ∧
 (∃ n_15 : Int, (((AV.int .i64 (Nat.cast (List.length s_14) : Int)) = (AV.int .i64 n_15)) ∧
 (bif (decide (n_15 > (255 : Int))) then (Q (Out.ret (AV.bool false)) [] (Gh.mk (0 : Nat) (0 : Nat) []))
else (∃ n_16 : Int, (((AV.int .i64 (Nat.cast x_5 : Int)) = (AV.int .i64 n_16)) ∧
 (bif (((decide ((0 : Int) ≤ n_16)) && (Nat.blt (Int.toNat n_16) (List.length ex))) && true) then (bif (Nat.blt (((Int.toNat n_16) * (2 : Nat)) + (0 : Nat)) (List.length (cellsXM ex))) then (∃ n_17 : Int, (((List.getD (cellsXM ex) (((Int.toNat n_16) * (2 : Nat)) + (0 : Nat)) AV.undef) = (AV.int .i64 n_17)) ∧
 (∃ n_18 : Int, (((AV.int .i64 (Nat.cast x_5 : Int)) = (AV.int .i64 n_18)) ∧
 (∃ n_19 : Int, (((AV.int .i64 (IntKind.wrap .i64 (n_18 + (1 : Int)))) = (AV.int .i64 n_19)) ∧
 ((True ∧
 ((0 : Nat) = (0 : Nat))) ∧
 (∃ y_20 : Nat, ((Lf ((y_20 ≤ (List.length ex)) ∧
 ((extsOkM (0 : Int) (List.take y_20 ex)) = true))) ∧
 ((((List.length ex) - y_20) < ((List.length ex) - x_5)) ∧
 ((((AV.bool mk) :: ((AV.int .i64 ty) :: ((AV.int .i64 seq) :: ((AV.int .i64 ti) :: ((AV.int .i64 ss) :: ((AV.lst tc (cellsI cs) (List.length cs) (1 : Nat)) :: ((AV.lst tx (cellsXM ex) (List.length ex) (2 : Nat)) :: ((AV.int .i64 pad) :: ((AV.str pl) :: []))))))))) = ((AV.bool mk) :: ((AV.int .i64 ty) :: ((AV.int .i64 seq) :: ((AV.int .i64 ti) :: ((AV.int .i64 ss) :: ((AV.lst tc (cellsI cs) (List.length cs) (1 : Nat)) :: ((AV.lst tx (cellsXM ex) (List.length ex) (2 : Nat)) :: ((AV.int .i64 pad) :: ((AV.str pl) :: [])))))))))) ∧
 (((AV.ptr (0 : Nat) (9 : Nat) (0 : Nat)) = (AV.ptr (0 : Nat) (9 : Nat) (0 : Nat))) ∧
 (((AV.int .i64 n_19) = (AV.int .i64 (Nat.cast y_20 : Int))) ∧
 (((AV.int .i64 n_17) = (AV.int .i64 (lastOfM (0 : Int) (List.take y_20 ex)))) ∧
 True))))))))))))))
else False)
else False))))))))
else False)
else False))))))
else False)
else False))))))))
else False)
else False)))
else (Q (Out.ret (AV.bool true)) [] (Gh.mk (0 : Nat) (0 : Nat) []))))))))))))))))))))))))))))))))))) := by kernel_rfl

noncomputable def goal_25 (hv : Nat → Option Pa) (hb : Nat → Option Bool) (mk : Bool) (ty seq ti ss : Int) (tc : Nat) (cs : List Int) (tx : Nat) (ex : List Xt) (pad : Int) (pl : List UInt8) (id : Int) (Q : Out → List Blk → Gh → Prop) : Prop :=
  callx (env_25 mk ty seq ti ss tc cs tx ex pad pl id hv hb) (wpx (env_25 mk ty seq ti ss tc cs tx ex pad pl id hv hb) 1000) 25 [.agg (medM mk ty seq ti ss tc cs tx ex pad pl), .int .i64 id] [] {} Q
theorem vc_25 (mk : Bool) (ty : Int) (seq : Int) (ti : Int) (ss : Int) (tc : Nat) (cs : List Int) (tx : Nat) (ex : List Xt) (pad : Int) (pl : List UInt8) (id : Int) (Q : Out → List Blk → Gh → Prop) : goal_25 (lookV [(102407, .int .i64), (102410, .int .i64), (102416, .int .i64), (102419, .int .i64), (102424, .int .i64), (102427, .str), (102412, .int .i64), (102413, .int .i64)]) (lookB []) mk ty seq ti ss tc cs tx ex pad pl id Q = (
((∃ x_0 : Nat, ((Lf ((x_0 ≤ (List.length ex)) ∧
 (∀ x_1 : Xt, ((Membership.mem (List.take x_0 ex) x_1) →
((Prod.fst x_1) ≠ id))))) ∧
 ((((AV.bool mk) :: ((AV.int .i64 ty) :: ((AV.int .i64 seq) :: ((AV.int .i64 ti) :: ((AV.int .i64 ss) :: ((AV.lst tc (cellsI cs) (List.length cs) (1 : Nat)) :: ((AV.lst tx (cellsXM ex) (List.length ex) (2 : Nat)) :: ((AV.int .i64 pad) :: ((AV.str pl) :: []))))))))) = ((AV.bool mk) :: ((AV.int .i64 ty) :: ((AV.int .i64 seq) :: ((AV.int .i64 ti) :: ((AV.int .i64 ss) :: ((AV.lst tc (cellsI cs) (List.length cs) (1 : Nat)) :: ((AV.lst tx (cellsXM ex) (List.length ex) (2 : Nat)) :: ((AV.int .i64 pad) :: ((AV.str pl) :: [])))))))))) ∧
 (((AV.int .i64 id) = (AV.int .i64 id)) ∧
 (((AV.ptr (0 : Nat) (9 : Nat) (0 : Nat)) = (AV.ptr (0 : Nat) (9 : Nat) (0 : Nat))) ∧
 (((AV.int .i64 (0 : Int)) = (AV.int .i64 (Nat.cast x_0 : Int))) ∧
 True)))))) ∧
 (∀ x_0 : Nat, ((Lf ((x_0 ≤ (List.length ex)) ∧
 (∀ x_1 : Xt, ((Membership.mem (List.take x_0 ex) x_1) →
((Prod.fst x_1) ≠ id))))) →
(∃ n_1 : Int, (((AV.int .i64 (Nat.cast x_0 : Int)) = (AV.int .i64 n_1)) ∧
 (∃ n_2 : Int, (((AV.int .i64 (Nat.cast (List.length ex) : Int)) = (AV.int .i64 n_2)) ∧
 (bif (decide (n_1 < n_2)) then (∃ n_3 : Int, (((AV.int .i64 (Nat.cast x_0 : Int)) = (AV.int .i64 n_3)) ∧
 (bif (((decide ((0 : Int) ≤ n_3)) && (Nat.blt (Int.toNat n_3) (List.length ex))) && true) then (bif (Nat.blt (((Int.toNat n_3) * (2 : Nat)) + (0 : Nat)) (List.length (cellsXM ex))) then (∃ n_4 : Int, (((List.getD (cellsXM ex) (((Int.toNat n_3) * (2 : Nat)) + (0 : Nat)) AV.undef) = (AV.int .i64 n_4)) ∧
 (bif (n_4 == id) then (∃ n_5 : Int, (((AV.int .i64 (Nat.cast x_0 : Int)) = (AV.int .i64 n_5)) ∧
 (bif (((decide ((0 : Int) ≤ n_5)) && (Nat.blt (Int.toNat n_5) (List.length ex))) && true) then (bif (Nat.blt (((Int.toNat n_5) * (2 : Nat)) + (1 : Nat)) (List.length (cellsXM ex))) then (∃ s_6 : (List UInt8), (((List.getD (cellsXM ex) (((Int.toNat n_5) * (2 : Nat)) + (1 : Nat)) AV.undef) = (AV.str s_6)) ∧
 (Q (Out.ret (AV.tup ((AV.str s_6) :: ((AV.bool true) :: [])))) [] (Gh.mk (0 : Nat) (0 : Nat) []))))
else False)
else False)))
else (∃ n_5 : Int, (((AV.int .i64 (Nat.cast x_0 : Int)) = (AV.int .i64 n_5)) ∧
 (∃ n_6 : Int, (((AV.int .i64 (IntKind.wrap .i64 (n_5 + (1 : Int)))) = (AV.int .i64 n_6)) ∧
 ((True ∧
 ((0 : Nat) = (0 : Nat))) ∧
 (∃ y_7 : Nat, ((Lf ((y_7 ≤ (List.length ex)) ∧
 (∀ x_8 : Xt, ((Membership.mem (List.take y_7 ex) x_8) →
((Prod.fst x_8) ≠ id))))) ∧
 ((((List.length ex) - y_7) < ((List.length ex) - x_0)) ∧
 ((((AV.bool mk) :: ((AV.int .i64 ty) :: ((AV.int .i64 seq) :: ((AV.int .i64 ti) :: ((AV.int .i64 ss) :: ((AV.lst tc (cellsI cs) (List.length cs) (1 : Nat)) :: ((AV.lst tx (cellsXM ex) (List.length ex) (2 : Nat)) :: ((AV.int .i64 pad) :: ((AV.str pl) :: []))))))))) = ((AV.bool mk) :: ((AV.int .i64 ty) :: ((AV.int .i64 seq) :: ((AV.int .i64 ti) :: ((AV.int .i64 ss) :: ((AV.lst tc (cellsI cs) (List.length cs) (1 : Nat)) :: ((AV.lst tx (cellsXM ex) (List.length ex) (2 : Nat)) :: ((AV.int .i64 pad) :: ((AV.str pl) :: [])))))))))) ∧
 (((AV.int .i64 id) = (AV.int .i64 id)) ∧
 (((AV.ptr (0 : Nat) (9 : Nat) (0 : Nat)) = (AV.ptr (0 : Nat) (9 : Nat) (0 : Nat))) ∧
 (((AV.int .i64 n_6) = (AV.int .i64 (Nat.cast y_7 : Int))) ∧
 True)))))))))))))))
else False)
else False)))
else (Q (Out.ret (AV.tup ((AV.str []) :: ((AV.bool false) :: [])))) [] (Gh.mk (0 : Nat) (0 : Nat) []))))))))))) := by kernel_rfl

noncomputable def goal_24 (hv : Nat → Option Pa) (hb : Nat → Option Bool) (mk : Bool) (ty seq ti ss : Int) (tc : Nat) (cs : List Int) (tx : Nat) (ex : List Xt) (pad : Int) (pl : List UInt8) (id : Int) (Q : Out → List Blk → Gh → Prop) : Prop :=
  callx (env_24 mk ty seq ti ss tc cs tx ex pad pl id hv hb) (wpx (env_24 mk ty seq ti ss tc cs tx ex pad pl id hv hb) 1000) 24 [.agg (medM mk ty seq ti ss tc cs tx ex pad pl), .int .i64 id] [] {} Q
theorem vc_24 (mk : Bool) (ty : Int) (seq : Int) (ti : Int) (ss : Int) (tc : Nat) (cs : List Int) (tx : Nat) (ex : List Xt) (pad : Int) (pl : List UInt8) (id : Int) (Q : Out → List Blk → Gh → Prop) : goal_24 (lookV [(188423, .int .i64), (188426, .int .i64), (188431, .agg [(.int .i64), (.str)]), (98334, .str), (188434, .int .i64)]) (lookB []) mk ty seq ti ss tc cs tx ex pad pl id Q = (
(∃ cs_0 : (List Int), (∃ ex_1 : (List Xt), ((Lf (((cellsI cs) = (cellsI cs_0)) ∧
 (((List.length cs) = (List.length cs_0)) ∧
 (((cellsXM ex) = (cellsXM ex_1)) ∧
 (((List.length ex) = (List.length ex_1)) ∧
 (((List.length cs_0) ≤ (1000000 : Nat)) ∧
 (((List.length ex_1) ≤ (1000000 : Nat)) ∧
 (dataM ex_1)))))))) ∧
 (∀ r_2 : Int, ((Lf (r_2 = (ite ((rightM ty seq ti ss cs_0 ex_1 pad) = true) (0 : Int) (230 : Int)))) →
(bif (r_2 != (0 : Int)) then (Q (Out.ret (AV.tup ((AV.str []) :: ((AV.int .i64 r_2) :: [])))) [] (Gh.mk (0 : Nat) (0 : Nat) []))
else (bif (decide (id < (1 : Int))) then (Q (Out.ret (AV.tup ((AV.str []) :: ((AV.int .i64 (2 : Int)) :: [])))) [] (Gh.mk (0 : Nat) (0 : Nat) []))
else (bif (decide (id > (255 : Int))) then (Q (Out.ret (AV.tup ((AV.str []) :: ((AV.int .i64 (2 : Int)) :: [])))) [] (Gh.mk (0 : Nat) (0 : Nat) []))
else (∃ n_3 : Int, (((AV.int .i64 (Nat.cast (List.length ex) : Int)) = (AV.int .i64 n_3)) ∧
 ((∃ x_4 : Nat, ((Lf ((x_4 ≤ (List.length ex)) ∧
 (∀ x_5 : Xt, ((Membership.mem (List.take x_4 ex) x_5) →
((Prod.fst x_5) ≠ id))))) ∧
 ((((AV.bool mk) :: ((AV.int .i64 ty) :: ((AV.int .i64 seq) :: ((AV.int .i64 ti) :: ((AV.int .i64 ss) :: ((AV.lst tc (cellsI cs) (List.length cs) (1 : Nat)) :: ((AV.lst tx (cellsXM ex) (List.length ex) (2 : Nat)) :: ((AV.int .i64 pad) :: ((AV.str pl) :: []))))))))) = ((AV.bool mk) :: ((AV.int .i64 ty) :: ((AV.int .i64 seq) :: ((AV.int .i64 ti) :: ((AV.int .i64 ss) :: ((AV.lst tc (cellsI cs) (List.length cs) (1 : Nat)) :: ((AV.lst tx (cellsXM ex) (List.length ex) (2 : Nat)) :: ((AV.int .i64 pad) :: ((AV.str pl) :: [])))))))))) ∧
 ((((AV.int .i64 id) :: []) = ((AV.int .i64 id) :: [])) ∧
 (((AV.lst tx (cellsXM ex) (List.length ex) (2 : Nat)) = (AV.lst tx (cellsXM ex) (List.length ex) (2 : Nat))) ∧
 (((AV.fn (Fn.func (47 : Nat)) [] ((AV.ptr (1 : Nat) (1 : Nat) (0 : Nat)) :: [])) = (AV.fn (Fn.func (47 : Nat)) [] ((AV.ptr (1 : Nat) (1 : Nat) (0 : Nat)) :: []))) ∧
 (((AV.int .i64 n_3) = (AV.int .i64 (Nat.cast (List.length ex) : Int))) ∧
 (((AV.int .i64 (0 : Int)) = (AV.int .i64 (Nat.cast x_4 : Int))) ∧
 True)))))))) ∧
 (∀ x_4 : Nat, ((Lf ((x_4 ≤ (List.length ex)) ∧
 (∀ x_5 : Xt, ((Membership.mem (List.take x_4 ex) x_5) →
((Prod.fst x_5) ≠ id))))) →
(bif (decide ((Nat.cast x_4 : Int) < (Nat.cast (List.length ex) : Int))) then (∃ n_5 : Int, (((AV.int .i64 (Nat.cast x_4 : Int)) = (AV.int .i64 n_5)) ∧
 (bif (((decide ((0 : Int) ≤ n_5)) && (Nat.blt (Int.toNat n_5) (List.length ex))) && true) then (bif (Nat.ble (((Int.toNat n_5) * (2 : Nat)) + (2 : Nat)) (List.length (cellsXM ex))) then (∃ n_6 : Int, (∃ s_7 : (List UInt8), (((AV.agg (List.take (2 : Nat) (List.drop ((Int.toNat n_5) * (2 : Nat)) (cellsXM ex)))) = (AV.agg ((AV.int .i64 n_6) :: ((AV.str s_7) :: [])))) ∧
 (bif (n_6 == id) then (bif (decide (n_5 < (0 : Int))) then (Q (Out.ret (AV.tup ((AV.str []) :: ((AV.int .i64 (4 : Int)) :: [])))) [] (Gh.mk (0 : Nat) (0 : Nat) []))
else (bif (((decide ((0 : Int) ≤ n_5)) && (Nat.blt (Int.toNat n_5) (List.length ex))) && true) then (bif (Nat.blt (((Int.toNat n_5) * (2 : Nat)) + (1 : Nat)) (List.length (cellsXM ex))) then (∃ s_8 : (List UInt8), (((List.getD (cellsXM ex) (((Int.toNat n_5) * (2 : Nat)) + (1 : Nat)) AV.undef) = (AV.str s_8)) ∧
 (Q (Out.ret (AV.tup ((AV.str s_8) :: ((AV.int .i64 (0 : Int)) :: [])))) [] (Gh.mk (0 : Nat) (0 : Nat) []))))
else False)
else False))
else (∃ n_8 : Int, (((AV.int .i64 (IntKind.wrap .i64 ((Nat.cast x_4 : Int) + (1 : Int)))) = (AV.int .i64 n_8)) ∧
 ((True ∧
 ((0 : Nat) = (0 : Nat))) ∧
 (∃ y_9 : Nat, ((Lf ((y_9 ≤ (List.length ex)) ∧
 (∀ x_10 : Xt, ((Membership.mem (List.take y_9 ex) x_10) →
((Prod.fst x_10) ≠ id))))) ∧
 ((((List.length ex) - y_9) < ((List.length ex) - x_4)) ∧
 ((((AV.bool mk) :: ((AV.int .i64 ty) :: ((AV.int .i64 seq) :: ((AV.int .i64 ti) :: ((AV.int .i64 ss) :: ((AV.lst tc (cellsI cs) (List.length cs) (1 : Nat)) :: ((AV.lst tx (cellsXM ex) (List.length ex) (2 : Nat)) :: ((AV.int .i64 pad) :: ((AV.str pl) :: []))))))))) = ((AV.bool mk) :: ((AV.int .i64 ty) :: ((AV.int .i64 seq) :: ((AV.int .i64 ti) :: ((AV.int .i64 ss) :: ((AV.lst tc (cellsI cs) (List.length cs) (1 : Nat)) :: ((AV.lst tx (cellsXM ex) (List.length ex) (2 : Nat)) :: ((AV.int .i64 pad) :: ((AV.str pl) :: [])))))))))) ∧
 ((((AV.int .i64 id) :: []) = ((AV.int .i64 id) :: [])) ∧
 (((AV.lst tx (cellsXM ex) (List.length ex) (2 : Nat)) = (AV.lst tx (cellsXM ex) (List.length ex) (2 : Nat))) ∧
 (((AV.fn (Fn.func (47 : Nat)) [] ((AV.ptr (1 : Nat) (1 : Nat) (0 : Nat)) :: [])) = (AV.fn (Fn.func (47 : Nat)) [] ((AV.ptr (1 : Nat) (1 : Nat) (0 : Nat)) :: []))) ∧
 (((AV.int .i64 (Nat.cast (List.length ex) : Int)) = (AV.int .i64 (Nat.cast (List.length ex) : Int))) ∧
 (((AV.int .i64 n_8) = (AV.int .i64 (Nat.cast y_9 : Int))) ∧
 True))))))))))))))))
else False)
else False)))
else (Q (Out.ret (AV.tup ((AV.str []) :: ((AV.int .i64 (4 : Int)) :: [])))) [] (Gh.mk (0 : Nat) (0 : Nat) []))))))))))))))))) := by kernel_rfl


theorem exts_pre : ∀ (l m : List Xt) (a : Int), extsOkM a (l ++ m) = true → extsOkM a l = true
  | [], _, _, _ => rfl
  | x :: l, m, a, h => by
    rw [List.cons_append, extsOkM, Bool.and_eq_true] at h
    rw [extsOkM, h.1, exts_pre l m x.1 h.2]
    rfl
theorem exts_tk {ex : List Xt} (h : extsOkM 0 ex = true) (i : Nat) : extsOkM 0 (ex.take i) = true := exts_pre _ (ex.drop i) 0 (by rw [List.take_append_drop]; exact h)
theorem ixI {i n : Nat} {A : Prop} (hi : i < n) (h : A) : bif (((decide ((0 : Int) ≤ (i : Int))) && (Nat.blt (Int.toNat (i : Int)) n)) && true) then A else False := ckI (by simp; omega) h
section
variable {mk : Bool} {ty seq ti ss : Int} {tc : Nat} {cs : List Int} {tx : Nat} {ex : List Xt} {pad : Int} {pl : List UInt8} (hc : cs.length ≤ 1000000) (hx : ex.length ≤ 1000000)
include hc hx
theorem right_run (Q : Out → List Blk → Gh → Prop) (hT : rightM ty seq ti ss cs ex pad = true → Q (.ret (.bool true)) [] {}) (hF : rightM ty seq ti ss cs ex pad = false → Q (.ret (.bool false)) [] {}) : ∃ hv hb, goal_16 hv hb mk ty seq ti ss tc cs tx ex pad pl Q := by
  obtain ⟨hv, hb', e⟩ : ∃ hv hb, goal_16 hv hb mk ty seq ti ss tc cs tx ex pad pl Q = _ := ⟨_, _, vc_16 mk ty seq ti ss tc cs tx ex pad pl Q⟩
  refine ⟨hv, hb', e.mpr ?_⟩
  clear e
  have F : ¬ (0 ≤ ty ∧ ty ≤ 127 ∧ 0 ≤ seq ∧ seq ≤ 65535 ∧ 0 ≤ ti ∧ ti < 4294967296 ∧ 0 ≤ ss ∧ ss < 4294967296 ∧ (∀ x ∈ cs, 0 ≤ x ∧ x < 4294967296) ∧ 0 ≤ pad ∧ pad ≤ 255 ∧ cs.length ≤ 15 ∧ ex.length ≤ 16) → Q (.ret (.bool false)) [] {} := fun h => hF (by rw [rightM, flagsM, decide_eq_false h, Bool.false_and])
  have G : extsOkM 0 ex = false → Q (.ret (.bool false)) [] {} := fun h => hF (by rw [rightM, h, Bool.and_false])
  refine splitD (fun h => F fun a => by omega) (fun h0 => splitD (fun h => F fun a => by omega) (fun h1 => splitD (fun h => F fun a => by omega) (fun h2 => splitD (fun h => F fun a => by omega) (fun h3 => splitD (fun h => F fun a => by omega) (fun h4 => splitD (fun h => F fun a => by omega) (fun h5 => splitD (fun h => F fun a => by omega) (fun h6 => splitD (fun h => F fun a => by omega) (fun h7 => splitD (fun h => F fun a => by omega) (fun h8 => splitD (fun h => F fun a => by omega) (fun h9 => ⟨_, rfl, splitD (fun h => F fun a => by omega) (fun h10 => ⟨_, rfl, splitD (fun h => F fun a => by omega) (fun h11 => ?_)⟩)⟩))))))))))
  refine ⟨⟨0, ⟨by omega, by simp⟩, rfl, rfl, rfl, trivial⟩, ?_⟩
  rintro i ⟨hi, hin⟩
  refine ⟨_, rfl, _, rfl, splitD (fun hlt => ?_) (fun hge => ?_)⟩
  · have hlt' : i < cs.length := by omega
    have hm : cs[i] ∈ cs := List.getElem_mem hlt'
    refine ⟨_, rfl, ixI hlt' (ckI (by rw [cellsI_length]; simp; omega) (cellsI_get hlt' (splitD (fun h => F fun a => by have := a.2.2.2.2.2.2.2.2.1 _ hm; omega) (fun g1 => ⟨_, rfl, ixI hlt' (ckI (by rw [cellsI_length]; simp; omega) (cellsI_get hlt' (splitD (fun h => F fun a => by have := a.2.2.2.2.2.2.2.2.1 _ hm; omega) (fun g2 => ⟨_, rfl, wrapI (by omega) (by omega) ⟨⟨trivial, rfl⟩, i + 1, ⟨hlt', ?_⟩, by omega, rfl, rfl, rfl, trivial⟩⟩)) (by simp)))⟩)) (by simp)))⟩
    intro x hx
    rw [List.take_add_one, List.getElem?_eq_getElem hlt'] at hx
    rcases List.mem_append.1 hx with h | h
    · exact hin x h
    · simp at h
      subst h
      omega
  · have hall : ∀ x ∈ cs, 0 ≤ x ∧ x < 4294967296 := by
      rw [List.take_of_length_le (by omega)] at hin
      exact hin
    have hfl : flagsM ty seq ti ss cs ex.length pad = true := by
      rw [flagsM]
      exact decide_eq_true ⟨by omega, by omega, by omega, by omega, by omega, by omega, by omega, by omega, hall, by omega, by omega, by omega, by omega⟩
    refine ⟨⟨0, ⟨by omega, rfl⟩, rfl, rfl, rfl, rfl, trivial⟩, ?_⟩
    rintro j ⟨hj, hok⟩
    refine ⟨_, rfl, _, rfl, splitD (fun hlt => ?_) (fun hge => ?_)⟩
    · have hlt' : j < ex.length := by omega
      have et := exts_take hlt'
      rw [hok, Bool.true_and] at et
      have B : ¬ (lastOfM 0 (ex.take j) < ex[j].1 ∧ ex[j].1 ≤ 255 ∧ ex[j].2.length ≤ 255) → Q (.ret (.bool false)) [] {} := fun h => G (by
        rw [decide_eq_false h] at et
        cases hh : extsOkM 0 ex
        · rfl
        · rw [exts_tk hh] at et
          cases et)
      have hl := last_take ex 0 j hlt'
      have cl : ∀ {d : Nat}, d < 2 → Nat.blt ((Int.toNat (j : Int)) * 2 + d) (cellsXM ex).length = true := fun h => by rw [cellsX_len]; simp; omega
      refine ⟨_, rfl, ixI hlt' (ckI (cl (by omega)) (getXi hlt' (by simp) ⟨_, rfl, splitD (fun h => B fun a => by omega) (fun g1 => ?_)⟩))⟩
      refine ⟨_, rfl, ixI hlt' (ckI (cl (by omega)) (getXi hlt' (by simp) (splitD (fun h => B fun a => by omega) (fun g2 => ?_))))⟩
      refine ⟨_, rfl, ixI hlt' (ckI (cl (by omega)) (getXs hlt' (by simp) ⟨_, rfl, splitD (fun h => B fun a => by omega) (fun g3 => ?_)⟩))⟩
      refine ⟨_, rfl, ixI hlt' (ckI (cl (by omega)) (getXi hlt' (by simp) ⟨_, rfl, wrapI (by omega) (by omega) ⟨⟨trivial, rfl⟩, j + 1, ⟨hlt', ?_⟩, by omega, rfl, rfl, rfl, by rw [hl], trivial⟩⟩))⟩
      rw [et]
      exact decide_eq_true ⟨by omega, by omega, by omega⟩
    · rw [List.take_of_length_le (by omega)] at hok
      exact hT (by rw [rightM, hfl, hok]; rfl)
/-- the data of an extension with a number -/
def findM (id : Int) : List Xt → Option (List UInt8)
  | [] => none
  | x :: l => if x.1 = id then some x.2 else findM id l
omit hc hx in
theorem find_at {id : Int} : ∀ (l : List Xt) (i : Nat) (h : i < l.length), (∀ x ∈ l.take i, x.1 ≠ id) → l[i].1 = id → findM id l = some l[i].2
  | x :: l, 0, h, _, he => by
    rw [findM, if_pos (by simpa using he)]
    rfl
  | x :: l, i + 1, h, hn, he => by
    rw [findM, if_neg (hn x (by simp))]
    exact find_at l i (by simpa using h) (fun y hy => hn y (by simp [hy])) (by simpa using he)
omit hc hx in
theorem find_none {id : Int} : ∀ (l : List Xt), (∀ x ∈ l, x.1 ≠ id) → findM id l = none
  | [], _ => rfl
  | x :: l, h => by
    rw [findM, if_neg (h x (by simp)), find_none l fun y hy => h y (by simp [hy])]
def rfindM (id : Int) (ex : List Xt) : List UInt8 × Bool := match findM id ex with
  | some d => (d, true)
  | none => ([], false)
def mfindM (r : Bool) (id : Int) (ex : List Xt) : List UInt8 × Int := if r = true then (if id < 1 ∨ 255 < id then ([], 2) else match findM id ex with
  | some d => (d, 0)
  | none => ([], 4)) else ([], 230)
omit hc hx in
theorem ne_step {ex : List Xt} {i : Nat} {id : Int} (hi : i < ex.length) (h : ∀ x ∈ ex.take i, x.1 ≠ id) (hn : ex[i].1 ≠ id) : ∀ x ∈ ex.take (i + 1), x.1 ≠ id := by
  intro x hx
  rw [List.take_add_one, List.getElem?_eq_getElem hi] at hx
  rcases List.mem_append.1 hx with g | g
  · exact h x g
  · simp at g
    subst g
    exact hn
theorem rfind_run (id : Int) (Q : Out → List Blk → Gh → Prop) (hq : ∀ s b, (s, b) = rfindM id ex → Q (.ret (.tup [.str s, .bool b])) [] {}) : ∃ hv hb, goal_25 hv hb mk ty seq ti ss tc cs tx ex pad pl id Q := by
  obtain ⟨hv, hb', e⟩ : ∃ hv hb, goal_25 hv hb mk ty seq ti ss tc cs tx ex pad pl id Q = _ := ⟨_, _, vc_25 mk ty seq ti ss tc cs tx ex pad pl id Q⟩
  refine ⟨hv, hb', e.mpr ?_⟩
  clear e
  refine ⟨⟨0, ⟨by omega, by simp⟩, rfl, rfl, rfl, rfl, trivial⟩, ?_⟩
  rintro i ⟨hi, hne⟩
  refine ⟨_, rfl, _, rfl, splitD (fun hlt => ?_) (fun hge => ?_)⟩
  · have hlt' : i < ex.length := by omega
    refine ⟨_, rfl, ixI hlt' (ckI (by rw [cellsX_len]; simp; omega) (getXi hlt' (by simp) (splitE (fun he => ⟨_, rfl, ixI hlt' (ckI (by rw [cellsX_len]; simp; omega) (getXs hlt' (by simp) (hq _ _ ?_)))⟩) (fun he => ⟨_, rfl, wrapI (by omega) (by omega) ⟨⟨trivial, rfl⟩, i + 1, ⟨hlt', ne_step hlt' hne he⟩, by omega, rfl, rfl, rfl, rfl, trivial⟩⟩))))⟩
    rw [rfindM, find_at ex i hlt' hne he]
  · rw [List.take_of_length_le (by omega)] at hne
    exact hq _ _ (by rw [rfindM, find_none ex hne])
theorem mfind_run (hd : dataM ex) (id : Int) (Q : Out → List Blk → Gh → Prop) (hq : ∀ s b, (s, b) = mfindM (rightM ty seq ti ss cs ex pad) id ex → Q (.ret (.tup [.str s, .int .i64 b])) [] {}) : ∃ hv hb, goal_24 hv hb mk ty seq ti ss tc cs tx ex pad pl id Q := by
  obtain ⟨hv, hb', e⟩ : ∃ hv hb, goal_24 hv hb mk ty seq ti ss tc cs tx ex pad pl id Q = _ := ⟨_, _, vc_24 mk ty seq ti ss tc cs tx ex pad pl id Q⟩
  refine ⟨hv, hb', e.mpr ?_⟩
  clear e
  refine ⟨cs, ex, ⟨rfl, rfl, rfl, rfl, hc, hx, hd⟩, ?_⟩
  rintro r ⟨hr⟩
  cases hR : rightM ty seq ti ss cs ex pad
  · rw [hR, if_neg (by simp)] at hr
    subst hr
    exact splitNE (fun _ => hq _ _ (by rw [hR]; rfl)) (fun h => absurd h (by decide))
  · rw [hR, if_pos rfl] at hr
    subst hr
    rw [hR] at hq
    have hm : mfindM true id ex = if id < 1 ∨ 255 < id then ([], (2 : Int)) else match findM id ex with
      | some d => (d, 0)
      | none => ([], 4) := rfl
    rw [hm] at hq
    refine splitNE (fun h => absurd rfl h) (fun _ => splitD (fun h => hq _ _ (by rw [if_pos (.inl h)])) (fun h1 => splitD (fun h => hq _ _ (by rw [if_pos (.inr h)])) (fun h2 => ⟨_, rfl, ⟨0, ⟨by omega, by simp⟩, rfl, rfl, rfl, rfl, rfl, rfl, trivial⟩, ?_⟩)))
    rw [if_neg (by omega)] at hq
    rintro i ⟨hi, hne⟩
    refine splitD (fun hlt => ?_) (fun hge => ?_)
    · have hlt' : i < ex.length := by omega
      refine ⟨_, rfl, ixI hlt' (ckI (by rw [cellsX_len]; simp; omega) (getX hlt' (by simp) (splitE (fun he => splitD (fun h => by exfalso; omega) (fun _ => ixI hlt' (ckI (by rw [cellsX_len]; simp; omega) (getXs hlt' (by simp) (hq _ _ ?_))))) (fun he => wrapI (by omega) (by omega) ⟨⟨trivial, rfl⟩, i + 1, ⟨hlt', ne_step hlt' hne he⟩, by omega, rfl, rfl, rfl, rfl, rfl, rfl, trivial⟩))))⟩
      rw [find_at ex i hlt' hne he]
    · rw [List.take_of_length_le (by omega)] at hne
      exact hq _ _ (by rw [find_none ex hne])
end
def cRight : Con
  | [.agg [.bool mk, .int .i64 ty, .int .i64 seq, .int .i64 ti, .int .i64 ss, .lst _ c5 n5 1, .lst _ c6 n6 2, .int .i64 pad, .str pl]], H, K => ∃ (cs : List Int) (ex : List Xt), Lf (medK c5 n5 c6 n6 cs ex) ∧
      ∀ b : Bool, Lf (b = rightM ty seq ti ss cs ex pad) → K (.ret (.bool b)) H
  | _, _, _ => False
theorem rright_ok : ValidF Tryd.prog gl0 16 cRight := by
  refine valid_flat (enters_of (by kernel_rfl)) gl0_noY fun args H Q hc => ?_
  unfold cRight at hc
  split at hc
  · rename_i mk ty seq ti ss tc c5 n5 tx c6 n6 pad pl
    obtain ⟨cs, ex, ⟨rfl, rfl, rfl, rfl, k1, k2, hd⟩, hq⟩ := hc
    obtain ⟨hv, hb', h⟩ := right_run (mk := mk) (tc := tc) (tx := tx) (pl := pl) k1 k2 (fun o H' _ => H' = [] ∧ (∃ v, o = .ret v ∧ old 0 v = true ∧ noY v = true) ∧ Q o H) (fun hr => ⟨rfl, ⟨_, rfl, rfl, rfl⟩, hq _ ⟨hr.symm⟩⟩) (fun hr => ⟨rfl, ⟨_, rfl, rfl, rfl⟩, hq _ ⟨hr.symm⟩⟩)
    refine ⟨rfl, rfl, _, 1000, ?_, rfl, h⟩
    exact ⟨mixed23, names23, tabA_ok, sm0_ok⟩
  · exact hc.elim
def cRFind : Con
  | [.agg [.bool mk, .int .i64 ty, .int .i64 seq, .int .i64 ti, .int .i64 ss, .lst _ c5 n5 1, .lst _ c6 n6 2, .int .i64 pad, .str pl], .int .i64 id], H, K => ∃ (cs : List Int) (ex : List Xt), Lf (medK c5 n5 c6 n6 cs ex) ∧
      ∀ (s : List UInt8) (b : Bool), Lf ((s, b) = rfindM id ex) → K (.ret (.tup [.str s, .bool b])) H
  | _, _, _ => False
theorem rfind_ok : ValidF Tryd.prog gl0 25 cRFind := by
  refine valid_flat (enters_of (by kernel_rfl)) gl0_noY fun args H Q hc => ?_
  unfold cRFind at hc
  split at hc
  · rename_i mk ty seq ti ss tc c5 n5 tx c6 n6 pad pl id
    obtain ⟨cs, ex, ⟨rfl, rfl, rfl, rfl, k1, k2, hd⟩, hq⟩ := hc
    obtain ⟨hv, hb', h⟩ := rfind_run (mk := mk) (ty := ty) (seq := seq) (ti := ti) (ss := ss) (tc := tc) (tx := tx) (pad := pad) (pl := pl) k1 k2 id (fun o H' _ => H' = [] ∧ (∃ v, o = .ret v ∧ old 0 v = true ∧ noY v = true) ∧ Q o H) (fun s b hr => ⟨rfl, ⟨_, rfl, rfl, rfl⟩, hq _ _ ⟨hr⟩⟩)
    refine ⟨rfl, rfl, _, 1000, ?_, rfl, h⟩
    exact ⟨mixed23, names23, tabA_ok, sm0_ok⟩
  · exact hc.elim
def cFind : Con
  | [.agg [.bool mk, .int .i64 ty, .int .i64 seq, .int .i64 ti, .int .i64 ss, .lst _ c5 n5 1, .lst _ c6 n6 2, .int .i64 pad, .str pl], .int .i64 id], H, K => ∃ (cs : List Int) (ex : List Xt), Lf (medK c5 n5 c6 n6 cs ex) ∧
      ∀ (s : List UInt8) (b : Int), Lf ((s, b) = mfindM (rightM ty seq ti ss cs ex pad) id ex) → K (.ret (.tup [.str s, .int .i64 b])) H
  | _, _, _ => False
theorem mfind_ok : ValidF Tryd.prog gl0 24 cFind := by
  refine valid_flat (enters_of (by kernel_rfl)) gl0_noY fun args H Q hc => ?_
  unfold cFind at hc
  split at hc
  · rename_i mk ty seq ti ss tc c5 n5 tx c6 n6 pad pl id
    obtain ⟨cs, ex, ⟨rfl, rfl, rfl, rfl, k1, k2, hd⟩, hq⟩ := hc
    obtain ⟨hv, hb', h⟩ := mfind_run (mk := mk) (tc := tc) (tx := tx) (pl := pl) k1 k2 hd id (fun o H' _ => H' = [] ∧ (∃ v, o = .ret v ∧ old 0 v = true ∧ noY v = true) ∧ Q o H) (fun s b hr => ⟨rfl, ⟨_, rfl, rfl, rfl⟩, hq _ _ ⟨hr⟩⟩)
    refine ⟨rfl, rfl, _, 1000, ?_, rfl, h⟩
    exact ⟨mixed23, names23, tabA_ok, smM_ok⟩
  · exact hc.elim
end Go.Proofs.YtbchmkhliehbfaaDoor

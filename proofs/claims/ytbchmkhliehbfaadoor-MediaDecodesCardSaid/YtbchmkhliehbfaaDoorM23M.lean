/-
  Chapter 23, the reference: Right, Find; the program's Find.
-/
import Derived.Test.YtbchmkhliehbfaaDoorM23L
set_option linter.unusedSimpArgs false
set_option linter.unusedVariables false
set_option linter.unusedSectionVars false
namespace Go.Proofs.YtbchmkhliehbfaaDoor
open Go.RowKit
set_option maxRecDepth 1000000

section
variable (mk : Bool) (ty seq ti ss : Int) (tc : Nat) (cs : List Int) (tx : Nat) (ex : List Xt) (pad : Int) (pl : List UInt8)
def inv_16a : LInv where
  α := Nat
  pre i := Lf (i ≤ cs.length ∧ ∀ x ∈ cs.take i, 0 ≤ x ∧ x < 4294967296)
  st i := ⟨mkT [(1, .ptr 0 9 0), (3, .int .i64 (i : Nat))], [⟨.exact, true, medM mk ty seq ti ss tc cs tx ex pad pl⟩]⟩
  mu i := cs.length - i
def inv_16b : LInv where
  α := Nat
  pre i := Lf (i ≤ ex.length ∧ extsOkM 0 (ex.take i) = true)
  st i := ⟨mkT [(1, .ptr 0 9 0), (4, .int .i64 (lastOfM 0 (ex.take i))), (5, .int .i64 (i : Nat))], [⟨.exact, true, medM mk ty seq ti ss tc cs tx ex pad pl⟩]⟩
  mu i := ex.length - i
noncomputable def env_16 (hv : Nat → Option Pa) (hb : Nat → Option Bool) : Env := e23 sm0 (fun i => bif Nat.beq i 16000 then some (fun _ => [[inv_16a mk ty seq ti ss tc cs tx ex pad pl]]) else bif Nat.beq i 16002 then some (fun _ => [[inv_16b mk ty seq ti ss tc cs tx ex pad pl]]) else none) hv hb
end
noncomputable def goal_16 (hv : Nat → Option Pa) (hb : Nat → Option Bool) (mk : Bool) (ty seq ti ss : Int) (tc : Nat) (cs : List Int) (tx : Nat) (ex : List Xt) (pad : Int) (pl : List UInt8) (Q : Out → List Blk → Gh → Prop) : Prop :=
  callx (env_16 mk ty seq ti ss tc cs tx ex pad pl hv hb) (wpx (env_16 mk ty seq ti ss tc cs tx ex pad pl hv hb) 1000) 16 [.agg (medM mk ty seq ti ss tc cs tx ex pad pl)] [] {} Q
theorem vc_16 (mk : Bool) (ty : Int) (seq : Int) (ti : Int) (ss : Int) (tc : Nat) (cs : List Int) (tx : Nat) (ex : List Xt) (pad : Int) (pl : List UInt8) (Q : Out → List Blk → Gh → Prop) : goal_16 (lookV [(65593, .int .i64), (65599, .int .i64), (65602, .int .i64), (65605, .int .i64), (65611, .int .i64), (65613, .int .i64), (65618, .int .i64), (65620, .int .i64), (65607, .int .i64), (65608, .int .i64), (65623, .int .i64), (65626, .int .i64), (65632, .int .i64), (65635, .int .i64), (65636, .int .i64), (65641, .int .i64), (65644, .int .i64), (65650, .int .i64), (65653, .str), (65654, .int .i64), (65659, .int .i64), (65662, .int .i64), (65628, .int .i64), (65629, .int .i64)]) (lookB []) mk ty seq ti ss tc cs tx ex pad pl Q = (
(bif (decide (ty < (0 : Int))) then (Q (Out.ret (AV.bool false)) [] (Gh.mk (0 : Nat) (0 : Nat) []))
else (bif (decide (ty > (127 : Int))) then (Q (Out.ret (AV.bool false)) [] (Gh.mk (0 : Nat) (0 : Nat) []))
else (bif (decide (seq < (0 : Int))) then (Q (Out.ret (AV.bool false)) [] (Gh.mk (0 : Nat) (0 : Nat) []))
else (bif (decide (seq > (65535 : Int))) then (Q (Out.ret (AV.bool false)) [] (Gh.mk (0 : Nat) (0 : Nat) []))
else (bif (decide (ti < (0 : Int))) then (Q (Out.ret (AV.bool false)) [] (Gh.mk (0 : Nat) (0 : Nat) []))
else (bif (decide (ti ≥ (4294967296 : Int))) then (Q (Out.ret (AV.bool false)) [] (Gh.mk (0 : Nat) (0 : Nat) []))
else (bif (decide (ss < (0 : Int))) then (Q (Out.ret (AV.bool false)) [] (Gh.mk (0 : Nat) (0 : Nat) []))
else (bif (decide (ss ≥ (4294967296 : Int))) then (Q (Out.ret (AV.bool false)) [] (Gh.mk (0 : Nat) (0 : Nat) []))
else (bif (decide (pad < (0 : Int))) then (Q (Out.ret (AV.bool false)) [] (Gh.mk (0 : Nat) (0 : Nat) []))
else (bif (decide (pad > (255 : Int))) then (Q (Out.ret (AV.bool false)) [] (Gh.mk (0 : Nat) (0 : Nat) []))
else (∃ n_0 : Int, (((AV.int .i64 (Nat.cast (List.length cs) : Int)) = (AV.int .i64 n_0)) ∧
 (bif (decide (n_0 > (15 : Int))) then (Q (Out.ret (AV.bool false)) [] (Gh.mk (0 : Nat) (0 : Nat) []))
else (∃ n_1 : Int, (((AV.int .i64 (Nat.cast (List.length ex) : Int)) = (AV.int .i64 n_1)) ∧
 (bif (decide (n_1 > (16 : Int))) then (Q (Out.ret (AV.bool false)) [] (Gh.mk (0 : Nat) (0 : Nat) []))
else ((∃ x_2 : Nat, ((Lf ((x_2 ≤ (List.length cs)) ∧
 (∀ x_3 : Int, ((Membership.mem (List.take x_2 cs) x_3) →
(((0 : Int) ≤ x_3) ∧
 (x_3 < (4294967296 : Int))))))) ∧
 ((((AV.bool mk) :: ((AV.int .i64 ty) :: ((AV.int .i64 seq) :: ((AV.int .i64 ti) :: ((AV.int .i64 ss) :: ((AV.lst tc (cellsI cs) (List.length cs) (1 : Nat)) :: ((AV.lst tx (cellsXM ex) (List.length ex) (2 : Nat)) :: ((AV.int .i64 pad) :: ((AV.str pl) :: []))))))))) = ((AV.bool mk) :: ((AV.int .i64 ty) :: ((AV.int .i64 seq) :: ((AV.int .i64 ti) :: ((AV.int .i64 ss) :: ((AV.lst tc (cellsI cs) (List.length cs) (1 : Nat)) :: ((AV.lst tx (cellsXM ex) (List.length ex) (2 : Nat)) :: ((AV.int .i64 pad) :: ((AV.str pl) :: [])))))))))) ∧
 (((AV.ptr (0 : Nat) (9 : Nat) (0 : Nat)) = (AV.ptr (0 : Nat) (9 : Nat) (0 : Nat))) ∧
 (((AV.int .i64 (0 : Int)) = (AV.int .i64 (Nat.cast x_2 : Int))) ∧
 True))))) ∧
 (∀ x_2 : Nat, ((Lf ((x_2 ≤ (List.length cs)) ∧
 (∀ x_3 : Int, ((Membership.mem (List.take x_2 cs) x_3) →
(((0 : Int) ≤ x_3) ∧
 (x_3 < (4294967296 : Int))))))) →
(∃ n_3 : Int, (((AV.int .i64 (Nat.cast x_2 : Int)) = (AV.int .i64 n_3)) ∧
 (∃ n_4 : Int, (((AV.int .i64 (Nat.cast (List.length cs) : Int)) = (AV.int .i64 n_4)) ∧
 (bif (decide (n_3 < n_4)) then (∃ n_5 : Int, (((AV.int .i64 (Nat.cast x_2 : Int)) = (AV.int .i64 n_5)) ∧
 (bif (((decide ((0 : Int) ≤ n_5)) && (Nat.blt (Int.toNat n_5) (List.length cs))) && true) then (bif (Nat.blt ((Int.toNat n_5) * (1 : Nat)) (List.length (cellsI cs))) then (∃ n_6 : Int, (((List.getD (cellsI cs) ((Int.toNat n_5) * (1 : Nat)) AV.undef) = (AV.int .i64 n_6)) ∧
 (bif (decide (n_6 < (0 : Int))) then (Q (Out.ret (AV.bool false)) [] (Gh.mk (0 : Nat) (0 : Nat) []))
else (∃ n_7 : Int, (((AV.int .i64 (Nat.cast x_2 : Int)) = (AV.int .i64 n_7)) ∧
 (bif (((decide ((0 : Int) ≤ n_7)) && (Nat.blt (Int.toNat n_7) (List.length cs))) && true) then (bif (Nat.blt ((Int.toNat n_7) * (1 : Nat)) (List.length (cellsI cs))) then (∃ n_8 : Int, (((List.getD (cellsI cs) ((Int.toNat n_7) * (1 : Nat)) AV.undef) = (AV.int .i64 n_8)) ∧
 (bif (decide (n_8 ≥ (4294967296 : Int))) then (Q (Out.ret (AV.bool false)) [] (Gh.mk (0 : Nat) (0 : Nat) []))
else (∃ n_9 : Int, (((AV.int .i64 (Nat.cast x_2 : Int)) = (AV.int .i64 n_9)) ∧
 (∃ n_10 : Int, (((AV.int .i64 (IntKind.wrap .i64 (n_9 + (1 : Int)))) = (AV.int .i64 n_10)) ∧
 ((True ∧
 ((0 : Nat) = (0 : Nat))) ∧
 (∃ y_11 : Nat, ((Lf ((y_11 ≤ (List.length cs)) ∧
 (∀ x_12 : Int, ((Membership.mem (List.take y_11 cs) x_12) →
(((0 : Int) ≤ x_12) ∧
 (x_12 < (4294967296 : Int))))))) ∧
 ((((List.length cs) - y_11) < ((List.length cs) - x_2)) ∧
 ((((AV.bool mk) :: ((AV.int .i64 ty) :: ((AV.int .i64 seq) :: ((AV.int .i64 ti) :: ((AV.int .i64 ss) :: ((AV.lst tc (cellsI cs) (List.length cs) (1 : Nat)) :: ((AV.lst tx (cellsXM ex) (List.length ex) (2 : Nat)) :: ((AV.int .i64 pad) :: ((AV.str pl) :: []))))))))) = ((AV.bool mk) :: ((AV.int .i64 ty) :: ((AV.int .i64 seq) :: ((AV.int .i64 ti) :: ((AV.int .i64 ss) :: ((AV.lst tc (cellsI cs) (List.length cs) (1 : Nat)) :: ((AV.lst tx (cellsXM ex) (List.length ex) (2 : Nat)) :: ((AV.int .i64 pad) :: ((AV.str pl) :: [])))))))))) ∧
 (((AV.ptr (0 : Nat) (9 : Nat) (0 : Nat)) = (AV.ptr (0 : Nat) (9 : Nat) (0 : Nat))) ∧
 (((AV.int .i64 n_10) = (AV.int .i64 (Nat.cast y_11 : Int))) ∧
 True))))))))))))))
else False)
else False))))))
else False)
else False)))
else ((∃ x_5 : Nat, ((Lf ((x_5 ≤ (List.length ex)) ∧
 ((extsOkM (0 : Int) (List.take x_5 ex)) = true))) ∧
 ((((AV.bool mk) :: ((AV.int .i64 ty) :: ((AV.int .i64 seq) :: ((AV.int .i64 ti) :: ((AV.int .i64 ss) :: ((AV.lst tc (cellsI cs) (List.length cs) (1 : Nat)) :: ((AV.lst tx (cellsXM ex) (List.length ex) (2 : Nat)) :: ((AV.int .i64 pad) :: ((AV.str pl) :: []))))))))) = ((AV.bool mk) :: ((AV.int .i64 ty) :: ((AV.int .i64 seq) :: ((AV.int .i64 ti) :: ((AV.int .i64 ss) :: ((AV.lst tc (cellsI cs) (List.length cs) (1 : Nat)) :: ((AV.lst tx (cellsXM ex) (List.length ex) (2 : Nat)) :: ((AV.int .i64 pad) :: ((AV.str pl) :: [])))))))))) ∧
 (((AV.ptr (0 : Nat) (9 : Nat) (0 : Nat)) = (AV.ptr (0 : Nat) (9 : Nat) (0 : Nat))) ∧
 (((AV.int .i64 (0 : Int)) = (AV.int .i64 (Nat.cast x_5 : Int))) ∧
 (((AV.int .i64 (0 : Int)) = (AV.int .i64 (lastOfM (0 : Int) (List.take x_5 ex)))) ∧
 True)))))) ∧
 (∀ x_5 : Nat, ((Lf ((x_5 ≤ (List.length ex)) ∧
 ((extsOkM (0 : Int) (List.take x_5 ex)) = true))) →
(∃ n_6 : Int, (((AV.int .i64 (Nat.cast x_5 : Int)) = (AV.int .i64 n_6)) ∧
 (∃ n_7 : Int, (((AV.int .i64 (Nat.cast (List.length ex) : Int)) = (AV.int .i64 n_7)) ∧
 (bif (decide (n_6 < n_7)) then (∃ n_8 : Int, (((AV.int .i64 (Nat.cast x_5 : Int)) = (AV.int .i64 n_8)) ∧
 (bif (((decide ((0 : Int) ≤ n_8)) && (Nat.blt (Int.toNat n_8) (List.length ex))) && true) then (bif (Nat.blt (((Int.toNat n_8) * (2 : Nat)) + (0 : Nat)) (List.length (cellsXM ex))) then (∃ n_9 : Int, (((List.getD (cellsXM ex) (((Int.toNat n_8) * (2 : Nat)) + (0 : Nat)) AV.undef) = (AV.int .i64 n_9)) ∧
 (∃ n_10 : Int, (((AV.int .i64 (lastOfM (0 : Int) (List.take x_5 ex))) = (AV.int .i64 n_10)) ∧
 (bif (decide (n_9 ≤ n_10)) then (Q (Out.ret (AV.bool false)) [] (Gh.mk (0 : Nat) (0 : Nat) []))
else (∃ n_11 : Int, (((AV.int .i64 (Nat.cast x_5 : Int)) = (AV.int .i64 n_11)) ∧
 (bif (((decide ((0 : Int) ≤ n_11)) && (Nat.blt (Int.toNat n_11) (List.length ex))) && true) then (bif (Nat.blt (((Int.toNat n_11) * (2 : Nat)) + (0 : Nat)) (List.length (cellsXM ex))) then (∃ n_12 : Int, (((List.getD (cellsXM ex) (((Int.toNat n_11) * (2 : Nat)) + (0 : Nat)) AV.undef) = (AV.int .i64 n_12)) ∧
 (bif (decide (n_12 > (255 : Int))) then (Q (Out.ret (AV.bool false)) [] (Gh.mk (0 : Nat) (0 : Nat) []))
else (∃ n_13 : Int, (((AV.int .i64 (Nat.cast x_5 : Int)) = (AV.int .i64 n_13)) ∧
 (bif (((decide ((0 : Int) ≤ n_13)) && (Nat.blt (Int.toNat n_13) (List.length ex))) && true) then (bif (Nat.blt (((Int.toNat n_13) * (2 : Nat)) + (1 : Nat)) (List.length (cellsXM ex))) then (∃ s_14 : (List UInt8), (((List.getD (cellsXM ex) (((Int.toNat n_13) * (2 : Nat)) + (1 : Nat)) AV.undef) = (AV.str s_14)) ∧
 (∃ n_15 : Int, (((AV.int .i64 (Nat.cast (List.length s_14) : Int)) = (AV.int .i64 n_15)) ∧
 (bif (decide (n_15 > (255 : Int))) then (Q (Out.ret (AV.bool false)) [] (Gh.mk (0 : Nat) (0 : Nat) []))
else (∃ n_16 : Int, (((AV.int .i64 (Nat.cast x_5 : Int)) = (AV.int .i64 n_16)) ∧
 (bif (((decide ((0 : Int) ≤ n_16)) && (Nat.blt (Int.toNat n_16) (List.length ex))) && true) then (bif (Nat.blt (((Int.toNat n_16) * (2 : Nat)) + (0 : Nat)) (List.length (cellsXM ex))) then (∃ n_17 : Int, (((List.getD (cellsXM ex) (((Int.toNat n_16) * (2 : Nat)) + (0 : Nat)) AV.undef) = (AV.int .i64 n_17)) ∧
 (∃ n_18 : Int, (((AV.int .i64 (Nat.cast x_5 : Int)) = (AV.int .i64 n_18)) ∧
 (∃ n_19 : Int, (((AV.int .i64 (IntKind.wrap .i64 (n_18 + (1 : Int)))) = (AV.int .i64 n_19)) ∧
 ((True ∧
 ((0 : Nat) = (0 : Nat))) ∧
 (∃ y_20 : Nat, ((Lf ((y_20 ≤ (List.length ex)) ∧
 ((extsOkM (0 : Int) (List.take y_20 ex)) = true))) ∧
 ((((List.length ex) - y_20) < ((List.length ex) - x_5)) ∧
 ((((AV.bool mk) :: ((AV.int .i64 ty) :: ((AV.int .i64 seq) :: ((AV.int .i64 ti) :: ((AV.int .i64 ss) :: ((AV.lst tc (cellsI cs) (List.length cs) (1 : Nat)) :: ((AV.lst tx (cellsXM ex) (List.length ex) (2 : Nat)) :: ((AV.int .i64 pad) :: ((AV.str pl) :: []))))))))) = ((AV.bool mk) :: ((AV.int .i64 ty) :: ((AV.int .i64 seq) :: ((AV.int .i64 ti) :: ((AV.int .i64 ss) :: ((AV.lst tc (cellsI cs) (List.length cs) (1 : Nat)) :: ((AV.lst tx (cellsXM ex) (List.length ex) (2 : Nat)) :: ((AV.int .i64 pad) :: ((AV.str pl) :: [])))))))))) ∧
 (((AV.ptr (0 : Nat) (9 : Nat) (0 : Nat)) = (AV.ptr (0 : Nat) (9 : Nat) (0 : Nat))) ∧
 (((AV.int .i64 n_19) = (AV.int .i64 (Nat.cast y_20 : Int))) ∧
 (((AV.int .i64 n_17) = (AV.int .i64 (lastOfM (0 : Int) (List.take y_20 ex)))) ∧
 True))))))))))))))
else False)
else False))))))))
else False)
else False))))))
else False)
else False))))))))
else False)
else False)))
else (Q (Out.ret (AV.bool true)) [] (Gh.mk (0 : Nat) (0 : Nat) []))))))))))))))))))))))))))))))))))) := by kernel_rfl

theorem exts_pre : ∀ (l m : List Xt) (a : Int), extsOkM a (l ++ m) = true → extsOkM a l = true
  | [], _, _, _ => rfl
  | x :: l, m, a, h => by
    rw [List.cons_append, extsOkM, Bool.and_eq_true] at h
    rw [extsOkM, h.1, exts_pre l m x.1 h.2]
    rfl
theorem exts_tk {ex : List Xt} (h : extsOkM 0 ex = true) (i : Nat) : extsOkM 0 (ex.take i) = true := exts_pre _ (ex.drop i) 0 (by rw [List.take_append_drop]; exact h)
theorem ixI {i n : Nat} {A : Prop} (hi : i < n) (h : A) : bif (((decide ((0 : Int) ≤ (i : Int))) && (Nat.blt (Int.toNat (i : Int)) n)) && true) then A else False := ckI (by simp; omega) h
section
variable {mk : Bool} {ty seq ti ss : Int} {tc : Nat} {cs : List Int} {tx : Nat} {ex : List Xt} {pad : Int} {pl : List UInt8} (hc : cs.length ≤ 1000000) (hx : ex.length ≤ 1000000)
include hc hx
theorem right_run (Q : Out → List Blk → Gh → Prop) (hT : rightM ty seq ti ss cs ex pad = true → Q (.ret (.bool true)) [] {}) (hF : rightM ty seq ti ss cs ex pad = false → Q (.ret (.bool false)) [] {}) : ∃ hv hb, goal_16 hv hb mk ty seq ti ss tc cs tx ex pad pl Q := by
  obtain ⟨hv, hb', e⟩ : ∃ hv hb, goal_16 hv hb mk ty seq ti ss tc cs tx ex pad pl Q = _ := ⟨_, _, vc_16 mk ty seq ti ss tc cs tx ex pad pl Q⟩
  refine ⟨hv, hb', e.mpr ?_⟩
  clear e
  have F : ¬ (0 ≤ ty ∧ ty ≤ 127 ∧ 0 ≤ seq ∧ seq ≤ 65535 ∧ 0 ≤ ti ∧ ti < 4294967296 ∧ 0 ≤ ss ∧ ss < 4294967296 ∧ (∀ x ∈ cs, 0 ≤ x ∧ x < 4294967296) ∧ 0 ≤ pad ∧ pad ≤ 255 ∧ cs.length ≤ 15 ∧ ex.length ≤ 16) → Q (.ret (.bool false)) [] {} := fun h => hF (by rw [rightM, flagsM, decide_eq_false h, Bool.false_and])
  have G : extsOkM 0 ex = false → Q (.ret (.bool false)) [] {} := fun h => hF (by rw [rightM, h, Bool.and_false])
  refine splitD (fun h => F fun a => by omega) (fun h0 => splitD (fun h => F fun a => by omega) (fun h1 => splitD (fun h => F fun a => by omega) (fun h2 => splitD (fun h => F fun a => by omega) (fun h3 => splitD (fun h => F fun a => by omega) (fun h4 => splitD (fun h => F fun a => by omega) (fun h5 => splitD (fun h => F fun a => by omega) (fun h6 => splitD (fun h => F fun a => by omega) (fun h7 => splitD (fun h => F fun a => by omega) (fun h8 => splitD (fun h => F fun a => by omega) (fun h9 => ⟨_, rfl, splitD (fun h => F fun a => by omega) (fun h10 => ⟨_, rfl, splitD (fun h => F fun a => by omega) (fun h11 => ?_)⟩)⟩))))))))))
  refine ⟨⟨0, ⟨by omega, by simp⟩, rfl, rfl, rfl, trivial⟩, ?_⟩
  rintro i ⟨hi, hin⟩
  refine ⟨_, rfl, _, rfl, splitD (fun hlt => ?_) (fun hge => ?_)⟩
  · have hlt' : i < cs.length := by omega
    have hm : cs[i] ∈ cs := List.getElem_mem hlt'
    refine ⟨_, rfl, ixI hlt' (ckI (by rw [cellsI_length]; simp; omega) (cellsI_get hlt' (splitD (fun h => F fun a => by have := a.2.2.2.2.2.2.2.2.1 _ hm; omega) (fun g1 => ⟨_, rfl, ixI hlt' (ckI (by rw [cellsI_length]; simp; omega) (cellsI_get hlt' (splitD (fun h => F fun a => by have := a.2.2.2.2.2.2.2.2.1 _ hm; omega) (fun g2 => ⟨_, rfl, wrapI (by omega) (by omega) ⟨⟨trivial, rfl⟩, i + 1, ⟨hlt', ?_⟩, by omega, rfl, rfl, rfl, trivial⟩⟩)) (by simp)))⟩)) (by simp)))⟩
    intro x hx
    rw [List.take_add_one, List.getElem?_eq_getElem hlt'] at hx
    rcases List.mem_append.1 hx with h | h
    · exact hin x h
    · simp at h
      subst h
      omega
  · have hall : ∀ x ∈ cs, 0 ≤ x ∧ x < 4294967296 := by
      rw [List.take_of_length_le (by omega)] at hin
      exact hin
    have hfl : flagsM ty seq ti ss cs ex.length pad = true := by
      rw [flagsM]
      exact decide_eq_true ⟨by omega, by omega, by omega, by omega, by omega, by omega, by omega, by omega, hall, by omega, by omega, by omega, by omega⟩
    refine ⟨⟨0, ⟨by omega, rfl⟩, rfl, rfl, rfl, rfl, trivial⟩, ?_⟩
    rintro j ⟨hj, hok⟩
    refine ⟨_, rfl, _, rfl, splitD (fun hlt => ?_) (fun hge => ?_)⟩
    · have hlt' : j < ex.length := by omega
      have et := exts_take hlt'
      rw [hok, Bool.true_and] at et
      have B : ¬ (lastOfM 0 (ex.take j) < ex[j].1 ∧ ex[j].1 ≤ 255 ∧ ex[j].2.length ≤ 255) → Q (.ret (.bool false)) [] {} := fun h => G (by
        rw [decide_eq_false h] at et
        cases hh : extsOkM 0 ex
        · rfl
        · rw [exts_tk hh] at et
          cases et)
      have hl := last_take ex 0 j hlt'
      have cl : ∀ {d : Nat}, d < 2 → Nat.blt ((Int.toNat (j : Int)) * 2 + d) (cellsXM ex).length = true := fun h => by rw [cellsX_len]; simp; omega
      refine ⟨_, rfl, ixI hlt' (ckI (cl (by omega)) (getXi hlt' (by simp) ⟨_, rfl, splitD (fun h => B fun a => by omega) (fun g1 => ?_)⟩))⟩
      refine ⟨_, rfl, ixI hlt' (ckI (cl (by omega)) (getXi hlt' (by simp) (splitD (fun h => B fun a => by omega) (fun g2 => ?_))))⟩
      refine ⟨_, rfl, ixI hlt' (ckI (cl (by omega)) (getXs hlt' (by simp) ⟨_, rfl, splitD (fun h => B fun a => by omega) (fun g3 => ?_)⟩))⟩
      refine ⟨_, rfl, ixI hlt' (ckI (cl (by omega)) (getXi hlt' (by simp) ⟨_, rfl, wrapI (by omega) (by omega) ⟨⟨trivial, rfl⟩, j + 1, ⟨hlt', ?_⟩, by omega, rfl, rfl, rfl, by rw [hl], trivial⟩⟩))⟩
      rw [et]
      exact decide_eq_true ⟨by omega, by omega, by omega⟩
    · rw [List.take_of_length_le (by omega)] at hok
      exact hT (by rw [rightM, hfl, hok]; rfl)
end
def cRight : Con
  | [.agg [.bool mk, .int .i64 ty, .int .i64 seq, .int .i64 ti, .int .i64 ss, .lst _ c5 n5 1, .lst _ c6 n6 2, .int .i64 pad, .str pl]], H, K => ∃ (cs : List Int) (ex : List Xt), Lf (medK c5 n5 c6 n6 cs ex) ∧
      ∀ b : Bool, Lf (b = rightM ty seq ti ss cs ex pad) → K (.ret (.bool b)) H
  | _, _, _ => False
theorem rright_ok : ValidF Tryd.prog gl0 16 cRight := by
  refine valid_flat (enters_of (by kernel_rfl)) gl0_noY fun args H Q hc => ?_
  unfold cRight at hc
  split at hc
  · rename_i mk ty seq ti ss tc c5 n5 tx c6 n6 pad pl
    obtain ⟨cs, ex, ⟨rfl, rfl, rfl, rfl, k1, k2, hd⟩, hq⟩ := hc
    obtain ⟨hv, hb', h⟩ := right_run (mk := mk) (tc := tc) (tx := tx) (pl := pl) k1 k2 (fun o H' _ => H' = [] ∧ (∃ v, o = .ret v ∧ old 0 v = true ∧ noY v = true) ∧ Q o H) (fun hr => ⟨rfl, ⟨_, rfl, rfl, rfl⟩, hq _ ⟨hr.symm⟩⟩) (fun hr => ⟨rfl, ⟨_, rfl, rfl, rfl⟩, hq _ ⟨hr.symm⟩⟩)
    refine ⟨rfl, rfl, _, 1000, ?_, rfl, h⟩
    exact ⟨mixed23, names23, tabA_ok, sm0_ok⟩
  · exact hc.elim
end Go.Proofs.YtbchmkhliehbfaaDoor

/-
  Chapter 23, the reference: extended, Header, Encoding.
-/
import Derived.Test.YtbchmkhliehbfaaDoorM23M
set_option linter.unusedSimpArgs false
set_option linter.unusedVariables false
set_option linter.unusedSectionVars false
namespace Go.Proofs.YtbchmkhliehbfaaDoor
open Go.RowKit
set_option maxRecDepth 1000000

def smN : SM := lookS [(31, cOct), (36, cShort)]
theorem smN_ok : ∀ f g, smN f = some g → ValidF Tryd.prog gl0 f g := lookS_ok _ (by simp only [List.mem_cons, List.not_mem_nil, or_false, forall_eq_or_imp, forall_eq]; exact ⟨oct_ok, rshort_ok⟩)
def inv_35a (t : Nat) (ex : List Xt) : LInv where
  α := Nat
  pre i := Lf (i ≤ ex.length)
  st i := ⟨mkT [(0, .lst t (cellsXM ex) ex.length 2), (3, .str (extBM (shortM ex) (ex.take i))), (4, .int .i64 (i : Nat))], []⟩
  mu i := ex.length - i
def inv_35b (ex : List Xt) : LInv where
  α := Nat
  pre k := Lf (k ≤ (4 - (extBM (shortM ex) ex).length % 4) % 4)
  st k := ⟨mkT [(3, .str (extBM (shortM ex) ex ++ List.replicate k 0))], []⟩
  mu k := (4 - (extBM (shortM ex) ex).length % 4) % 4 - k
noncomputable def env_35 (t : Nat) (ex : List Xt) (hv : Nat → Option Pa) (hb : Nat → Option Bool) : Env := e23 smN (fun i => bif Nat.beq i 35000 then some (fun _ => [[inv_35a t ex]]) else bif Nat.beq i 35002 then some (fun _ => [[inv_35b ex]]) else none) hv hb
noncomputable def goal_35 (hv : Nat → Option Pa) (hb : Nat → Option Bool) (t : Nat) (ex : List Xt) (Q : Out → List Blk → Gh → Prop) : Prop :=
  callx (env_35 t ex hv hb) (wpx (env_35 t ex hv hb) 1000) 35 [.lst t (cellsXM ex) ex.length 2] [] {} Q
theorem vc_35 (t : Nat) (ex : List Xt) (Q : Out → List Blk → Gh → Prop) : goal_35 (lookV [(143365, .int .i64), (143367, .int .i64), (143373, .str), (143375, .int .i64), (143378, .int .i64), (143379, .int .i64), (143381, .int .i64), (143384, .str), (143385, .int .i64), (143386, .int .i64), (143387, .int .i64), (143388, .str), (143389, .str), (143408, .int .i64), (143411, .str), (143412, .str), (143369, .int .i64), (143370, .int .i64), (143390, .str), (143392, .int .i64), (143395, .int .i64), (143399, .int .i64), (143402, .str), (143403, .int .i64), (143396, .str), (143397, .str), (143404, .str), (143405, .str), (143413, .str), (143414, .int .i64), (143415, .int .i64), (143417, .str), (143419, .str), (143420, .str)]) (lookB []) t ex Q = (
((∃ x_0 : Nat, ((Lf (x_0 ≤ (List.length ex))) ∧
 (((AV.lst t (cellsXM ex) (List.length ex) (2 : Nat)) = (AV.lst t (cellsXM ex) (List.length ex) (2 : Nat))) ∧
 (((AV.str []) = (AV.str (extBM (shortM ex) (List.take x_0 ex)))) ∧
 (((AV.int .i64 (0 : Int)) = (AV.int .i64 (Nat.cast x_0 : Int))) ∧
 True))))) ∧
 (∀ x_0 : Nat, ((Lf (x_0 ≤ (List.length ex))) →
(∃ n_1 : Int, (((AV.int .i64 (Nat.cast x_0 : Int)) = (AV.int .i64 n_1)) ∧
 (∃ n_2 : Int, (((AV.int .i64 (Nat.cast (List.length ex) : Int)) = (AV.int .i64 n_2)) ∧
 (bif (decide (n_1 < n_2)) then (∃ ex_3 : (List Xt), ((Lf (((cellsXM ex) = (cellsXM ex_3)) ∧
 (((List.length ex) = (List.length ex_3)) ∧
 (((List.length ex_3) ≤ (1000000 : Nat)) ∧
 (dataM ex_3))))) ∧
 (bif (shortM ex_3) then (∃ s_4 : (List UInt8), (((AV.str (extBM (shortM ex) (List.take x_0 ex))) = (AV.str s_4)) ∧
 (∃ n_5 : Int, (((AV.int .i64 (Nat.cast x_0 : Int)) = (AV.int .i64 n_5)) ∧
 (bif (((decide ((0 : Int) ≤ n_5)) && (Nat.blt (Int.toNat n_5) (List.length ex))) && true) then (bif (Nat.blt (((Int.toNat n_5) * (2 : Nat)) + (0 : Nat)) (List.length (cellsXM ex))) then (∃ n_6 : Int, (((List.getD (cellsXM ex) (((Int.toNat n_5) * (2 : Nat)) + (0 : Nat)) AV.undef) = (AV.int .i64 n_6)) ∧
 (∃ n_7 : Int, (((AV.int .i64 (IntKind.wrap .i64 ((16 : Int) * n_6))) = (AV.int .i64 n_7)) ∧
 (∃ n_8 : Int, (((AV.int .i64 (Nat.cast x_0 : Int)) = (AV.int .i64 n_8)) ∧
 (bif (((decide ((0 : Int) ≤ n_8)) && (Nat.blt (Int.toNat n_8) (List.length ex))) && true) then (bif (Nat.blt (((Int.toNat n_8) * (2 : Nat)) + (1 : Nat)) (List.length (cellsXM ex))) then (∃ s_9 : (List UInt8), (((List.getD (cellsXM ex) (((Int.toNat n_8) * (2 : Nat)) + (1 : Nat)) AV.undef) = (AV.str s_9)) ∧
 (∃ n_10 : Int, (((AV.int .i64 (Nat.cast (List.length s_9) : Int)) = (AV.int .i64 n_10)) ∧
 (∃ n_11 : Int, (((AV.int .i64 (IntKind.wrap .i64 (n_7 + n_10))) = (AV.int .i64 n_11)) ∧
 (∃ n_12 : Int, (((AV.int .i64 (IntKind.wrap .i64 (n_11 - (1 : Int)))) = (AV.int .i64 n_12)) ∧
 ((Lf ((((0 : Int) ≤ (1 : Int)) ∧
 ((1 : Int) ≤ (8 : Int))) ∧
 (((0 : Int) ≤ n_12) ∧
 (n_12 ≤ (9223372036854775807 : Int))))) ∧
 (∃ s_13 : (List UInt8), (((AV.str (beM n_12 (1 : Nat))) = (AV.str s_13)) ∧
 (bif ((decide (((List.length s_4) + (List.length s_13)) ≤ (9223372036854775807 : Nat))) && true) then (∃ s_14 : (List UInt8), (((AV.str (s_4 ++ s_13)) = (AV.str s_14)) ∧
 (∃ n_15 : Int, (((AV.int .i64 (Nat.cast x_0 : Int)) = (AV.int .i64 n_15)) ∧
 (bif (((decide ((0 : Int) ≤ n_15)) && (Nat.blt (Int.toNat n_15) (List.length ex))) && true) then (bif (Nat.blt (((Int.toNat n_15) * (2 : Nat)) + (1 : Nat)) (List.length (cellsXM ex))) then (∃ s_16 : (List UInt8), (((List.getD (cellsXM ex) (((Int.toNat n_15) * (2 : Nat)) + (1 : Nat)) AV.undef) = (AV.str s_16)) ∧
 (bif ((decide (((List.length s_14) + (List.length s_16)) ≤ (9223372036854775807 : Nat))) && true) then (∃ s_17 : (List UInt8), (((AV.str (s_14 ++ s_16)) = (AV.str s_17)) ∧
 (∃ n_18 : Int, (((AV.int .i64 (Nat.cast x_0 : Int)) = (AV.int .i64 n_18)) ∧
 (∃ n_19 : Int, (((AV.int .i64 (IntKind.wrap .i64 (n_18 + (1 : Int)))) = (AV.int .i64 n_19)) ∧
 ((True ∧
 ((0 : Nat) = (0 : Nat))) ∧
 (∃ y_20 : Nat, ((Lf (y_20 ≤ (List.length ex))) ∧
 ((((List.length ex) - y_20) < ((List.length ex) - x_0)) ∧
 (((AV.lst t (cellsXM ex) (List.length ex) (2 : Nat)) = (AV.lst t (cellsXM ex) (List.length ex) (2 : Nat))) ∧
 (((AV.str s_17) = (AV.str (extBM (shortM ex) (List.take y_20 ex)))) ∧
 (((AV.int .i64 n_19) = (AV.int .i64 (Nat.cast y_20 : Int))) ∧
 True)))))))))))))
else False)))
else False)
else False)))))
else False))))))))))))
else False)
else False)))))))
else False)
else False)))))
else (∃ s_4 : (List UInt8), (((AV.str (extBM (shortM ex) (List.take x_0 ex))) = (AV.str s_4)) ∧
 (∃ n_5 : Int, (((AV.int .i64 (Nat.cast x_0 : Int)) = (AV.int .i64 n_5)) ∧
 (bif (((decide ((0 : Int) ≤ n_5)) && (Nat.blt (Int.toNat n_5) (List.length ex))) && true) then (bif (Nat.blt (((Int.toNat n_5) * (2 : Nat)) + (0 : Nat)) (List.length (cellsXM ex))) then (∃ n_6 : Int, (((List.getD (cellsXM ex) (((Int.toNat n_5) * (2 : Nat)) + (0 : Nat)) AV.undef) = (AV.int .i64 n_6)) ∧
 (∃ n_7 : Int, (((AV.int .i64 (Nat.cast x_0 : Int)) = (AV.int .i64 n_7)) ∧
 (bif (((decide ((0 : Int) ≤ n_7)) && (Nat.blt (Int.toNat n_7) (List.length ex))) && true) then (bif (Nat.blt (((Int.toNat n_7) * (2 : Nat)) + (1 : Nat)) (List.length (cellsXM ex))) then (∃ s_8 : (List UInt8), (((List.getD (cellsXM ex) (((Int.toNat n_7) * (2 : Nat)) + (1 : Nat)) AV.undef) = (AV.str s_8)) ∧
 (∃ n_9 : Int, (((AV.int .i64 (Nat.cast (List.length s_8) : Int)) = (AV.int .i64 n_9)) ∧
 ((Lf ((((0 : Int) ≤ (1 : Int)) ∧
 ((1 : Int) ≤ (8 : Int))) ∧
 (((0 : Int) ≤ n_6) ∧
 (n_6 ≤ (9223372036854775807 : Int))))) ∧
 (∃ s_10 : (List UInt8), (((AV.str (beM n_6 (1 : Nat))) = (AV.str s_10)) ∧
 (bif ((decide (((List.length s_4) + (List.length s_10)) ≤ (9223372036854775807 : Nat))) && true) then (∃ s_11 : (List UInt8), (((AV.str (s_4 ++ s_10)) = (AV.str s_11)) ∧
 ((Lf ((((0 : Int) ≤ (1 : Int)) ∧
 ((1 : Int) ≤ (8 : Int))) ∧
 (((0 : Int) ≤ n_9) ∧
 (n_9 ≤ (9223372036854775807 : Int))))) ∧
 (∃ s_12 : (List UInt8), (((AV.str (beM n_9 (1 : Nat))) = (AV.str s_12)) ∧
 (bif ((decide (((List.length s_11) + (List.length s_12)) ≤ (9223372036854775807 : Nat))) && true) then (∃ s_13 : (List UInt8), (((AV.str (s_11 ++ s_12)) = (AV.str s_13)) ∧
 (∃ n_14 : Int, (((AV.int .i64 (Nat.cast x_0 : Int)) = (AV.int .i64 n_14)) ∧
 (bif (((decide ((0 : Int) ≤ n_14)) && (Nat.blt (Int.toNat n_14) (List.length ex))) && true) then (bif (Nat.blt (((Int.toNat n_14) * (2 : Nat)) + (1 : Nat)) (List.length (cellsXM ex))) then (∃ s_15 : (List UInt8), (((List.getD (cellsXM ex) (((Int.toNat n_14) * (2 : Nat)) + (1 : Nat)) AV.undef) = (AV.str s_15)) ∧
 (bif ((decide (((List.length s_13) + (List.length s_15)) ≤ (9223372036854775807 : Nat))) && true) then (∃ s_16 : (List UInt8), (((AV.str (s_13 ++ s_15)) = (AV.str s_16)) ∧
 (∃ n_17 : Int, (((AV.int .i64 (Nat.cast x_0 : Int)) = (AV.int .i64 n_17)) ∧
 (∃ n_18 : Int, (((AV.int .i64 (IntKind.wrap .i64 (n_17 + (1 : Int)))) = (AV.int .i64 n_18)) ∧
 ((True ∧
 ((0 : Nat) = (0 : Nat))) ∧
 (∃ y_19 : Nat, ((Lf (y_19 ≤ (List.length ex))) ∧
 ((((List.length ex) - y_19) < ((List.length ex) - x_0)) ∧
 (((AV.lst t (cellsXM ex) (List.length ex) (2 : Nat)) = (AV.lst t (cellsXM ex) (List.length ex) (2 : Nat))) ∧
 (((AV.str s_16) = (AV.str (extBM (shortM ex) (List.take y_19 ex)))) ∧
 (((AV.int .i64 n_18) = (AV.int .i64 (Nat.cast y_19 : Int))) ∧
 True)))))))))))))
else False)))
else False)
else False)))))
else False))))))
else False))))))))
else False)
else False)))))
else False)
else False))))))))
else ((∃ x_3 : Nat, ((Lf (x_3 ≤ (((4 : Nat) - ((List.length (extBM (shortM ex) ex)) % (4 : Nat))) % (4 : Nat)))) ∧
 (((AV.str (extBM (shortM ex) (List.take x_0 ex))) = (AV.str ((extBM (shortM ex) ex) ++ (List.replicate x_3 (UInt8.ofNat (0 : Nat)))))) ∧
 True))) ∧
 (∀ x_3 : Nat, ((Lf (x_3 ≤ (((4 : Nat) - ((List.length (extBM (shortM ex) ex)) % (4 : Nat))) % (4 : Nat)))) →
(∃ s_4 : (List UInt8), (((AV.str ((extBM (shortM ex) ex) ++ (List.replicate x_3 (UInt8.ofNat (0 : Nat))))) = (AV.str s_4)) ∧
 (∃ n_5 : Int, (((AV.int .i64 (Nat.cast (List.length s_4) : Int)) = (AV.int .i64 n_5)) ∧
 (∃ n_6 : Int, (((AV.int .i64 (Int.tmod n_5 (4 : Int))) = (AV.int .i64 n_6)) ∧
 (bif (n_6 != (0 : Int)) then (∃ s_7 : (List UInt8), (((AV.str ((extBM (shortM ex) ex) ++ (List.replicate x_3 (UInt8.ofNat (0 : Nat))))) = (AV.str s_7)) ∧
 ((Lf ((((0 : Int) ≤ (1 : Int)) ∧
 ((1 : Int) ≤ (8 : Int))) ∧
 (((0 : Int) ≤ (0 : Int)) ∧
 ((0 : Int) ≤ (9223372036854775807 : Int))))) ∧
 (bif ((decide (((List.length s_7) + (1 : Nat)) ≤ (9223372036854775807 : Nat))) && true) then (∃ s_8 : (List UInt8), (((AV.str (s_7 ++ (beM (0 : Int) (1 : Nat)))) = (AV.str s_8)) ∧
 ((True ∧
 ((0 : Nat) = (0 : Nat))) ∧
 (∃ y_9 : Nat, ((Lf (y_9 ≤ (((4 : Nat) - ((List.length (extBM (shortM ex) ex)) % (4 : Nat))) % (4 : Nat)))) ∧
 ((((((4 : Nat) - ((List.length (extBM (shortM ex) ex)) % (4 : Nat))) % (4 : Nat)) - y_9) < ((((4 : Nat) - ((List.length (extBM (shortM ex) ex)) % (4 : Nat))) % (4 : Nat)) - x_3)) ∧
 (((AV.str s_8) = (AV.str ((extBM (shortM ex) ex) ++ (List.replicate y_9 (UInt8.ofNat (0 : Nat)))))) ∧
 True)))))))
else False))))
else (∃ s_7 : (List UInt8), (((AV.str ((extBM (shortM ex) ex) ++ (List.replicate x_3 (UInt8.ofNat (0 : Nat))))) = (AV.str s_7)) ∧
 (Q (Out.ret (AV.str s_7)) [] (Gh.mk (0 : Nat) (0 : Nat) []))))))))))))))))))))))) := by kernel_rfl


theorem extB_len3 (sh : Bool) : ∀ (l : List Xt), (∀ x ∈ l, x.2.length ≤ 255) → (extBM sh l).length ≤ 257 * l.length
  | [], _ => by simp [extBM]
  | x :: l, h => by
    have h1 := extB_len3 sh l fun y hy => h y (by simp [hy])
    have h2 := h x (by simp)
    have h3 := piece_len sh x
    have e : extBM sh (x :: l) = pieceM sh x ++ x.2 ++ extBM sh l := rfl
    rw [e, List.length_append, List.length_append, List.length_cons]
    omega
theorem exts_at : ∀ (l : List Xt) (a : Int), 0 ≤ a → extsOkM a l = true → ∀ x ∈ l, 1 ≤ x.1 ∧ x.1 ≤ 255 ∧ x.2.length ≤ 255
  | y :: l, a, ha, h, x, hx => by
    rw [extsOkM, Bool.and_eq_true, decide_eq_true_eq] at h
    rcases List.mem_cons.1 hx with rfl | hx
    · omega
    · exact exts_at l y.1 (by omega) h.2 x hx
theorem ext_run (t : Nat) (ex : List Xt) (hx : ex.length ≤ 16) (hok : extsOkM 0 ex = true) (Q : Out → List Blk → Gh → Prop) (hq : Q (.ret (.str (extPM ex))) [] {}) : ∃ hv hb, goal_35 hv hb t ex Q := by
  obtain ⟨hv, hb', e⟩ : ∃ hv hb, goal_35 hv hb t ex Q = _ := ⟨_, _, vc_35 t ex Q⟩
  refine ⟨hv, hb', e.mpr ?_⟩
  clear e
  have hat := exts_at ex 0 (by omega) hok
  refine ⟨⟨0, ⟨by omega⟩, rfl, rfl, rfl, trivial⟩, ?_⟩
  rintro i ⟨hi⟩
  refine ⟨_, rfl, _, rfl, splitD (fun hlt => ?_) (fun hge => ?_)⟩
  · have hlt' : i < ex.length := by omega
    obtain ⟨d1, d2, d3⟩ := hat _ (List.getElem_mem hlt')
    have cl : ∀ {d : Nat}, d < 2 → Nat.blt ((Int.toNat (i : Int)) * 2 + d) (cellsXM ex).length = true := fun h => by rw [cellsX_len]; simp; omega
    have hB := extB_len3 (shortM ex) (ex.take i) (fun x hx => (hat x (List.mem_of_mem_take hx)).2.2)
    rw [List.length_take, Nat.min_eq_left hi] at hB
    have et := extB_take (shortM ex) hlt'
    refine ⟨ex, ⟨rfl, rfl, by omega, fun x hx => by have := hat x hx; omega⟩, ?_⟩
    refine splitI (fun hs => ?_) (fun hs => ?_)
    · rw [hs] at et hB
      rw [hs]
      have hsx : isLongM ex[i] = false := by
        rw [shortM, Bool.not_eq_true'] at hs
        rw [List.any_eq_false] at hs
        simpa using hs _ (List.getElem_mem hlt')
      simp only [isLongM, Bool.or_eq_false_iff, decide_eq_false_iff_not] at hsx
      refine ⟨_, rfl, _, rfl, ixI hlt' (ckI (cl (by omega)) (getXi hlt' (by simp) (wrapI (by omega) (by omega) ⟨_, rfl, ?_⟩)))⟩
      refine ixI hlt' (ckI (cl (by omega)) (getXs hlt' (by simp) ⟨_, rfl, wrapI (by omega) (by omega) (wrapI (by omega) (by omega) ⟨⟨by omega, by omega, by omega⟩, _, rfl, ckI (by simp [be_len]; omega) ⟨_, rfl, _, rfl, ?_⟩⟩)⟩))
      refine ixI hlt' (ckI (cl (by omega)) (getXs hlt' (by simp) (ckI (by simp [be_len]; omega) ⟨_, rfl, _, rfl, wrapI (by omega) (by omega) ⟨⟨trivial, rfl⟩, i + 1, ⟨hlt'⟩, by omega, rfl, ?_, rfl, trivial⟩⟩)))
      rw [et, pieceM, if_pos rfl, putM, putM, List.append_nil, ← List.append_assoc, show (16 : Int) * ex[i].1 + (ex[i].2.length : Int) - 1 = ex[i].1 * 16 + ((ex[i].2.length : Int) - 1) by omega]
    · rw [hs] at et hB
      rw [hs]
      refine ⟨_, rfl, _, rfl, ixI hlt' (ckI (cl (by omega)) (getXi hlt' (by simp) ⟨_, rfl, ?_⟩))⟩
      refine ixI hlt' (ckI (cl (by omega)) (getXs hlt' (by simp) ⟨_, rfl, ⟨by omega, by omega, by omega⟩, _, rfl, ckI (by simp [be_len]; omega) ⟨_, rfl, ⟨by omega, by omega, by omega⟩, _, rfl, ckI (by simp [be_len]; omega) ⟨_, rfl, _, rfl, ?_⟩⟩⟩))
      refine ixI hlt' (ckI (cl (by omega)) (getXs hlt' (by simp) (ckI (by simp [be_len]; omega) ⟨_, rfl, _, rfl, wrapI (by omega) (by omega) ⟨⟨trivial, rfl⟩, i + 1, ⟨hlt'⟩, by omega, rfl, ?_, rfl, trivial⟩⟩)))
      rw [et, pieceM, if_neg (by simp), putM, putM, putM, List.append_nil]
      simp only [List.append_assoc]
  · have hie : i = ex.length := by omega
    subst hie
    rw [List.take_length]
    have hB := extB_len3 (shortM ex) ex (fun x hx => (hat x hx).2.2)
    generalize hb : (extBM (shortM ex) ex).length = n at hB
    refine ⟨⟨0, ⟨by omega⟩, by simp, trivial⟩, ?_⟩
    rintro k ⟨hk⟩
    have hl : (extBM (shortM ex) ex ++ List.replicate k (UInt8.ofNat 0)).length = n + k := by rw [List.length_append, List.length_replicate, hb]
    refine ⟨_, rfl, _, rfl, ?_⟩
    rw [hl]
    have htm : Int.tmod ((n + k : Nat) : Int) 4 = ((n + k : Nat) : Int) % 4 := Int.tmod_eq_emod_of_nonneg (by omega)
    refine ⟨_, rfl, splitNE (fun h => ?_) (fun h => ?_)⟩
    · rw [htm] at h
      refine ⟨_, rfl, ⟨by omega, by omega, by omega⟩, ckI (by rw [hl]; simp; omega) ⟨_, rfl, ⟨trivial, rfl⟩, k + 1, ⟨by omega⟩, by omega, ?_, trivial⟩⟩
      rw [List.append_assoc, List.replicate_succ']
      rfl
    · rw [htm] at h
      have : k = (4 - n % 4) % 4 := by omega
      refine ⟨_, rfl, ?_⟩
      rw [extPM, zerosM, hb, ← this] at hq
      exact hq
def cExt : Con
  | [.lst _ l n 2], H, K => ∃ ex : List Xt, Lf (l = cellsXM ex ∧ n = ex.length ∧ ex.length ≤ 16 ∧ extsOkM 0 ex = true) ∧ ∀ s : List UInt8, Lf (s = extPM ex) → K (.ret (.str s)) H
  | _, _, _ => False
theorem ext_ok : ValidF Tryd.prog gl0 35 cExt := by
  refine valid_flat (enters_of (by kernel_rfl)) gl0_noY fun args H Q hc => ?_
  unfold cExt at hc
  split at hc
  · rename_i t l n
    obtain ⟨ex, ⟨rfl, rfl, hl, hd⟩, hq⟩ := hc
    obtain ⟨hv, hb', h⟩ := ext_run t ex hl hd (fun o H' _ => H' = [] ∧ (∃ v, o = .ret v ∧ old 0 v = true ∧ noY v = true) ∧ Q o H) ⟨rfl, ⟨_, rfl, rfl, rfl⟩, hq _ ⟨rfl⟩⟩
    refine ⟨rfl, rfl, _, 1000, ?_, rfl, h⟩
    exact ⟨mixed23, names23, tabA_ok, smN_ok⟩
  · exact hc.elim
end Go.Proofs.YtbchmkhliehbfaaDoor

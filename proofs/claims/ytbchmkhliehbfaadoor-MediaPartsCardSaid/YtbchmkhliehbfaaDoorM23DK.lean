/-
  Chapter 23: MediaParts.
-/
import Derived.Test.YtbchmkhliehbfaaDoorM23DQ
import Derived.Test.YtbchmkhliehbfaaDoorM23DS
set_option linter.unusedSimpArgs false
set_option linter.unusedVariables false
set_option linter.unusedSectionVars false
namespace Go.Proofs.YtbchmkhliehbfaaDoor
open Go.RowKit
set_option maxRecDepth 1000000

def smCo : SM := lookS [(21, cDecode), (23, cSameV)]
theorem smCo_ok : ∀ f g, smCo f = some g → ValidF Tryd.prog gl0 f g := lookS_ok _ (by simp only [List.mem_cons, List.not_mem_nil, or_false, forall_eq_or_imp, forall_eq]; exact ⟨decode_ok, same_ok⟩)
noncomputable def goal_29 (hv : Nat → Option Pa) (hb : Nat → Option Bool) (s : List UInt8) (Q : Out → List Blk → Gh → Prop) : Prop :=
  callx (e23 smCo (fun _ => none) hv hb) (wpx (e23 smCo (fun _ => none) hv hb) 1000) 29 [.str s] [] {} Q
theorem vc_29 (s : List UInt8) (Q : Out → List Blk → Gh → Prop) : goal_29 (lookV []) (lookB []) s Q = (
(bif (Nat.ble (List.length s) (9223372036854775807 : Nat)) then (∀ mk_0 : Bool, (∀ ty_1 : Int, (∀ sq_2 : Int, (∀ ti_3 : Int, (∀ ss_4 : Int, (∀ cs_5 : (List Int), (∀ ex_6 : (List Xt), (∀ p_7 : Int, (∀ y_8 : (List UInt8), (∀ e_9 : Int, ((Lf ((decM s) = (Prod.mk mk_0 (Prod.mk ty_1 (Prod.mk sq_2 (Prod.mk ti_3 (Prod.mk ss_4 (Prod.mk cs_5 (Prod.mk ex_6 (Prod.mk p_7 (Prod.mk y_8 e_9))))))))))) →
(bif (e_9 != (0 : Int)) then (∃ cs_10 : (List Int), (∃ ex_11 : (List Xt), ((Lf ((((cellsI cs_5) = (cellsI cs_10)) ∧
 (((List.length cs_5) = (List.length cs_10)) ∧
 (((cellsXM ex_6) = (cellsXM ex_11)) ∧
 (((List.length ex_6) = (List.length ex_11)) ∧
 (((List.length cs_10) ≤ (1000000 : Nat)) ∧
 ((List.length ex_11) ≤ (1000000 : Nat))))))) ∧
 ((false = mk_0) ∧
 (((0 : Int) = ty_1) ∧
 (((0 : Int) = sq_2) ∧
 (((0 : Int) = ti_3) ∧
 (((0 : Int) = ss_4) ∧
 ((([] : (List AV)) = (cellsI cs_10)) ∧
 (((0 : Nat) = (List.length cs_10)) ∧
 ((([] : (List AV)) = (cellsXM ex_11)) ∧
 (((0 : Nat) = (List.length ex_11)) ∧
 (((0 : Int) = p_7) ∧
 (([] : (List UInt8)) = y_8))))))))))))) ∧
 (Q (Out.ret (AV.int .i64 e_9)) [] (Gh.mk (0 : Nat) (0 : Nat) [])))))
else (Q (Out.ret (AV.int .i64 e_9)) [] (Gh.mk (0 : Nat) (0 : Nat) []))))))))))))))
else False)) := by kernel_rfl

theorem code_run (s : List UInt8) (hs : s.length ≤ 1000000) (Q : Out → List Blk → Gh → Prop) (hq : Q (.ret (.int .i64 (codeM s))) [] {}) : ∃ hv hb, goal_29 hv hb s Q := by
  obtain ⟨hv, hb', e⟩ : ∃ hv hb, goal_29 hv hb s Q = _ := ⟨_, _, vc_29 s Q⟩
  refine ⟨hv, hb', e.mpr ?_⟩
  clear e
  refine ckI (by rw [Nat.ble_eq]; omega) ?_
  rintro mk ty sq ti ss cs ex p y e ⟨hd⟩
  have he : codeM s = e := by rw [codeM, hd]
  rw [he] at hq
  refine splitNE (fun hne => ?_) (fun _ => hq)
  obtain ⟨hz, _⟩ := dec_err hd hne
  rw [hz, zerM] at hd
  simp only [Prod.mk.injEq] at hd
  obtain ⟨rfl, rfl, rfl, rfl, rfl, rfl, rfl, rfl, rfl, _⟩ := hd
  exact ⟨[], [], ⟨⟨rfl, rfl, rfl, rfl, by simp, by simp⟩, rfl, rfl, rfl, rfl, rfl, rfl, rfl, rfl, rfl, rfl, rfl⟩, hq⟩
def cCode : Con
  | [.str s], H, K => bif Nat.ble s.length 1000000 then ∀ e : Int, Lf (e = codeM s) → K (.ret (.int .i64 e)) H else False
  | _, _, _ => False
theorem code_ok : ValidF Tryd.prog gl0 29 cCode := by
  refine valid_flat (enters_of (by kernel_rfl)) gl0_noY fun args H Q hc => ?_
  unfold cCode at hc
  split at hc
  · rename_i s
    cases hb : Nat.ble s.length 1000000
    · rw [hb] at hc; exact hc.elim
    · rw [hb] at hc
      rw [Nat.ble_eq] at hb
      obtain ⟨hv, hb', h⟩ := code_run s hb (fun o H' _ => H' = [] ∧ (∃ v, o = .ret v ∧ old 0 v = true ∧ noY v = true) ∧ Q o H) ⟨rfl, ⟨_, rfl, rfl, rfl⟩, hc _ ⟨rfl⟩⟩
      exact ⟨rfl, rfl, _, 1000, ⟨mixed23, names23, tabA_ok, smCo_ok⟩, rfl, h⟩
  · exact hc.elim
def smDK : SM := lookS [(10, cDraft), (14, cHead), (15, cEncode), (19, cTrue), (24, cFind), (29, cCode)]
def inv_7a (s : S) : List (List LInv) := match s.tm.get 93 with
  | .int _ n => [[{ α := Nat, pre := fun i => Lf ((i : Int) ≤ n), st := fun i => ⟨mkT [(5, s.tm.get 5), (6, s.tm.get 6), (92, s.tm.get 92), (93, .int .i64 n), (94, .int .i64 (i : Nat))], s.hp⟩, mu := fun i => n.toNat - i }]]
  | _ => []
def inv_7b (s : S) : List (List LInv) := match s.tm.get 115 with
  | .int _ n => [[{ α := Nat, pre := fun i => Lf ((i : Int) ≤ n), st := fun i => ⟨mkT [(6, s.tm.get 6), (115, .int .i64 n), (116, .int .i64 (i : Nat))], s.hp⟩, mu := fun i => n.toNat - i }]]
  | _ => []
noncomputable def env_7 (hv : Nat → Option Pa) (hb : Nat → Option Bool) : Env := e23 smDK (fun i => bif Nat.beq i 7000 then some inv_7a else bif Nat.beq i 7002 then some inv_7b else none) hv hb
noncomputable def goal_7 (hv : Nat → Option Pa) (hb : Nat → Option Bool) (mk : Bool) (ty seq ti ss : Int) (tc : Nat) (ks : List Int) (tx : Nat) (ps : List Xt) (pad : Int) (pl other : List UInt8) (Q : Out → List Blk → Gh → Prop) : Prop :=
  callx (env_7 hv hb) (wpx (env_7 hv hb) 1000) 7 [.agg (draftM mk ty seq ti ss tc ks tx ps pad pl), .str other] [] {} Q
theorem vc_7 (mk : Bool) (ty : Int) (seq : Int) (ti : Int) (ss : Int) (tc : Nat) (ks : List Int) (tx : Nat) (ps : List Xt) (pad : Int) (pl : List UInt8) (other : List UInt8) (Q : Out → List Blk → Gh → Prop) : goal_7 (lookV [(28712, .int .i64), (28713, .int .i64), (28718, .int .i64), (28723, .int .i64), (28725, .int .i64), (28728, .int .i64), (28729, .int .i64), (28732, .int .i64), (28740, .str), (196614, .int .i64), (196616, .int .i64), (196621, .int .i64), (196622, .str), (28747, .int .i64), (28748, .int .i64), (28749, .str), (28765, .int .i64), (28769, .agg [(.int .i64), (.str)]), (28773, .int .i64), (28779, .str), (28785, .int .i64), (28787, .int .i64), (28790, .int .i64), (28793, .str), (28796, .int .i64)]) (lookB []) mk ty seq ti ss tc ks tx ps pad pl other Q = (
(∃ ks_0 : (List Int), (∃ ps_1 : (List Xt), ((Lf ((draftK (cells32M ks) (List.length ks) (cellsPcM ps) (List.length ps) ks_0 ps_1) ∧
 ((((0 : Int) ≤ ty) ∧
 (ty ≤ (255 : Int))) ∧
 ((((0 : Int) ≤ seq) ∧
 (seq ≤ (65535 : Int))) ∧
 ((((0 : Int) ≤ ti) ∧
 (ti ≤ (4294967295 : Int))) ∧
 ((((0 : Int) ≤ ss) ∧
 (ss ≤ (4294967295 : Int))) ∧
 (((0 : Int) ≤ pad) ∧
 (pad ≤ (255 : Int))))))))) ∧
 (∀ ty'_2 : Int, (∀ cs_3 : (List Int), (∀ ex_4 : (List Xt), (∀ p'_5 : (List UInt8), ((Lf ((ty'_2 = (ty % (128 : Int))) ∧
 ((cs_3 = (List.take (3 : Nat) ks_0)) ∧
 ((ex_4 = (pcsM (0 : Int) (List.take (4 : Nat) ps_1))) ∧
 (p'_5 = (List.take (60 : Nat) pl)))))) →
(∃ cs_6 : (List Int), (∃ ex_7 : (List Xt), ((Lf ((medK (cellsI cs_3) (List.length cs_3) (cellsXM ex_4) (List.length ex_4) cs_6 ex_7) ∧
 ((List.length p'_5) ≤ (1000000000 : Nat)))) ∧
 (∀ s_8 : (List UInt8), (∀ e_9 : Int, ((Lf ((Prod.mk s_8 e_9) = (headRM mk ty'_2 seq ti ss cs_6 ex_7 pad p'_5))) →
(∃ cs_10 : (List Int), (∃ ex_11 : (List Xt), ((Lf ((medK (cellsI cs_3) (List.length cs_3) (cellsXM ex_4) (List.length ex_4) cs_10 ex_11) ∧
 ((List.length p'_5) ≤ (1000000000 : Nat)))) ∧
 (∀ s_12 : (List UInt8), (∀ e_13 : Int, ((Lf ((Prod.mk s_12 e_13) = (encRM mk ty'_2 seq ti ss cs_10 ex_11 pad p'_5))) →
(bif (e_9 != (0 : Int)) then (Q (Out.ret (AV.bool false)) [] (Gh.mk (0 : Nat) (0 : Nat) []))
else (bif (e_13 != (0 : Int)) then (Q (Out.ret (AV.bool false)) [] (Gh.mk (0 : Nat) (0 : Nat) []))
else (∃ n_14 : Int, (((AV.int .i64 (Nat.cast (List.length s_8) : Int)) = (AV.int .i64 n_14)) ∧
 (∃ n_15 : Int, (((AV.int .i64 (Int.tmod n_14 (4 : Int))) = (AV.int .i64 n_15)) ∧
 (bif (n_15 != (0 : Int)) then (Q (Out.ret (AV.bool false)) [] (Gh.mk (0 : Nat) (0 : Nat) []))
else (∃ n_16 : Int, (((AV.int .i64 (Nat.cast (List.length s_8) : Int)) = (AV.int .i64 n_16)) ∧
 (bif (decide (n_16 < (12 : Int))) then (Q (Out.ret (AV.bool false)) [] (Gh.mk (0 : Nat) (0 : Nat) []))
else (∃ n_17 : Int, (((AV.int .i64 (Nat.cast (List.length s_12) : Int)) = (AV.int .i64 n_17)) ∧
 (∃ n_18 : Int, (((AV.int .i64 (Nat.cast (List.length s_8) : Int)) = (AV.int .i64 n_18)) ∧
 (∃ n_19 : Int, (((AV.int .i64 (Nat.cast (List.length p'_5) : Int)) = (AV.int .i64 n_19)) ∧
 (∃ n_20 : Int, (((AV.int .i64 (IntKind.wrap .i64 (n_18 + n_19))) = (AV.int .i64 n_20)) ∧
 (∃ n_21 : Int, (((AV.int .i64 (IntKind.wrap .i64 (n_20 + pad))) = (AV.int .i64 n_21)) ∧
 (bif (n_17 != n_21) then (Q (Out.ret (AV.bool false)) [] (Gh.mk (0 : Nat) (0 : Nat) []))
else (bif ((decide (((List.length s_8) + (List.length p'_5)) ≤ (9223372036854775807 : Nat))) && true) then (∃ s_22 : (List UInt8), (((AV.str (s_8 ++ p'_5)) = (AV.str s_22)) ∧
 (∃ n_23 : Int, (((AV.int .i64 (Nat.cast (List.length s_12) : Int)) = (AV.int .i64 n_23)) ∧
 (∃ n_24 : Int, (((AV.int .i64 (Nat.cast (List.length s_22) : Int)) = (AV.int .i64 n_24)) ∧
 (bif (decide (n_23 ≥ n_24)) then (∃ n_25 : Int, (((AV.int .i64 (Nat.cast (List.length s_22) : Int)) = (AV.int .i64 n_25)) ∧
 (bif (((decide ((0 : Int) ≤ n_25)) && true) && (Nat.ble (Int.toNat n_25) (List.length s_12))) then (∃ s_26 : (List UInt8), (((AV.str (List.take ((Int.toNat n_25) - (0 : Nat)) (List.drop (0 : Nat) s_12))) = (AV.str s_26)) ∧
 (bif (eqB s_26 s_22) then (∃ n_27 : Int, (((AV.int .i64 (Nat.cast (List.length other) : Int)) = (AV.int .i64 n_27)) ∧
 (∃ n_28 : Int, (((AV.int .i64 (imin n_27 (60 : Int))) = (AV.int .i64 n_28)) ∧
 (bif (((decide ((0 : Int) ≤ n_28)) && true) && (Nat.ble (Int.toNat n_28) (List.length other))) then (∃ s_29 : (List UInt8), (((AV.str (List.take ((Int.toNat n_28) - (0 : Nat)) (List.drop (0 : Nat) other))) = (AV.str s_29)) ∧
 (∃ cs_30 : (List Int), (∃ ex_31 : (List Xt), ((Lf ((medK (cellsI cs_3) (List.length cs_3) (cellsXM ex_4) (List.length ex_4) cs_30 ex_31) ∧
 ((List.length s_29) ≤ (1000000000 : Nat)))) ∧
 (∀ s_32 : (List UInt8), (∀ e_33 : Int, ((Lf ((Prod.mk s_32 e_33) = (headRM mk ty'_2 seq ti ss cs_30 ex_31 pad s_29))) →
(bif (!(eqB s_32 s_8)) then (Q (Out.ret (AV.bool false)) [] (Gh.mk (0 : Nat) (0 : Nat) []))
else (bif (e_33 != (0 : Int)) then (Q (Out.ret (AV.bool false)) [] (Gh.mk (0 : Nat) (0 : Nat) []))
else (∃ n_34 : Int, (((AV.int .i64 (Nat.cast (List.length ex_4) : Int)) = (AV.int .i64 n_34)) ∧
 ((∃ x_35 : Nat, ((Lf ((Nat.cast x_35 : Int) ≤ n_34)) ∧
 ((((AV.bool mk) :: ((AV.int .u8 ty) :: ((AV.int .u16 seq) :: ((AV.int .u32 ti) :: ((AV.int .u32 ss) :: ((AV.lst tc (cells32M ks) (List.length ks) (1 : Nat)) :: ((AV.lst tx (cellsPcM ps) (List.length ps) (2 : Nat)) :: ((AV.int .u8 pad) :: ((AV.str pl) :: []))))))))) = ((AV.bool mk) :: ((AV.int .u8 ty) :: ((AV.int .u16 seq) :: ((AV.int .u32 ti) :: ((AV.int .u32 ss) :: ((AV.lst tc (cells32M ks) (List.length ks) (1 : Nat)) :: ((AV.lst tx (cellsPcM ps) (List.length ps) (2 : Nat)) :: ((AV.int .u8 pad) :: ((AV.str pl) :: [])))))))))) ∧
 ((((AV.bool mk) :: ((AV.int .i64 ty'_2) :: ((AV.int .i64 seq) :: ((AV.int .i64 ti) :: ((AV.int .i64 ss) :: ((AV.lst (0 : Nat) (cellsI cs_3) (List.length cs_3) (1 : Nat)) :: ((AV.lst (0 : Nat) (cellsXM ex_4) (List.length ex_4) (2 : Nat)) :: ((AV.int .i64 pad) :: ((AV.str p'_5) :: []))))))))) = ((AV.bool mk) :: ((AV.int .i64 ty'_2) :: ((AV.int .i64 seq) :: ((AV.int .i64 ti) :: ((AV.int .i64 ss) :: ((AV.lst (0 : Nat) (cellsI cs_3) (List.length cs_3) (1 : Nat)) :: ((AV.lst (0 : Nat) (cellsXM ex_4) (List.length ex_4) (2 : Nat)) :: ((AV.int .i64 pad) :: ((AV.str p'_5) :: [])))))))))) ∧
 ((((AV.bool mk) :: ((AV.int .i64 ty'_2) :: ((AV.int .i64 seq) :: ((AV.int .i64 ti) :: ((AV.int .i64 ss) :: ((AV.lst (0 : Nat) (cellsI cs_3) (List.length cs_3) (1 : Nat)) :: ((AV.lst (0 : Nat) (cellsXM ex_4) (List.length ex_4) (2 : Nat)) :: ((AV.int .i64 pad) :: ((AV.str s_29) :: []))))))))) = ((AV.bool mk) :: ((AV.int .i64 ty'_2) :: ((AV.int .i64 seq) :: ((AV.int .i64 ti) :: ((AV.int .i64 ss) :: ((AV.lst (0 : Nat) (cellsI cs_3) (List.length cs_3) (1 : Nat)) :: ((AV.lst (0 : Nat) (cellsXM ex_4) (List.length ex_4) (2 : Nat)) :: ((AV.int .i64 pad) :: ((AV.str s_29) :: [])))))))))) ∧
 (((AV.ptr (1 : Nat) (9 : Nat) (0 : Nat)) = (AV.ptr (1 : Nat) (9 : Nat) (0 : Nat))) ∧
 (((AV.int .i64 n_34) = (AV.int .i64 n_34)) ∧
 (((AV.lst (0 : Nat) (cellsXM ex_4) (List.length ex_4) (2 : Nat)) = (AV.lst (0 : Nat) (cellsXM ex_4) (List.length ex_4) (2 : Nat))) ∧
 (((AV.str s_8) = (AV.str s_8)) ∧
 (((AV.int .i64 (0 : Int)) = (AV.int .i64 (Nat.cast x_35 : Int))) ∧
 True)))))))))) ∧
 (∀ x_35 : Nat, ((Lf ((Nat.cast x_35 : Int) ≤ n_34)) →
(bif (decide ((Nat.cast x_35 : Int) < n_34)) then (bif ((Nat.blt (Int.toNat (Nat.cast x_35 : Int)) (List.length ex_4)) && true) then (bif (Nat.ble (((Int.toNat (Nat.cast x_35 : Int)) * (2 : Nat)) + (2 : Nat)) (List.length (cellsXM ex_4))) then (∃ n_36 : Int, (∃ s_37 : (List UInt8), (((AV.agg (List.take (2 : Nat) (List.drop ((Int.toNat (Nat.cast x_35 : Int)) * (2 : Nat)) (cellsXM ex_4)))) = (AV.agg ((AV.int .i64 n_36) :: ((AV.str s_37) :: [])))) ∧
 (∃ n_38 : Int, (((AV.int .i64 n_36) = (AV.int .i64 n_38)) ∧
 (∃ cs_39 : (List Int), (∃ ex_40 : (List Xt), ((Lf (medK (cellsI cs_3) (List.length cs_3) (cellsXM ex_4) (List.length ex_4) cs_39 ex_40)) ∧
 (∀ s_41 : (List UInt8), (∀ b_42 : Int, ((Lf ((Prod.mk s_41 b_42) = (mfindM (rightM ty'_2 seq ti ss cs_39 ex_40 pad) n_38 ex_40))) →
(∃ s_43 : (List UInt8), (((AV.str s_37) = (AV.str s_43)) ∧
 (bif (!(eqB s_41 s_43)) then (Q (Out.ret (AV.bool false)) [] (Gh.mk (0 : Nat) (0 : Nat) []))
else (bif (b_42 != (0 : Int)) then (Q (Out.ret (AV.bool false)) [] (Gh.mk (0 : Nat) (0 : Nat) []))
else (∃ n_44 : Int, (((AV.int .i64 (IntKind.wrap .i64 ((Nat.cast x_35 : Int) + (1 : Int)))) = (AV.int .i64 n_44)) ∧
 ((True ∧
 ((0 : Nat) = (0 : Nat))) ∧
 (∃ y_45 : Nat, ((Lf ((Nat.cast y_45 : Int) ≤ n_34)) ∧
 ((((Int.toNat n_34) - y_45) < ((Int.toNat n_34) - x_35)) ∧
 ((((AV.bool mk) :: ((AV.int .u8 ty) :: ((AV.int .u16 seq) :: ((AV.int .u32 ti) :: ((AV.int .u32 ss) :: ((AV.lst tc (cells32M ks) (List.length ks) (1 : Nat)) :: ((AV.lst tx (cellsPcM ps) (List.length ps) (2 : Nat)) :: ((AV.int .u8 pad) :: ((AV.str pl) :: []))))))))) = ((AV.bool mk) :: ((AV.int .u8 ty) :: ((AV.int .u16 seq) :: ((AV.int .u32 ti) :: ((AV.int .u32 ss) :: ((AV.lst tc (cells32M ks) (List.length ks) (1 : Nat)) :: ((AV.lst tx (cellsPcM ps) (List.length ps) (2 : Nat)) :: ((AV.int .u8 pad) :: ((AV.str pl) :: [])))))))))) ∧
 ((((AV.bool mk) :: ((AV.int .i64 ty'_2) :: ((AV.int .i64 seq) :: ((AV.int .i64 ti) :: ((AV.int .i64 ss) :: ((AV.lst (0 : Nat) (cellsI cs_3) (List.length cs_3) (1 : Nat)) :: ((AV.lst (0 : Nat) (cellsXM ex_4) (List.length ex_4) (2 : Nat)) :: ((AV.int .i64 pad) :: ((AV.str p'_5) :: []))))))))) = ((AV.bool mk) :: ((AV.int .i64 ty'_2) :: ((AV.int .i64 seq) :: ((AV.int .i64 ti) :: ((AV.int .i64 ss) :: ((AV.lst (0 : Nat) (cellsI cs_3) (List.length cs_3) (1 : Nat)) :: ((AV.lst (0 : Nat) (cellsXM ex_4) (List.length ex_4) (2 : Nat)) :: ((AV.int .i64 pad) :: ((AV.str p'_5) :: [])))))))))) ∧
 ((((AV.bool mk) :: ((AV.int .i64 ty'_2) :: ((AV.int .i64 seq) :: ((AV.int .i64 ti) :: ((AV.int .i64 ss) :: ((AV.lst (0 : Nat) (cellsI cs_3) (List.length cs_3) (1 : Nat)) :: ((AV.lst (0 : Nat) (cellsXM ex_4) (List.length ex_4) (2 : Nat)) :: ((AV.int .i64 pad) :: ((AV.str s_29) :: []))))))))) = ((AV.bool mk) :: ((AV.int .i64 ty'_2) :: ((AV.int .i64 seq) :: ((AV.int .i64 ti) :: ((AV.int .i64 ss) :: ((AV.lst (0 : Nat) (cellsI cs_3) (List.length cs_3) (1 : Nat)) :: ((AV.lst (0 : Nat) (cellsXM ex_4) (List.length ex_4) (2 : Nat)) :: ((AV.int .i64 pad) :: ((AV.str s_29) :: [])))))))))) ∧
 (((AV.ptr (1 : Nat) (9 : Nat) (0 : Nat)) = (AV.ptr (1 : Nat) (9 : Nat) (0 : Nat))) ∧
 (((AV.int .i64 n_34) = (AV.int .i64 n_34)) ∧
 (((AV.lst (0 : Nat) (cellsXM ex_4) (List.length ex_4) (2 : Nat)) = (AV.lst (0 : Nat) (cellsXM ex_4) (List.length ex_4) (2 : Nat))) ∧
 (((AV.str s_8) = (AV.str s_8)) ∧
 (((AV.int .i64 n_44) = (AV.int .i64 (Nat.cast y_45 : Int))) ∧
 True)))))))))))))))))))))))))))))
else False)
else False)
else (∃ n_36 : Int, (((AV.int .i64 (Nat.cast (List.length s_8) : Int)) = (AV.int .i64 n_36)) ∧
 ((∃ x_37 : Nat, ((Lf ((Nat.cast x_37 : Int) ≤ n_36)) ∧
 ((((AV.bool mk) :: ((AV.int .u8 ty) :: ((AV.int .u16 seq) :: ((AV.int .u32 ti) :: ((AV.int .u32 ss) :: ((AV.lst tc (cells32M ks) (List.length ks) (1 : Nat)) :: ((AV.lst tx (cellsPcM ps) (List.length ps) (2 : Nat)) :: ((AV.int .u8 pad) :: ((AV.str pl) :: []))))))))) = ((AV.bool mk) :: ((AV.int .u8 ty) :: ((AV.int .u16 seq) :: ((AV.int .u32 ti) :: ((AV.int .u32 ss) :: ((AV.lst tc (cells32M ks) (List.length ks) (1 : Nat)) :: ((AV.lst tx (cellsPcM ps) (List.length ps) (2 : Nat)) :: ((AV.int .u8 pad) :: ((AV.str pl) :: [])))))))))) ∧
 ((((AV.bool mk) :: ((AV.int .i64 ty'_2) :: ((AV.int .i64 seq) :: ((AV.int .i64 ti) :: ((AV.int .i64 ss) :: ((AV.lst (0 : Nat) (cellsI cs_3) (List.length cs_3) (1 : Nat)) :: ((AV.lst (0 : Nat) (cellsXM ex_4) (List.length ex_4) (2 : Nat)) :: ((AV.int .i64 pad) :: ((AV.str p'_5) :: []))))))))) = ((AV.bool mk) :: ((AV.int .i64 ty'_2) :: ((AV.int .i64 seq) :: ((AV.int .i64 ti) :: ((AV.int .i64 ss) :: ((AV.lst (0 : Nat) (cellsI cs_3) (List.length cs_3) (1 : Nat)) :: ((AV.lst (0 : Nat) (cellsXM ex_4) (List.length ex_4) (2 : Nat)) :: ((AV.int .i64 pad) :: ((AV.str p'_5) :: [])))))))))) ∧
 ((((AV.bool mk) :: ((AV.int .i64 ty'_2) :: ((AV.int .i64 seq) :: ((AV.int .i64 ti) :: ((AV.int .i64 ss) :: ((AV.lst (0 : Nat) (cellsI cs_3) (List.length cs_3) (1 : Nat)) :: ((AV.lst (0 : Nat) (cellsXM ex_4) (List.length ex_4) (2 : Nat)) :: ((AV.int .i64 pad) :: ((AV.str s_29) :: []))))))))) = ((AV.bool mk) :: ((AV.int .i64 ty'_2) :: ((AV.int .i64 seq) :: ((AV.int .i64 ti) :: ((AV.int .i64 ss) :: ((AV.lst (0 : Nat) (cellsI cs_3) (List.length cs_3) (1 : Nat)) :: ((AV.lst (0 : Nat) (cellsXM ex_4) (List.length ex_4) (2 : Nat)) :: ((AV.int .i64 pad) :: ((AV.str s_29) :: [])))))))))) ∧
 (((AV.int .i64 n_36) = (AV.int .i64 n_36)) ∧
 (((AV.int .i64 (0 : Int)) = (AV.int .i64 (Nat.cast x_37 : Int))) ∧
 (((AV.str s_8) = (AV.str s_8)) ∧
 True)))))))) ∧
 (∀ x_37 : Nat, ((Lf ((Nat.cast x_37 : Int) ≤ n_36)) →
(bif (decide ((Nat.cast x_37 : Int) < n_36)) then (∃ n_38 : Int, (((AV.int .i64 (Nat.cast x_37 : Int)) = (AV.int .i64 n_38)) ∧
 (bif (((decide ((0 : Int) ≤ n_38)) && true) && (Nat.ble (Int.toNat n_38) (List.length s_8))) then (∃ s_39 : (List UInt8), (((AV.str (List.take ((Int.toNat n_38) - (0 : Nat)) (List.drop (0 : Nat) s_8))) = (AV.str s_39)) ∧
 (bif (Nat.ble (List.length s_39) (1000000 : Nat)) then (∀ e_40 : Int, ((Lf (e_40 = (codeM s_39))) →
(bif (e_40 != (7 : Int)) then (Q (Out.ret (AV.bool false)) [] (Gh.mk (0 : Nat) (0 : Nat) []))
else (∃ n_41 : Int, (((AV.int .i64 (IntKind.wrap .i64 ((Nat.cast x_37 : Int) + (1 : Int)))) = (AV.int .i64 n_41)) ∧
 ((True ∧
 ((0 : Nat) = (0 : Nat))) ∧
 (∃ y_42 : Nat, ((Lf ((Nat.cast y_42 : Int) ≤ n_36)) ∧
 ((((Int.toNat n_36) - y_42) < ((Int.toNat n_36) - x_37)) ∧
 ((((AV.bool mk) :: ((AV.int .u8 ty) :: ((AV.int .u16 seq) :: ((AV.int .u32 ti) :: ((AV.int .u32 ss) :: ((AV.lst tc (cells32M ks) (List.length ks) (1 : Nat)) :: ((AV.lst tx (cellsPcM ps) (List.length ps) (2 : Nat)) :: ((AV.int .u8 pad) :: ((AV.str pl) :: []))))))))) = ((AV.bool mk) :: ((AV.int .u8 ty) :: ((AV.int .u16 seq) :: ((AV.int .u32 ti) :: ((AV.int .u32 ss) :: ((AV.lst tc (cells32M ks) (List.length ks) (1 : Nat)) :: ((AV.lst tx (cellsPcM ps) (List.length ps) (2 : Nat)) :: ((AV.int .u8 pad) :: ((AV.str pl) :: [])))))))))) ∧
 ((((AV.bool mk) :: ((AV.int .i64 ty'_2) :: ((AV.int .i64 seq) :: ((AV.int .i64 ti) :: ((AV.int .i64 ss) :: ((AV.lst (0 : Nat) (cellsI cs_3) (List.length cs_3) (1 : Nat)) :: ((AV.lst (0 : Nat) (cellsXM ex_4) (List.length ex_4) (2 : Nat)) :: ((AV.int .i64 pad) :: ((AV.str p'_5) :: []))))))))) = ((AV.bool mk) :: ((AV.int .i64 ty'_2) :: ((AV.int .i64 seq) :: ((AV.int .i64 ti) :: ((AV.int .i64 ss) :: ((AV.lst (0 : Nat) (cellsI cs_3) (List.length cs_3) (1 : Nat)) :: ((AV.lst (0 : Nat) (cellsXM ex_4) (List.length ex_4) (2 : Nat)) :: ((AV.int .i64 pad) :: ((AV.str p'_5) :: [])))))))))) ∧
 ((((AV.bool mk) :: ((AV.int .i64 ty'_2) :: ((AV.int .i64 seq) :: ((AV.int .i64 ti) :: ((AV.int .i64 ss) :: ((AV.lst (0 : Nat) (cellsI cs_3) (List.length cs_3) (1 : Nat)) :: ((AV.lst (0 : Nat) (cellsXM ex_4) (List.length ex_4) (2 : Nat)) :: ((AV.int .i64 pad) :: ((AV.str s_29) :: []))))))))) = ((AV.bool mk) :: ((AV.int .i64 ty'_2) :: ((AV.int .i64 seq) :: ((AV.int .i64 ti) :: ((AV.int .i64 ss) :: ((AV.lst (0 : Nat) (cellsI cs_3) (List.length cs_3) (1 : Nat)) :: ((AV.lst (0 : Nat) (cellsXM ex_4) (List.length ex_4) (2 : Nat)) :: ((AV.int .i64 pad) :: ((AV.str s_29) :: [])))))))))) ∧
 (((AV.int .i64 n_36) = (AV.int .i64 n_36)) ∧
 (((AV.int .i64 n_41) = (AV.int .i64 (Nat.cast y_42 : Int))) ∧
 (((AV.str s_8) = (AV.str s_8)) ∧
 True)))))))))))))))
else False)))
else False)))
else (Q (Out.ret (AV.bool true)) [] (Gh.mk (0 : Nat) (0 : Nat) []))))))))))))))))))))))))
else False)))))
else (Q (Out.ret (AV.bool false)) [] (Gh.mk (0 : Nat) (0 : Nat) [])))))
else False)))
else (Q (Out.ret (AV.bool false)) [] (Gh.mk (0 : Nat) (0 : Nat) [])))))))))
else False))))))))))))))))))))))))))))))))))))))))))) := by kernel_rfl

theorem smDK_ok : ∀ f g, smDK f = some g → ValidF Tryd.prog gl0 f g := lookS_ok _ (by simp only [List.mem_cons, List.not_mem_nil, or_false, forall_eq_or_imp, forall_eq]; exact ⟨draft_ok, head_ok, encode_ok, works_ok, mfind_ok, code_ok⟩)
theorem head_len4 (mk : Bool) (ty sq ti ss : Int) (cs : List Int) (ex : List Xt) (pad : Int) : (headM mk ty sq ti ss cs ex pad).length % 4 = 0 ∧ 12 ≤ (headM mk ty sq ti ss cs ex pad).length := by
  rw [head_split]
  simp only [List.length_append, be_len, put_len]
  have : (extHM ex).length % 4 = 0 := by
    rw [extHM]
    split
    · rfl
    · rw [List.length_append, put_len]
      have := extP_len4 ex
      simp only [List.length_cons, List.length_nil]
      omega
  omega
theorem right_exts {ty sq ti ss : Int} {cs : List Int} {ex : List Xt} {pad : Int} (h : rightM ty sq ti ss cs ex pad = true) : extsOkM 0 ex = true ∧ cs.length ≤ 15 ∧ ex.length ≤ 16 ∧ dataM ex := by
  rw [rightM, Bool.and_eq_true, flagsM, decide_eq_true_eq] at h
  obtain ⟨⟨_, _, _, _, _, _, _, _, _, h10, h11, h12, h13⟩, ho⟩ := h
  exact ⟨ho, h12, h13, fun x hx => by have := exts_all ex 0 (by omega) ho x hx; omega⟩
theorem pad_len {pad : Int} (h : 0 ≤ pad) : ((padM pad).length : Int) = pad := by
  rw [padM]
  split
  · rw [List.length_append, List.length_replicate, put_len]
    simp
    omega
  · simp
    omega
theorem parts_run (mk : Bool) (ty seq ti ss : Int) (tc : Nat) (ks : List Int) (tx : Nat) (ps : List Xt) (pad : Int) (pl other : List UInt8) (hdk : draftK (cells32M ks) ks.length (cellsPcM ps) ps.length ks ps) (hty : 0 ≤ ty ∧ ty ≤ 255) (hseq : 0 ≤ seq ∧ seq ≤ 65535) (hti : 0 ≤ ti ∧ ti ≤ 4294967295) (hss : 0 ≤ ss ∧ ss ≤ 4294967295) (hpad : 0 ≤ pad ∧ pad ≤ 255)
    (Q : Out → List Blk → Gh → Prop) (hq : Q (.ret (.bool true)) [] {}) : ∃ hv hb, goal_7 hv hb mk ty seq ti ss tc ks tx ps pad pl other Q := by
  obtain ⟨hv, hb', e⟩ : ∃ hv hb, goal_7 hv hb mk ty seq ti ss tc ks tx ps pad pl other Q = _ := ⟨_, _, vc_7 mk ty seq ti ss tc ks tx ps pad pl other Q⟩
  refine ⟨hv, hb', e.mpr ?_⟩
  clear e
  refine ⟨ks, ps, ⟨hdk, hty, hseq, hti, hss, hpad⟩, ?_⟩
  rintro ty' cs ex p' ⟨e1, e2, e3, e4⟩
  obtain ⟨d1, d2⟩ := draft_right (mk := mk) (ps := ps) (pl := pl) hdk.2.2.2.2.2.2.1 hty hseq hti hss hpad
  rw [← e1, ← e2, ← e3] at d1
  rw [← e1, ← e2, ← e3, ← e4] at d2
  obtain ⟨ho, l1, l2, l3⟩ := right_exts d1
  have hp60 : p'.length ≤ 60 := by rw [e4, List.length_take]; omega
  have hmk : medK (cellsI cs) cs.length (cellsXM ex) ex.length cs ex := ⟨rfl, rfl, rfl, rfl, by omega, by omega, l3⟩
  have hex : ex.length ≤ 4 := by rw [e3, pcs_len, List.length_take]; omega
  have hdl : ∀ x ∈ ex, x.2.length ≤ 20 := by rw [e3]; exact pcs_data _ _
  have hB : (headM mk ty' seq ti ss cs ex pad).length + 60 + pad ≤ 1200 := by
    have hb := (draft_right (mk := mk) (ps := ps) (pl := List.replicate 60 0) hdk.2.2.2.2.2.2.1 hty hseq hti hss hpad).2
    rw [← e1, ← e2, ← e3, totalM, List.take_of_length_le (by simp), List.length_replicate] at hb
    omega
  obtain ⟨h4, h12⟩ := head_len4 mk ty' seq ti ss cs ex pad
  refine ⟨cs, ex, ⟨hmk, by omega⟩, ?_⟩
  rintro h e ⟨he⟩
  rw [headRM, if_neg (by rw [d1]; simp), if_neg (by omega)] at he
  simp only [Prod.mk.injEq] at he
  obtain ⟨rfl, rfl⟩ := he
  refine ⟨cs, ex, ⟨hmk, by omega⟩, ?_⟩
  rintro s e ⟨he⟩
  rw [encRM, if_neg (by rw [d1]; simp), if_neg (by omega)] at he
  simp only [Prod.mk.injEq] at he
  obtain ⟨rfl, rfl⟩ := he
  have hpl := pad_len hpad.1
  have hL : (encM mk ty' seq ti ss cs ex pad p').length = (headM mk ty' seq ti ss cs ex pad).length + p'.length + (padM pad).length := by rw [encM, List.length_append, List.length_append]
  have hT : (encM mk ty' seq ti ss cs ex pad p').take ((headM mk ty' seq ti ss cs ex pad) ++ p').length = headM mk ty' seq ti ss cs ex pad ++ p' := by rw [encM, List.take_left]
  have hcode : ∀ n, n < (headM mk ty' seq ti ss cs ex pad).length → codeM ((headM mk ty' seq ti ss cs ex pad).take n) = 7 := fun n hn => code_short d1 (by omega) hn
  refine splitNE (fun h => absurd rfl h) (fun _ => splitNE (fun h => absurd rfl h) (fun _ => ⟨_, rfl, _, rfl, splitNE (fun h => absurd (show Int.tmod ((headM mk ty' seq ti ss cs ex pad).length : Int) 4 = 0 by rw [Int.tmod_eq_emod_of_nonneg (by omega)]; omega) h) (fun _ => ⟨_, rfl, splitD (fun h => absurd h (by omega)) (fun _ => ⟨_, rfl, _, rfl, _, rfl, wrapI (by omega) (by omega) (wrapI (by omega) (by omega) (splitNE (fun h => absurd (by omega) h) (fun _ => ?_)))⟩)⟩)⟩))
  refine ckI (by simp; omega) ⟨_, rfl, _, rfl, _, rfl, splitD (fun _ => ⟨_, rfl, ckI (by simp; omega) ⟨headM mk ty' seq ti ss cs ex pad ++ p', by rw [List.drop_zero, Nat.sub_zero, Int.toNat_natCast, hT], ?_⟩⟩) (fun h => absurd (show ((encM mk ty' seq ti ss cs ex pad p').length : Int) ≥ ((headM mk ty' seq ti ss cs ex pad ++ p').length : Int) by rw [List.length_append]; omega) h)⟩
  rw [eqB_self]
  refine ⟨_, rfl, iminI (b := 60) rfl (ckI (by simp; omega) ⟨other.take 60, by rw [take_imin], cs, ex, ⟨hmk, by rw [List.length_take]; omega⟩, ?_⟩)⟩
  rintro h2 e ⟨he⟩
  rw [headRM, if_neg (by rw [d1]; simp), if_neg (by rw [totalM, List.length_take]; omega)] at he
  simp only [Prod.mk.injEq] at he
  obtain ⟨rfl, rfl⟩ := he
  generalize headM mk ty' seq ti ss cs ex pad = h at *
  refine eqbI (splitNE (fun h => absurd rfl h) (fun _ => ⟨_, rfl, ⟨0, ⟨by omega⟩, rfl, rfl, rfl, rfl, rfl, rfl, rfl, rfl, trivial⟩, ?_⟩))
  rintro i ⟨hi⟩
  refine splitD (fun hlt => ?_) (fun _ => ?_)
  · have hi' : i < ex.length := by omega
    refine ckI (by simp; omega) (ckI (by rw [cellsX_len]; simp; omega) (getX hi' (by simp) ⟨_, rfl, cs, ex, ⟨hmk⟩, ?_⟩))
    rintro d b ⟨hd⟩
    obtain ⟨g1, g2⟩ := find_self ex 0 ho i hi'
    have g3 := exts_all ex 0 (by omega) ho ex[i] (List.getElem_mem hi')
    rw [mfindM, if_pos d1, if_neg (by omega), g2] at hd
    simp only [Prod.mk.injEq] at hd
    obtain ⟨rfl, rfl⟩ := hd
    refine ⟨_, rfl, eqbI (splitNE (fun h => absurd rfl h) (fun _ => wrapI (by omega) (by omega) ⟨⟨trivial, rfl⟩, i + 1, ⟨by omega⟩, by omega, rfl, rfl, rfl, rfl, rfl, rfl, rfl, rfl, trivial⟩))⟩
  · refine ⟨_, rfl, ⟨0, ⟨by omega⟩, rfl, rfl, rfl, rfl, rfl, rfl, trivial⟩, ?_⟩
    rintro j ⟨hj⟩
    refine splitD (fun hlt => ?_) (fun _ => hq)
    refine ⟨_, rfl, ckI (by simp; omega) ⟨h.take j, by rw [List.drop_zero, Nat.sub_zero, Int.toNat_natCast], ckI (by rw [Nat.ble_eq, List.length_take]; omega) ?_⟩⟩
    rintro e ⟨he⟩
    rw [hcode j (by omega)] at he
    subst he
    exact splitNE (fun h => absurd rfl h) (fun _ => wrapI (by omega) (by omega) ⟨⟨trivial, rfl⟩, j + 1, ⟨by omega⟩, by omega, rfl, rfl, rfl, rfl, rfl, rfl, trivial⟩)
end Go.Proofs.YtbchmkhliehbfaaDoor

/-
  Chapter 23: MediaFinds.
-/
import Derived.Test.YtbchmkhliehbfaaDoorM23U
import Derived.Test.YtbchmkhliehbfaaDoorM23K
set_option linter.unusedSimpArgs false
set_option linter.unusedVariables false
set_option linter.unusedSectionVars false
namespace Go.Proofs.YtbchmkhliehbfaaDoor
open Go.RowKit
set_option maxRecDepth 1000000

def smW : SM := lookS [(10, cDraft), (11, cBend), (16, cRight), (17, cREnc), (19, cTrue), (24, cFind), (25, cRFind), (26, cDemux), (27, cDemux)]
theorem smW_ok : ∀ f g, smW f = some g → ValidF Tryd.prog gl0 f g := lookS_ok _ (by simp only [List.mem_cons, List.not_mem_nil, or_false, forall_eq_or_imp, forall_eq]; exact ⟨draft_ok, bend_ok, rright_ok, renc_ok, works_ok, mfind_ok, rfind_ok, demux_ok, rdemux_ok⟩)
noncomputable def goal_5 (hv : Nat → Option Pa) (hb : Nat → Option Bool) (mk : Bool) (ty seq ti ss : Int) (tc : Nat) (ks : List Int) (tx : Nat) (ps : List Xt) (pad : Int) (pl : List UInt8) (what bat bn id at' : Int) (raw : List UInt8) (Q : Out → List Blk → Gh → Prop) : Prop :=
  callx (e23 smW (fun _ => none) hv hb) (wpx (e23 smW (fun _ => none) hv hb) 1000) 5 [.agg (draftM mk ty seq ti ss tc ks tx ps pad pl), .agg (bendA what bat bn), .int .i64 id, .int .u8 at', .str raw] [] {} Q
def tail5 (mk : Bool) (ty seq ti ss : Int) (cs : List Int) (ex : List Xt) (pad : Int) (pl raw : List UInt8) (Q : Out → List Blk → Gh → Prop) : Prop :=
(∃ n_36 : Int, (((AV.int .i64 (Nat.cast (List.length raw) : Int)) = (AV.int .i64 n_36)) ∧
 (∃ n_37 : Int, (((AV.int .i64 (imin n_36 (40 : Int))) = (AV.int .i64 n_37)) ∧
 (bif (((decide ((0 : Int) ≤ n_37)) && true) && (Nat.ble (Int.toNat n_37) (List.length raw))) then (∃ s_38 : (List UInt8), (((AV.str (List.take ((Int.toNat n_37) - (0 : Nat)) (List.drop (0 : Nat) raw))) = (AV.str s_38)) ∧
 (∃ cs_39 : (List Int), (∃ ex_40 : (List Xt), ((Lf (((medK (cellsI cs) (List.length cs) (cellsXM ex) (List.length ex) cs_39 ex_40) ∧
 ((rightM ty seq ti ss cs_39 ex_40 pad) = true)) ∧
 ((List.length pl) ≤ (1000000000 : Nat)))) ∧
 (∀ s_41 : (List UInt8), ((Lf (s_41 = (encM mk ty seq ti ss cs_39 ex_40 pad pl))) →
((Lf ((List.length s_41) ≤ (9223372036854775807 : Nat))) ∧
 (∀ r_42 : Int, ((Lf (r_42 = (demuxM s_41))) →
((Lf ((List.length s_41) ≤ (9223372036854775807 : Nat))) ∧
 (∀ r_43 : Int, ((Lf (r_43 = (demuxM s_41))) →
(bif (r_42 != r_43) then (Q (Out.ret (AV.bool false)) [] (Gh.mk (0 : Nat) (0 : Nat) []))
else ((Lf ((List.length s_38) ≤ (9223372036854775807 : Nat))) ∧
 (∀ r_44 : Int, ((Lf (r_44 = (demuxM s_38))) →
((Lf ((List.length s_38) ≤ (9223372036854775807 : Nat))) ∧
 (∀ r_45 : Int, ((Lf (r_45 = (demuxM s_38))) →
(bif (r_44 != r_45) then (Q (Out.ret (AV.bool false)) [] (Gh.mk (0 : Nat) (0 : Nat) []))
else (Q (Out.ret (AV.bool true)) [] (Gh.mk (0 : Nat) (0 : Nat) [])))))))))))))))))))))))
else False)))))
def sec5 (mk : Bool) (ty seq ti ss : Int) (cs : List Int) (ex : List Xt) (pad : Int) (pl raw : List UInt8) (id : Int) (ty2 seq2 ti2 ss2 : Int) (cs2 : List Int) (ex2 : List Xt) (pad2 : Int) (Q : Out → List Blk → Gh → Prop) : Prop :=
(∃ cs_29 : (List Int), (∃ ex_30 : (List Xt), ((Lf (medK (cellsI cs2) (List.length cs2) (cellsXM ex2) (List.length ex2) cs_29 ex_30)) ∧
 (∀ s_31 : (List UInt8), (∀ b_32 : Int, ((Lf ((Prod.mk s_31 b_32) = (mfindM (rightM ty2 seq2 ti2 ss2 cs_29 ex_30 pad2) id ex_30))) →
(∃ cs_33 : (List Int), (∃ ex_34 : (List Xt), ((Lf (medK (cellsI cs2) (List.length cs2) (cellsXM ex2) (List.length ex2) cs_33 ex_34)) ∧
 (∀ b_35 : Bool, ((Lf (b_35 = (rightM ty2 seq2 ti2 ss2 cs_33 ex_34 pad2))) →
(bif b_35 then (bif (decide (id < (1 : Int))) then (bif (!(eqB s_31 [])) then (Q (Out.ret (AV.bool false)) [] (Gh.mk (0 : Nat) (0 : Nat) []))
else (bif (b_32 != (2 : Int)) then (Q (Out.ret (AV.bool false)) [] (Gh.mk (0 : Nat) (0 : Nat) []))
else (tail5 mk ty seq ti ss cs ex pad pl raw Q)))
else (bif (decide (id > (255 : Int))) then (bif (!(eqB s_31 [])) then (Q (Out.ret (AV.bool false)) [] (Gh.mk (0 : Nat) (0 : Nat) []))
else (bif (b_32 != (2 : Int)) then (Q (Out.ret (AV.bool false)) [] (Gh.mk (0 : Nat) (0 : Nat) []))
else (tail5 mk ty seq ti ss cs ex pad pl raw Q)))
else (∃ cs_36 : (List Int), (∃ ex_37 : (List Xt), ((Lf (medK (cellsI cs2) (List.length cs2) (cellsXM ex2) (List.length ex2) cs_36 ex_37)) ∧
 (∀ s_38 : (List UInt8), (∀ b_39 : Bool, ((Lf ((Prod.mk s_38 b_39) = (rfindM id ex_37))) →
(bif b_39 then (bif (!(eqB s_31 s_38)) then (Q (Out.ret (AV.bool false)) [] (Gh.mk (0 : Nat) (0 : Nat) []))
else (bif (b_32 != (0 : Int)) then (Q (Out.ret (AV.bool false)) [] (Gh.mk (0 : Nat) (0 : Nat) []))
else (tail5 mk ty seq ti ss cs ex pad pl raw Q)))
else (bif (!(eqB s_31 [])) then (Q (Out.ret (AV.bool false)) [] (Gh.mk (0 : Nat) (0 : Nat) []))
else (bif (b_32 != (4 : Int)) then (Q (Out.ret (AV.bool false)) [] (Gh.mk (0 : Nat) (0 : Nat) []))
else (tail5 mk ty seq ti ss cs ex pad pl raw Q))))))))))))
else (bif (!(eqB s_31 [])) then (Q (Out.ret (AV.bool false)) [] (Gh.mk (0 : Nat) (0 : Nat) []))
else (bif (b_32 != (230 : Int)) then (Q (Out.ret (AV.bool false)) [] (Gh.mk (0 : Nat) (0 : Nat) []))
else (tail5 mk ty seq ti ss cs ex pad pl raw Q)))))))))))))))
def fst5 (mk : Bool) (ty seq ti ss : Int) (cs : List Int) (ex : List Xt) (pad : Int) (pl raw : List UInt8) (id : Int) (ty2 seq2 ti2 ss2 : Int) (cs2 : List Int) (ex2 : List Xt) (pad2 : Int) (Q : Out → List Blk → Gh → Prop) : Prop :=
(∃ cs_22 : (List Int), (∃ ex_23 : (List Xt), ((Lf (medK (cellsI cs) (List.length cs) (cellsXM ex) (List.length ex) cs_22 ex_23)) ∧
 (∀ s_24 : (List UInt8), (∀ b_25 : Int, ((Lf ((Prod.mk s_24 b_25) = (mfindM (rightM ty seq ti ss cs_22 ex_23 pad) id ex_23))) →
(∃ cs_26 : (List Int), (∃ ex_27 : (List Xt), ((Lf (medK (cellsI cs) (List.length cs) (cellsXM ex) (List.length ex) cs_26 ex_27)) ∧
 (∀ b_28 : Bool, ((Lf (b_28 = (rightM ty seq ti ss cs_26 ex_27 pad))) →
(bif b_28 then (bif (decide (id < (1 : Int))) then (bif (!(eqB s_24 [])) then (Q (Out.ret (AV.bool false)) [] (Gh.mk (0 : Nat) (0 : Nat) []))
else (bif (b_25 != (2 : Int)) then (Q (Out.ret (AV.bool false)) [] (Gh.mk (0 : Nat) (0 : Nat) []))
else (sec5 mk ty seq ti ss cs ex pad pl raw id ty2 seq2 ti2 ss2 cs2 ex2 pad2 Q)))
else (bif (decide (id > (255 : Int))) then (bif (!(eqB s_24 [])) then (Q (Out.ret (AV.bool false)) [] (Gh.mk (0 : Nat) (0 : Nat) []))
else (bif (b_25 != (2 : Int)) then (Q (Out.ret (AV.bool false)) [] (Gh.mk (0 : Nat) (0 : Nat) []))
else (sec5 mk ty seq ti ss cs ex pad pl raw id ty2 seq2 ti2 ss2 cs2 ex2 pad2 Q)))
else (∃ cs_29 : (List Int), (∃ ex_30 : (List Xt), ((Lf (medK (cellsI cs) (List.length cs) (cellsXM ex) (List.length ex) cs_29 ex_30)) ∧
 (∀ s_31 : (List UInt8), (∀ b_32 : Bool, ((Lf ((Prod.mk s_31 b_32) = (rfindM id ex_30))) →
(bif b_32 then (bif (!(eqB s_24 s_31)) then (Q (Out.ret (AV.bool false)) [] (Gh.mk (0 : Nat) (0 : Nat) []))
else (bif (b_25 != (0 : Int)) then (Q (Out.ret (AV.bool false)) [] (Gh.mk (0 : Nat) (0 : Nat) []))
else (sec5 mk ty seq ti ss cs ex pad pl raw id ty2 seq2 ti2 ss2 cs2 ex2 pad2 Q)))
else (bif (!(eqB s_24 [])) then (Q (Out.ret (AV.bool false)) [] (Gh.mk (0 : Nat) (0 : Nat) []))
else (bif (b_25 != (4 : Int)) then (Q (Out.ret (AV.bool false)) [] (Gh.mk (0 : Nat) (0 : Nat) []))
else (sec5 mk ty seq ti ss cs ex pad pl raw id ty2 seq2 ti2 ss2 cs2 ex2 pad2 Q))))))))))))
else (bif (!(eqB s_24 [])) then (Q (Out.ret (AV.bool false)) [] (Gh.mk (0 : Nat) (0 : Nat) []))
else (bif (b_25 != (230 : Int)) then (Q (Out.ret (AV.bool false)) [] (Gh.mk (0 : Nat) (0 : Nat) []))
else (sec5 mk ty seq ti ss cs ex pad pl raw id ty2 seq2 ti2 ss2 cs2 ex2 pad2 Q)))))))))))))))
theorem vc_5 (mk : Bool) (ty : Int) (seq : Int) (ti : Int) (ss : Int) (tc : Nat) (ks : List Int) (tx : Nat) (ps : List Xt) (pad : Int) (pl : List UInt8) (what : Int) (bat : Int) (bn : Int) (id : Int) (at' : Int) (raw : List UInt8) (Q : Out → List Blk → Gh → Prop) : goal_5 (lookV [(20507, .int .i64), (20512, .int .u8), (20518, .int .u8), (20519, .int .i64), (20521, .int .i64), (20524, .int .i64), (20571, .int .i64), (20572, .int .i64), (20573, .str)]) (lookB []) mk ty seq ti ss tc ks tx ps pad pl what bat bn id at' raw Q = (
(∃ ks_0 : (List Int), (∃ ps_1 : (List Xt), ((Lf ((draftK (cells32M ks) (List.length ks) (cellsPcM ps) (List.length ps) ks_0 ps_1) ∧
 ((((0 : Int) ≤ ty) ∧
 (ty ≤ (255 : Int))) ∧
 ((((0 : Int) ≤ seq) ∧
 (seq ≤ (65535 : Int))) ∧
 ((((0 : Int) ≤ ti) ∧
 (ti ≤ (4294967295 : Int))) ∧
 ((((0 : Int) ≤ ss) ∧
 (ss ≤ (4294967295 : Int))) ∧
 (((0 : Int) ≤ pad) ∧
 (pad ≤ (255 : Int))))))))) ∧
 (∀ ty'_2 : Int, (∀ cs_3 : (List Int), (∀ ex_4 : (List Xt), (∀ p'_5 : (List UInt8), ((Lf ((ty'_2 = (ty % (128 : Int))) ∧
 ((cs_3 = (List.take (3 : Nat) ks_0)) ∧
 ((ex_4 = (pcsM (0 : Int) (List.take (4 : Nat) ps_1))) ∧
 (p'_5 = (List.take (60 : Nat) pl)))))) →
(∃ n_6 : Int, (((AV.int .i64 (Nat.cast (List.length ex_4) : Int)) = (AV.int .i64 n_6)) ∧
 (bif (decide (n_6 > (0 : Int))) then (∃ n_7 : Int, (((AV.int .u8 (Int.tmod at' (2 : Int))) = (AV.int .u8 n_7)) ∧
 (bif (n_7 == (0 : Int)) then (∃ n_8 : Int, (((AV.int .u8 (IntKind.wrap .u8 (Int.tdiv at' (2 : Int)))) = (AV.int .u8 n_8)) ∧
 (∃ n_9 : Int, (((AV.int .i64 (IntKind.wrap .i64 n_8)) = (AV.int .i64 n_9)) ∧
 (bif ((n_6 != (0 : Int)) && true) then (∃ n_10 : Int, (((AV.int .i64 (Int.tmod n_9 n_6)) = (AV.int .i64 n_10)) ∧
 (bif (((decide ((0 : Int) ≤ n_10)) && (Nat.blt (Int.toNat n_10) (List.length ex_4))) && true) then (bif (Nat.blt (((Int.toNat n_10) * (2 : Nat)) + (0 : Nat)) (List.length (cellsXM ex_4))) then (∃ n_11 : Int, (((List.getD (cellsXM ex_4) (((Int.toNat n_10) * (2 : Nat)) + (0 : Nat)) AV.undef) = (AV.int .i64 n_11)) ∧
 (∃ cs_12 : (List Int), (∃ ex_13 : (List Xt), ((Lf (((cellsI cs_3) = (cellsI cs_12)) ∧
 (((List.length cs_3) = (List.length cs_12)) ∧
 (((cellsXM ex_4) = (cellsXM ex_13)) ∧
 (((List.length ex_4) = (List.length ex_13)) ∧
 ((((0 : Int) ≤ bat) ∧
 (bat ≤ (255 : Int))) ∧
 (((List.length cs_12) ≤ (1000 : Nat)) ∧
 (((List.length ex_13) ≤ (1000 : Nat)) ∧
 ((∀ x_14 : Xt, ((Membership.mem ex_13 x_14) →
((List.length (Prod.snd x_14)) ≤ (300 : Nat)))) ∧
 ((List.length p'_5) ≤ (1300 : Nat))))))))))) ∧
 (Bool →
(∀ ty'_14 : Int, (∀ seq'_15 : Int, (∀ ti'_16 : Int, (∀ ss'_17 : Int, (∀ cs'_18 : (List Int), (∀ ex'_19 : (List Xt), (∀ pad'_20 : Int, (∀ pl'_21 : (List UInt8), ((Lf (((List.length cs'_18) ≤ ((List.length cs_12) + (1 : Nat))) ∧
 (((List.length ex'_19) ≤ ((List.length ex_13) + (1 : Nat))) ∧
 ((∀ x_22 : Xt, ((Membership.mem ex'_19 x_22) →
((List.length (Prod.snd x_22)) ≤ (300 : Nat)))) ∧
 ((List.length pl'_21) ≤ (1300 : Nat)))))) →
(bif ((eqAVL ((AV.bool mk) :: ((AV.int .i64 ty'_2) :: ((AV.int .i64 seq) :: ((AV.int .i64 ti) :: ((AV.int .i64 ss) :: ((AV.lst (0 : Nat) (cellsI cs_3) (List.length cs_3) (1 : Nat)) :: ((AV.lst (0 : Nat) (cellsXM ex_4) (List.length ex_4) (2 : Nat)) :: ((AV.int .i64 pad) :: ((AV.str p'_5) :: []))))))))) ((AV.bool mk) :: ((AV.int .i64 ty'_2) :: ((AV.int .i64 seq) :: ((AV.int .i64 ti) :: ((AV.int .i64 ss) :: ((AV.lst (0 : Nat) (cellsI cs_3) (List.length cs_3) (1 : Nat)) :: ((AV.lst (0 : Nat) (cellsXM ex_4) (List.length ex_4) (2 : Nat)) :: ((AV.int .i64 pad) :: ((AV.str p'_5) :: [])))))))))) && true) then (fst5 mk ty'_2 seq ti ss cs_3 ex_4 pad p'_5 raw n_11 ty'_14 seq'_15 ti'_16 ss'_17 cs'_18 ex'_19 pad'_20 Q)
else False))))))))))))))))
else False)
else False)))
else False)))))
else (∃ cs_8 : (List Int), (∃ ex_9 : (List Xt), ((Lf (((cellsI cs_3) = (cellsI cs_8)) ∧
 (((List.length cs_3) = (List.length cs_8)) ∧
 (((cellsXM ex_4) = (cellsXM ex_9)) ∧
 (((List.length ex_4) = (List.length ex_9)) ∧
 ((((0 : Int) ≤ bat) ∧
 (bat ≤ (255 : Int))) ∧
 (((List.length cs_8) ≤ (1000 : Nat)) ∧
 (((List.length ex_9) ≤ (1000 : Nat)) ∧
 ((∀ x_10 : Xt, ((Membership.mem ex_9 x_10) →
((List.length (Prod.snd x_10)) ≤ (300 : Nat)))) ∧
 ((List.length p'_5) ≤ (1300 : Nat))))))))))) ∧
 (Bool →
(∀ ty'_10 : Int, (∀ seq'_11 : Int, (∀ ti'_12 : Int, (∀ ss'_13 : Int, (∀ cs'_14 : (List Int), (∀ ex'_15 : (List Xt), (∀ pad'_16 : Int, (∀ pl'_17 : (List UInt8), ((Lf (((List.length cs'_14) ≤ ((List.length cs_8) + (1 : Nat))) ∧
 (((List.length ex'_15) ≤ ((List.length ex_9) + (1 : Nat))) ∧
 ((∀ x_18 : Xt, ((Membership.mem ex'_15 x_18) →
((List.length (Prod.snd x_18)) ≤ (300 : Nat)))) ∧
 ((List.length pl'_17) ≤ (1300 : Nat)))))) →
(bif ((eqAVL ((AV.bool mk) :: ((AV.int .i64 ty'_2) :: ((AV.int .i64 seq) :: ((AV.int .i64 ti) :: ((AV.int .i64 ss) :: ((AV.lst (0 : Nat) (cellsI cs_3) (List.length cs_3) (1 : Nat)) :: ((AV.lst (0 : Nat) (cellsXM ex_4) (List.length ex_4) (2 : Nat)) :: ((AV.int .i64 pad) :: ((AV.str p'_5) :: []))))))))) ((AV.bool mk) :: ((AV.int .i64 ty'_2) :: ((AV.int .i64 seq) :: ((AV.int .i64 ti) :: ((AV.int .i64 ss) :: ((AV.lst (0 : Nat) (cellsI cs_3) (List.length cs_3) (1 : Nat)) :: ((AV.lst (0 : Nat) (cellsXM ex_4) (List.length ex_4) (2 : Nat)) :: ((AV.int .i64 pad) :: ((AV.str p'_5) :: [])))))))))) && true) then (fst5 mk ty'_2 seq ti ss cs_3 ex_4 pad p'_5 raw id ty'_10 seq'_11 ti'_12 ss'_13 cs'_14 ex'_15 pad'_16 Q)
else False)))))))))))))))))
else (∃ cs_7 : (List Int), (∃ ex_8 : (List Xt), ((Lf (((cellsI cs_3) = (cellsI cs_7)) ∧
 (((List.length cs_3) = (List.length cs_7)) ∧
 (((cellsXM ex_4) = (cellsXM ex_8)) ∧
 (((List.length ex_4) = (List.length ex_8)) ∧
 ((((0 : Int) ≤ bat) ∧
 (bat ≤ (255 : Int))) ∧
 (((List.length cs_7) ≤ (1000 : Nat)) ∧
 (((List.length ex_8) ≤ (1000 : Nat)) ∧
 ((∀ x_9 : Xt, ((Membership.mem ex_8 x_9) →
((List.length (Prod.snd x_9)) ≤ (300 : Nat)))) ∧
 ((List.length p'_5) ≤ (1300 : Nat))))))))))) ∧
 (Bool →
(∀ ty'_9 : Int, (∀ seq'_10 : Int, (∀ ti'_11 : Int, (∀ ss'_12 : Int, (∀ cs'_13 : (List Int), (∀ ex'_14 : (List Xt), (∀ pad'_15 : Int, (∀ pl'_16 : (List UInt8), ((Lf (((List.length cs'_13) ≤ ((List.length cs_7) + (1 : Nat))) ∧
 (((List.length ex'_14) ≤ ((List.length ex_8) + (1 : Nat))) ∧
 ((∀ x_17 : Xt, ((Membership.mem ex'_14 x_17) →
((List.length (Prod.snd x_17)) ≤ (300 : Nat)))) ∧
 ((List.length pl'_16) ≤ (1300 : Nat)))))) →
(bif ((eqAVL ((AV.bool mk) :: ((AV.int .i64 ty'_2) :: ((AV.int .i64 seq) :: ((AV.int .i64 ti) :: ((AV.int .i64 ss) :: ((AV.lst (0 : Nat) (cellsI cs_3) (List.length cs_3) (1 : Nat)) :: ((AV.lst (0 : Nat) (cellsXM ex_4) (List.length ex_4) (2 : Nat)) :: ((AV.int .i64 pad) :: ((AV.str p'_5) :: []))))))))) ((AV.bool mk) :: ((AV.int .i64 ty'_2) :: ((AV.int .i64 seq) :: ((AV.int .i64 ti) :: ((AV.int .i64 ss) :: ((AV.lst (0 : Nat) (cellsI cs_3) (List.length cs_3) (1 : Nat)) :: ((AV.lst (0 : Nat) (cellsXM ex_4) (List.length ex_4) (2 : Nat)) :: ((AV.int .i64 pad) :: ((AV.str p'_5) :: [])))))))))) && true) then (fst5 mk ty'_2 seq ti ss cs_3 ex_4 pad p'_5 raw id ty'_9 seq'_10 ti'_11 ss'_12 cs'_13 ex'_14 pad'_15 Q)
else False)))))))))))))))))))))))))) := by kernel_rfl

theorem eqB_self (s : List UInt8) : eqB s s = true := by
  induction s with
  | nil => rfl
  | cons a s ih => simp [eqB, ih]
theorem eqbI {s : List UInt8} {A B : Prop} (h : B) : bif !(eqB s s) then A else B := by
  rw [eqB_self]
  exact h
theorem eqL_I (l : List Int) : eqAVL (cellsI l) (cellsI l) = true := by
  induction l with
  | nil => rfl
  | cons x l ih => simpa [cellsI, eqAVL, eqAV] using ih
theorem eqL_X : ∀ l : List Xt, eqAVL (cellsXM l) (cellsXM l) = true
  | [] => rfl
  | x :: l => by simpa [cellsXM, eqAVL, eqAV, eqB_self] using eqL_X l
section
variable {mk : Bool} {ty seq ti ss : Int} {cs : List Int} {ex : List Xt} {pad : Int} {pl raw : List UInt8} {Q : Out → List Blk → Gh → Prop} (hk : medK (cellsI cs) cs.length (cellsXM ex) ex.length cs ex) (hR : rightM ty seq ti ss cs ex pad = true) (hpl : pl.length ≤ 1300) (hraw : raw.length ≤ 9223372036854775807) (hq : Q (.ret (.bool true)) [] {})
include hk hR hpl hraw hq
theorem tail_ok : tail5 mk ty seq ti ss cs ex pad pl raw Q := by
  have hsl : (encM mk ty seq ti ss cs ex pad pl).length ≤ 9223372036854775807 := by
    obtain ⟨r1, r2, r3, r4, r5⟩ := right_of hR
    have hb := head_bound mk ty seq ti ss cs ex pad r2 r3 r4
    rw [encM, List.length_append, List.length_append, padM]
    split
    · rw [List.length_append, List.length_replicate, put_len]
      simp
      omega
    · simp
      omega
  unfold tail5
  refine ⟨_, rfl, iminI (b := 40) rfl (ckI (by simp; omega) ⟨raw.take 40, by rw [take_imin], cs, ex, ⟨⟨hk, hR⟩, by omega⟩, ?_⟩)⟩
  rintro s ⟨rfl⟩
  refine ⟨⟨hsl⟩, ?_⟩
  rintro r ⟨rfl⟩
  refine ⟨⟨hsl⟩, ?_⟩
  rintro r ⟨rfl⟩
  refine splitNE (fun h => absurd rfl h) (fun _ => ⟨⟨by rw [List.length_take]; omega⟩, ?_⟩)
  rintro r ⟨rfl⟩
  refine ⟨⟨by rw [List.length_take]; omega⟩, ?_⟩
  rintro r ⟨rfl⟩
  exact splitNE (fun h => absurd rfl h) (fun _ => hq)
variable {id : Int} {ty2 seq2 ti2 ss2 : Int} {cs2 : List Int} {ex2 : List Xt} {pad2 : Int} (hk2 : medK (cellsI cs2) cs2.length (cellsXM ex2) ex2.length cs2 ex2)
include hk2
theorem sec_ok : sec5 mk ty seq ti ss cs ex pad pl raw id ty2 seq2 ti2 ss2 cs2 ex2 pad2 Q := by
  have T := tail_ok hk hR hpl hraw hq (mk := mk)
  unfold tail5 at T
  unfold sec5
  refine ⟨cs2, ex2, ⟨hk2⟩, ?_⟩
  rintro s b ⟨hsb⟩
  refine ⟨cs2, ex2, ⟨hk2⟩, ?_⟩
  rintro r ⟨hr⟩
  rw [← hr] at hsb
  refine splitI (fun h => ?_) (fun h => ?_)
  · rw [mfindM, if_pos h] at hsb
    refine splitD (fun h1 => ?_) (fun h1 => splitD (fun h2 => ?_) (fun h2 => ?_))
    · rw [if_pos (.inl h1)] at hsb
      obtain ⟨rfl, rfl⟩ := Prod.mk.inj hsb
      exact eqbI (splitNE (fun h => absurd rfl h) (fun _ => T))
    · rw [if_pos (.inr h2)] at hsb
      obtain ⟨rfl, rfl⟩ := Prod.mk.inj hsb
      exact eqbI (splitNE (fun h => absurd rfl h) (fun _ => T))
    · rw [if_neg (by omega)] at hsb
      refine ⟨cs2, ex2, ⟨hk2⟩, ?_⟩
      rintro s' b' ⟨hsb'⟩
      rw [rfindM] at hsb'
      cases hf : findM id ex2 with
      | none =>
        rw [hf] at hsb hsb'
        obtain ⟨rfl, rfl⟩ := Prod.mk.inj hsb
        obtain ⟨rfl, rfl⟩ := Prod.mk.inj hsb'
        exact splitI (fun h => by cases h) (fun _ => eqbI (splitNE (fun h => absurd rfl h) (fun _ => T)))
      | some d =>
        rw [hf] at hsb hsb'
        obtain ⟨rfl, rfl⟩ := Prod.mk.inj hsb
        obtain ⟨rfl, rfl⟩ := Prod.mk.inj hsb'
        exact splitI (fun _ => eqbI (splitNE (fun h => absurd rfl h) (fun _ => T))) (fun h => by cases h)
  · rw [mfindM, if_neg (by rw [h]; simp)] at hsb
    obtain ⟨rfl, rfl⟩ := Prod.mk.inj hsb
    exact eqbI (splitNE (fun h => absurd rfl h) (fun _ => T))
theorem fst_ok : fst5 mk ty seq ti ss cs ex pad pl raw id ty2 seq2 ti2 ss2 cs2 ex2 pad2 Q := by
  have T := sec_ok hk hR hpl hraw hq hk2 (mk := mk) (id := id) (ty2 := ty2) (seq2 := seq2) (ti2 := ti2) (ss2 := ss2) (pad2 := pad2)
  unfold sec5 at T
  unfold fst5
  refine ⟨cs, ex, ⟨hk⟩, ?_⟩
  rintro s b ⟨hsb⟩
  refine ⟨cs, ex, ⟨hk⟩, ?_⟩
  rintro r ⟨hr⟩
  rw [← hr] at hsb
  refine splitI (fun h => ?_) (fun h => ?_)
  · rw [mfindM, if_pos h] at hsb
    refine splitD (fun h1 => ?_) (fun h1 => splitD (fun h2 => ?_) (fun h2 => ?_))
    · rw [if_pos (.inl h1)] at hsb
      obtain ⟨rfl, rfl⟩ := Prod.mk.inj hsb
      exact eqbI (splitNE (fun h => absurd rfl h) (fun _ => T))
    · rw [if_pos (.inr h2)] at hsb
      obtain ⟨rfl, rfl⟩ := Prod.mk.inj hsb
      exact eqbI (splitNE (fun h => absurd rfl h) (fun _ => T))
    · rw [if_neg (by omega)] at hsb
      refine ⟨cs, ex, ⟨hk⟩, ?_⟩
      rintro s' b' ⟨hsb'⟩
      rw [rfindM] at hsb'
      cases hf : findM id ex with
      | none =>
        rw [hf] at hsb hsb'
        obtain ⟨rfl, rfl⟩ := Prod.mk.inj hsb
        obtain ⟨rfl, rfl⟩ := Prod.mk.inj hsb'
        exact splitI (fun h => by cases h) (fun _ => eqbI (splitNE (fun h => absurd rfl h) (fun _ => T)))
      | some d =>
        rw [hf] at hsb hsb'
        obtain ⟨rfl, rfl⟩ := Prod.mk.inj hsb
        obtain ⟨rfl, rfl⟩ := Prod.mk.inj hsb'
        exact splitI (fun _ => eqbI (splitNE (fun h => absurd rfl h) (fun _ => T))) (fun h => by cases h)
  · rw [hr, hR] at h
    cases h
end
theorem eqMed {mk : Bool} {ty seq ti ss : Int} {cs : List Int} {ex : List Xt} {pad : Int} {pl : List UInt8} {A : Prop} (h : A) : bif (eqAVL [.bool mk, .int .i64 ty, .int .i64 seq, .int .i64 ti, .int .i64 ss, .lst 0 (cellsI cs) cs.length 1, .lst 0 (cellsXM ex) ex.length 2, .int .i64 pad, .str pl] [.bool mk, .int .i64 ty, .int .i64 seq, .int .i64 ti, .int .i64 ss, .lst 0 (cellsI cs) cs.length 1, .lst 0 (cellsXM ex) ex.length 2, .int .i64 pad, .str pl] && true) then A else False := by
  have : eqAVL [.bool mk, .int .i64 ty, .int .i64 seq, .int .i64 ti, .int .i64 ss, .lst 0 (cellsI cs) cs.length 1, .lst 0 (cellsXM ex) ex.length 2, .int .i64 pad, .str pl] [.bool mk, .int .i64 ty, .int .i64 seq, .int .i64 ti, .int .i64 ss, .lst 0 (cellsI cs) cs.length 1, .lst 0 (cellsXM ex) ex.length 2, .int .i64 pad, .str pl] = true := by simp [eqAVL, eqAV, eqB_self, eqL_I, eqL_X]
  rw [this]
  exact h
theorem finds_run (mk : Bool) (ty seq ti ss : Int) (tc : Nat) (ks : List Int) (tx : Nat) (ps : List Xt) (pad : Int) (pl : List UInt8) (what bat bn id at' : Int) (raw : List UInt8) (hdk : draftK (cells32M ks) ks.length (cellsPcM ps) ps.length ks ps) (hty : 0 ≤ ty ∧ ty ≤ 255) (hseq : 0 ≤ seq ∧ seq ≤ 65535) (hti : 0 ≤ ti ∧ ti ≤ 4294967295) (hss : 0 ≤ ss ∧ ss ≤ 4294967295) (hpad : 0 ≤ pad ∧ pad ≤ 255) (hbat : 0 ≤ bat ∧ bat ≤ 255) (hat : 0 ≤ at' ∧ at' ≤ 255) (hraw : raw.length ≤ 9223372036854775807) (Q : Out → List Blk → Gh → Prop) (hq : Q (.ret (.bool true)) [] {}) : ∃ hv hb, goal_5 hv hb mk ty seq ti ss tc ks tx ps pad pl what bat bn id at' raw Q := by
  obtain ⟨hv, hb', e⟩ : ∃ hv hb, goal_5 hv hb mk ty seq ti ss tc ks tx ps pad pl what bat bn id at' raw Q = _ := ⟨_, _, vc_5 mk ty seq ti ss tc ks tx ps pad pl what bat bn id at' raw Q⟩
  refine ⟨hv, hb', e.mpr ?_⟩
  clear e
  have hk32 := hdk.2.2.2.2.2.2.1
  refine ⟨ks, ps, ⟨hdk, hty, hseq, hti, hss, hpad⟩, ?_⟩
  rintro ty' cs ex p' ⟨e1, e2, e3, e4⟩
  obtain ⟨d1, d2⟩ := draft_right (mk := mk) (ps := ps) (pl := pl) hk32 hty hseq hti hss hpad
  have hdt := pcs_data (ps.take 4) 0
  rw [← e1, ← e2, ← e3] at d1
  rw [← e3] at hdt
  have hc3 : cs.length ≤ 3 := by rw [e2, List.length_take]; omega
  have hx4 : ex.length ≤ 4 := by rw [e3, pcs_len, List.length_take]; omega
  have hp60 : p'.length ≤ 60 := by rw [e4, List.length_take]; omega
  clear d2 e1 e2 e3 e4
  have hk : medK (cellsI cs) cs.length (cellsXM ex) ex.length cs ex := ⟨rfl, rfl, rfl, rfl, by omega, by omega, fun x hx => by have := hdt x hx; omega⟩
  have hl : (cellsI cs = cellsI cs ∧ cs.length = cs.length ∧ cellsXM ex = cellsXM ex ∧ ex.length = ex.length ∧ (0 ≤ bat ∧ bat ≤ 255) ∧ cs.length ≤ 1000 ∧ ex.length ≤ 1000 ∧ (∀ x ∈ ex, x.2.length ≤ 300) ∧ p'.length ≤ 1300) := ⟨rfl, rfl, rfl, rfl, hbat, by omega, by omega, fun x hx => by have := hdt x hx; omega, by omega⟩
  have F : ∀ (id : Int) (ty2 seq2 ti2 ss2 : Int) (cs2 : List Int) (ex2 : List Xt) (pad2 : Int) (pl2 : List UInt8), Lf (cs2.length ≤ cs.length + 1 ∧ ex2.length ≤ ex.length + 1 ∧ (∀ x ∈ ex2, x.2.length ≤ 300) ∧ pl2.length ≤ 1300) → fst5 mk ty' seq ti ss cs ex pad p' raw id ty2 seq2 ti2 ss2 cs2 ex2 pad2 Q := fun id ty2 seq2 ti2 ss2 cs2 ex2 pad2 pl2 ⟨h1, h2, h3, _⟩ =>
    fst_ok hk d1 (by omega) hraw hq ⟨rfl, rfl, rfl, rfl, by omega, by omega, fun x hx => by have := h3 x hx; omega⟩
  unfold fst5 at F
  refine ⟨_, rfl, splitD (fun hn => ⟨_, rfl, splitE (fun he => ?_) (fun he => ?_)⟩) (fun hn => ?_)⟩
  · have hu : IntKind.wrap .u8 (Int.tdiv at' 2) = at' / 2 := by
      rw [Int.tdiv_eq_ediv_of_nonneg hat.1, IntKind.wrap_u8]
      omega
    have htm : Int.tmod (at' / 2) (ex.length : Int) = (((at' / 2).toNat % ex.length : Nat) : Int) := by
      obtain ⟨m, hm⟩ : ∃ m : Nat, at' / 2 = m := ⟨(at' / 2).toNat, by omega⟩
      rw [hm]
      rfl
    have hkx : (at' / 2).toNat % ex.length < ex.length := Nat.mod_lt _ (by omega)
    generalize (at' / 2).toNat % ex.length = k at htm hkx
    refine ⟨at' / 2, by rw [hu], wrapI (by omega) (by omega) (ckI (by rw [Bool.and_true, bne_iff_ne]; omega) ⟨(k : Int), by rw [htm], ixI hkx (ckI (by rw [cellsX_len]; simp; omega) (getXi hkx (by simp) ⟨cs, ex, ⟨hl⟩, fun _ ty2 seq2 ti2 ss2 cs2 ex2 pad2 pl2 h => eqMed (F _ ty2 seq2 ti2 ss2 cs2 ex2 pad2 pl2 h)⟩))⟩)⟩
  · exact ⟨cs, ex, ⟨hl⟩, fun _ ty2 seq2 ti2 ss2 cs2 ex2 pad2 pl2 h => eqMed (F _ ty2 seq2 ti2 ss2 cs2 ex2 pad2 pl2 h)⟩
  · exact ⟨cs, ex, ⟨hl⟩, fun _ ty2 seq2 ti2 ss2 cs2 ex2 pad2 pl2 h => eqMed (F _ ty2 seq2 ti2 ss2 cs2 ex2 pad2 pl2 h)⟩
end Go.Proofs.YtbchmkhliehbfaaDoor

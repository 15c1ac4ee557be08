/-
  Chapter 17: RecordBack.
-/
import Derived.Test.YtiholnebhmjbjaaM17K
set_option linter.unusedSimpArgs false
set_option linter.unusedVariables false
set_option linter.unusedSectionVars false
namespace Go.Proofs.Ytiholnebhmjbjaa
open Go.RowKit
set_option maxRecDepth 1000000

abbrev X5 := List Rc × Nat
def inv_5a (s : S) : List (List LInv) := match s.tm.get 5 with
  | .lst _ cs n _ => [[
    { α := X5, pre := fun x => Lf (cs = cellsRM x.1 ∧ n = x.1.length ∧ x.1.length ≤ 6 ∧ x.1.all rightRM = true ∧ x.2 ≤ x.1.length),
      st := fun x => ⟨mkT [(5, s.tm.get 5), (8, s.tm.get 8), (11, .int .i64 ((catM (x.1.take x.2)).length : Nat)), (45, s.tm.get 45), (46, s.tm.get 46), (47, .int .i64 (x.2 : Nat))], []⟩, mu := fun x => 7 - x.2 }]]
  | _ => []
def inv_5b (s : S) : List (List LInv) := match s.tm.get 5, s.tm.get 7 with
  | .lst _ cs n _, .str t => [[
    { α := X5, pre := fun x => Lf (cs = cellsRM x.1 ∧ n = x.1.length ∧ x.1.length ≤ 6 ∧ x.1.all rightRM = true ∧ x.2 ≤ x.1.length ∧ t = catM x.1 ∧ t.length ≤ 1200),
      st := fun x => ⟨mkT [(5, s.tm.get 5), (7, s.tm.get 7), (18, .int .i64 ((catM (x.1.take x.2)).length : Nat)), (114, s.tm.get 114), (115, s.tm.get 115), (116, .int .i64 (x.2 : Nat))], []⟩, mu := fun x => 7 - x.2 }]]
  | _, _ => []
def smK5 : SM := lookS [(10, cTrue), (11, cPieces), (13, cEnc), (16, cDec), (18, cSame)]
theorem smK5_ok : ∀ f g, smK5 f = some g → ValidF Try.prog gl0 f g := lookS_ok _ (by simp only [List.mem_cons, List.not_mem_nil, or_false, forall_eq_or_imp, forall_eq]; exact ⟨wakes_ok, pieces_ok, enc_ok, dec_ok, same_ok⟩)
noncomputable def env_5 (hv : Nat → Option Pa) (hb : Nat → Option Bool) : Env := e04 smK5 (fun i => bif Nat.beq i 5000 then some inv_5a else bif Nat.beq i 5002 then some inv_5b else none) hv hb
noncomputable def goal_5 (hv : Nat → Option Pa) (hb : Nat → Option Bool) (ps qs : List Pc) (Q : Out → List Blk → Gh → Prop) : Prop :=
  callx (env_5 hv hb) (wpx (env_5 hv hb) 1000) 5 [.lst 0 (cellsPM ps) ps.length 5, .lst 0 (cellsPM qs) qs.length 5] [] {} Q
def part5a (rs_1 : List Rc) (e_6 : Int) (Q : Out → List Blk → Gh → Prop) : Prop :=
(∃ n_10 : Int, (((AV.int .i64 (Nat.cast (List.length rs_1) : Int)) = (AV.int .i64 n_10)) ∧
 ((∃ x_11 : (Prod (List Rc) Nat), ((Lf (((cellsRM rs_1) = (cellsRM (Prod.fst x_11))) ∧
 (((List.length rs_1) = (List.length (Prod.fst x_11))) ∧
 (((List.length (Prod.fst x_11)) ≤ (6 : Nat)) ∧
 (((List.all (Prod.fst x_11) rightRM) = true) ∧
 ((Prod.snd x_11) ≤ (List.length (Prod.fst x_11)))))))) ∧
 (((AV.int .i64 (0 : Int)) = (AV.int .i64 (Nat.cast (Prod.snd x_11) : Int))) ∧
 (((AV.int .i64 (0 : Int)) = (AV.int .i64 (Nat.cast (List.length (catM (List.take (Prod.snd x_11) (Prod.fst x_11)))) : Int))) ∧
 (((AV.lst (0 : Nat) (cellsRM rs_1) (List.length rs_1) (4 : Nat)) = (AV.lst (0 : Nat) (cellsRM rs_1) (List.length rs_1) (4 : Nat))) ∧
 (((AV.lst (0 : Nat) (cellsRM rs_1) (List.length rs_1) (4 : Nat)) = (AV.lst (0 : Nat) (cellsRM rs_1) (List.length rs_1) (4 : Nat))) ∧
 (((AV.int .i64 e_6) = (AV.int .i64 e_6)) ∧
 (((AV.int .i64 n_10) = (AV.int .i64 n_10)) ∧
 True)))))))) ∧
 (∀ x_11 : (Prod (List Rc) Nat), ((Lf (((cellsRM rs_1) = (cellsRM (Prod.fst x_11))) ∧
 (((List.length rs_1) = (List.length (Prod.fst x_11))) ∧
 (((List.length (Prod.fst x_11)) ≤ (6 : Nat)) ∧
 (((List.all (Prod.fst x_11) rightRM) = true) ∧
 ((Prod.snd x_11) ≤ (List.length (Prod.fst x_11)))))))) →
(bif (decide ((Nat.cast (Prod.snd x_11) : Int) < n_10)) then (bif ((Nat.blt (Int.toNat (Nat.cast (Prod.snd x_11) : Int)) (List.length rs_1)) && true) then (bif (Nat.ble (((Int.toNat (Nat.cast (Prod.snd x_11) : Int)) * (4 : Nat)) + (4 : Nat)) (List.length (cellsRM rs_1))) then (∃ n_12 : Int, (∃ n_13 : Int, (∃ n_14 : Int, (∃ s_15 : (List UInt8), (((AV.agg (List.take (4 : Nat) (List.drop ((Int.toNat (Nat.cast (Prod.snd x_11) : Int)) * (4 : Nat)) (cellsRM rs_1)))) = (AV.agg ((AV.int .i64 n_12) :: ((AV.int .i64 n_13) :: ((AV.int .i64 n_14) :: ((AV.str s_15) :: [])))))) ∧
 (∃ n_16 : Int, (((AV.int .i64 (Nat.cast (List.length (catM (List.take (Prod.snd x_11) (Prod.fst x_11)))) : Int)) = (AV.int .i64 n_16)) ∧
 (∃ n_17 : Int, (((AV.int .i64 (Nat.cast (List.length s_15) : Int)) = (AV.int .i64 n_17)) ∧
 (∃ n_18 : Int, (((AV.int .i64 (IntKind.wrap .i64 ((11 : Int) + n_17))) = (AV.int .i64 n_18)) ∧
 (∃ n_19 : Int, (((AV.int .i64 (IntKind.wrap .i64 (n_16 + n_18))) = (AV.int .i64 n_19)) ∧
 (∃ n_20 : Int, (((AV.int .i64 (IntKind.wrap .i64 ((Nat.cast (Prod.snd x_11) : Int) + (1 : Int)))) = (AV.int .i64 n_20)) ∧
 ((True ∧
 ((0 : Nat) = (0 : Nat))) ∧
 (∃ y_21 : (Prod (List Rc) Nat), ((Lf (((cellsRM rs_1) = (cellsRM (Prod.fst y_21))) ∧
 (((List.length rs_1) = (List.length (Prod.fst y_21))) ∧
 (((List.length (Prod.fst y_21)) ≤ (6 : Nat)) ∧
 (((List.all (Prod.fst y_21) rightRM) = true) ∧
 ((Prod.snd y_21) ≤ (List.length (Prod.fst y_21)))))))) ∧
 ((((7 : Nat) - (Prod.snd y_21)) < ((7 : Nat) - (Prod.snd x_11))) ∧
 (((AV.int .i64 n_20) = (AV.int .i64 (Nat.cast (Prod.snd y_21) : Int))) ∧
 (((AV.int .i64 n_19) = (AV.int .i64 (Nat.cast (List.length (catM (List.take (Prod.snd y_21) (Prod.fst y_21)))) : Int))) ∧
 (((AV.lst (0 : Nat) (cellsRM rs_1) (List.length rs_1) (4 : Nat)) = (AV.lst (0 : Nat) (cellsRM rs_1) (List.length rs_1) (4 : Nat))) ∧
 (((AV.lst (0 : Nat) (cellsRM rs_1) (List.length rs_1) (4 : Nat)) = (AV.lst (0 : Nat) (cellsRM rs_1) (List.length rs_1) (4 : Nat))) ∧
 (((AV.int .i64 e_6) = (AV.int .i64 e_6)) ∧
 (((AV.int .i64 n_10) = (AV.int .i64 n_10)) ∧
 True)))))))))))))))))))))))))
else False)
else False)
else (bif (e_6 == (0 : Int)) then (Q (Out.ret (AV.bool true)) [] (Gh.mk (0 : Nat) (0 : Nat) []))
else (∃ n_12 : Int, (((AV.int .i64 (Nat.cast (List.length rs_1) : Int)) = (AV.int .i64 n_12)) ∧
 (bif (n_12 == (0 : Int)) then (bif (e_6 == (2 : Int)) then (Q (Out.ret (AV.bool true)) [] (Gh.mk (0 : Nat) (0 : Nat) []))
else (∃ n_13 : Int, (((AV.int .i64 (Nat.cast (List.length (catM (List.take (Prod.snd x_11) (Prod.fst x_11)))) : Int)) = (AV.int .i64 n_13)) ∧
 (bif (decide (n_13 > (1200 : Int))) then (bif (e_6 == (3 : Int)) then (Q (Out.ret (AV.bool true)) [] (Gh.mk (0 : Nat) (0 : Nat) []))
else (Q (Out.ret (AV.bool false)) [] (Gh.mk (0 : Nat) (0 : Nat) [])))
else (Q (Out.ret (AV.bool false)) [] (Gh.mk (0 : Nat) (0 : Nat) []))))))
else (∃ n_13 : Int, (((AV.int .i64 (Nat.cast (List.length (catM (List.take (Prod.snd x_11) (Prod.fst x_11)))) : Int)) = (AV.int .i64 n_13)) ∧
 (bif (decide (n_13 > (1200 : Int))) then (bif (e_6 == (3 : Int)) then (Q (Out.ret (AV.bool true)) [] (Gh.mk (0 : Nat) (0 : Nat) []))
else (Q (Out.ret (AV.bool false)) [] (Gh.mk (0 : Nat) (0 : Nat) [])))
else (Q (Out.ret (AV.bool false)) [] (Gh.mk (0 : Nat) (0 : Nat) [])))))))))))))))
def part5b (rs_1 : List Rc) (s_5 : List UInt8) (Q : Out → List Blk → Gh → Prop) : Prop :=
(∃ n_23 : Int, (((AV.int .i64 (Nat.cast (List.length rs_1) : Int)) = (AV.int .i64 n_23)) ∧
 ((∃ x_24 : (Prod (List Rc) Nat), ((Lf (((cellsRM rs_1) = (cellsRM (Prod.fst x_24))) ∧
 (((List.length rs_1) = (List.length (Prod.fst x_24))) ∧
 (((List.length (Prod.fst x_24)) ≤ (6 : Nat)) ∧
 (((List.all (Prod.fst x_24) rightRM) = true) ∧
 (((Prod.snd x_24) ≤ (List.length (Prod.fst x_24))) ∧
 ((s_5 = (catM (Prod.fst x_24))) ∧
 ((List.length s_5) ≤ (1200 : Nat))))))))) ∧
 (((AV.str s_5) = (AV.str s_5)) ∧
 (((AV.int .i64 n_23) = (AV.int .i64 n_23)) ∧
 (((AV.lst (0 : Nat) (cellsRM rs_1) (List.length rs_1) (4 : Nat)) = (AV.lst (0 : Nat) (cellsRM rs_1) (List.length rs_1) (4 : Nat))) ∧
 (((AV.int .i64 (0 : Int)) = (AV.int .i64 (Nat.cast (Prod.snd x_24) : Int))) ∧
 (((AV.int .i64 (0 : Int)) = (AV.int .i64 (Nat.cast (List.length (catM (List.take (Prod.snd x_24) (Prod.fst x_24)))) : Int))) ∧
 (((AV.lst (0 : Nat) (cellsRM rs_1) (List.length rs_1) (4 : Nat)) = (AV.lst (0 : Nat) (cellsRM rs_1) (List.length rs_1) (4 : Nat))) ∧
 True)))))))) ∧
 (∀ x_24 : (Prod (List Rc) Nat), ((Lf (((cellsRM rs_1) = (cellsRM (Prod.fst x_24))) ∧
 (((List.length rs_1) = (List.length (Prod.fst x_24))) ∧
 (((List.length (Prod.fst x_24)) ≤ (6 : Nat)) ∧
 (((List.all (Prod.fst x_24) rightRM) = true) ∧
 (((Prod.snd x_24) ≤ (List.length (Prod.fst x_24))) ∧
 ((s_5 = (catM (Prod.fst x_24))) ∧
 ((List.length s_5) ≤ (1200 : Nat))))))))) →
(bif (decide ((Nat.cast (Prod.snd x_24) : Int) < n_23)) then (∃ n_25 : Int, (((AV.int .i64 (Nat.cast (Prod.snd x_24) : Int)) = (AV.int .i64 n_25)) ∧
 (bif ((Nat.blt (Int.toNat (Nat.cast (Prod.snd x_24) : Int)) (List.length rs_1)) && true) then (bif (Nat.ble (((Int.toNat (Nat.cast (Prod.snd x_24) : Int)) * (4 : Nat)) + (4 : Nat)) (List.length (cellsRM rs_1))) then (∃ n_26 : Int, (∃ n_27 : Int, (∃ n_28 : Int, (∃ s_29 : (List UInt8), (((AV.agg (List.take (4 : Nat) (List.drop ((Int.toNat (Nat.cast (Prod.snd x_24) : Int)) * (4 : Nat)) (cellsRM rs_1)))) = (AV.agg ((AV.int .i64 n_26) :: ((AV.int .i64 n_27) :: ((AV.int .i64 n_28) :: ((AV.str s_29) :: [])))))) ∧
 (∃ n_30 : Int, (((AV.int .i64 (Nat.cast (List.length (catM (List.take (Prod.snd x_24) (Prod.fst x_24)))) : Int)) = (AV.int .i64 n_30)) ∧
 (∃ n_31 : Int, (((AV.int .i64 (IntKind.wrap .i64 (n_30 + (5 : Int)))) = (AV.int .i64 n_31)) ∧
 (bif (((decide ((0 : Int) ≤ n_31)) && true) && (Nat.ble (Int.toNat n_31) (List.length s_5))) then (∃ s_32 : (List UInt8), (((AV.str (List.take ((Int.toNat n_31) - (0 : Nat)) (List.drop (0 : Nat) s_5))) = (AV.str s_32)) ∧
 ((Lf ((List.length s_32) ≤ (9223372036854775807 : Nat))) ∧
 (∀ l_33 : (List Rc), (∀ e_34 : Int, ((Lf ((decM s_32) = (Prod.mk l_33 e_34))) →
(∃ n_35 : Int, (((AV.int .i64 (Nat.cast (List.length l_33) : Int)) = (AV.int .i64 n_35)) ∧
 (bif (decide (n_35 > (0 : Int))) then (Q (Out.ret (AV.bool false)) [] (Gh.mk (0 : Nat) (0 : Nat) []))
else (bif (e_34 != (7 : Int)) then (Q (Out.ret (AV.bool false)) [] (Gh.mk (0 : Nat) (0 : Nat) []))
else (∃ n_36 : Int, (((AV.int .i64 (Nat.cast (List.length (catM (List.take (Prod.snd x_24) (Prod.fst x_24)))) : Int)) = (AV.int .i64 n_36)) ∧
 (∃ n_37 : Int, (((AV.int .i64 (Nat.cast (List.length s_29) : Int)) = (AV.int .i64 n_37)) ∧
 (∃ n_38 : Int, (((AV.int .i64 (IntKind.wrap .i64 ((11 : Int) + n_37))) = (AV.int .i64 n_38)) ∧
 (∃ n_39 : Int, (((AV.int .i64 (IntKind.wrap .i64 (n_36 + n_38))) = (AV.int .i64 n_39)) ∧
 (bif (((decide ((0 : Int) ≤ n_39)) && true) && (Nat.ble (Int.toNat n_39) (List.length s_5))) then (∃ s_40 : (List UInt8), (((AV.str (List.take ((Int.toNat n_39) - (0 : Nat)) (List.drop (0 : Nat) s_5))) = (AV.str s_40)) ∧
 ((Lf ((List.length s_40) ≤ (9223372036854775807 : Nat))) ∧
 (∀ l_41 : (List Rc), (∀ e_42 : Int, ((Lf ((decM s_40) = (Prod.mk l_41 e_42))) →
(bif (e_42 != (0 : Int)) then (Q (Out.ret (AV.bool false)) [] (Gh.mk (0 : Nat) (0 : Nat) []))
else (∃ n_43 : Int, (((AV.int .i64 (IntKind.wrap .i64 (n_25 + (1 : Int)))) = (AV.int .i64 n_43)) ∧
 (bif ((((decide ((0 : Int) ≤ n_43)) && true) && (Nat.ble (Int.toNat n_43) (List.length rs_1))) && true) then (∃ l_44 : (List Rc), (∃ k_45 : (List Rc), ((Lf ((((cellsRM l_41) = (cellsRM l_44)) ∧
 ((List.length l_41) = (List.length l_44))) ∧
 ((((List.take (((Int.toNat n_43) - (0 : Nat)) * (4 : Nat)) (List.drop (0 : Nat) (cellsRM rs_1))) = (cellsRM k_45)) ∧
 (((Int.toNat n_43) - (0 : Nat)) = (List.length k_45))) ∧
 ((List.length l_44) ≤ (1000000 : Nat))))) ∧
 (∀ b_46 : Bool, ((Lf (b_46 = (sameRM l_44 k_45))) →
(bif b_46 then (∃ n_47 : Int, (((AV.int .i64 (IntKind.wrap .i64 ((Nat.cast (Prod.snd x_24) : Int) + (1 : Int)))) = (AV.int .i64 n_47)) ∧
 ((True ∧
 ((0 : Nat) = (0 : Nat))) ∧
 (∃ y_48 : (Prod (List Rc) Nat), ((Lf (((cellsRM rs_1) = (cellsRM (Prod.fst y_48))) ∧
 (((List.length rs_1) = (List.length (Prod.fst y_48))) ∧
 (((List.length (Prod.fst y_48)) ≤ (6 : Nat)) ∧
 (((List.all (Prod.fst y_48) rightRM) = true) ∧
 (((Prod.snd y_48) ≤ (List.length (Prod.fst y_48))) ∧
 ((s_5 = (catM (Prod.fst y_48))) ∧
 ((List.length s_5) ≤ (1200 : Nat))))))))) ∧
 ((((7 : Nat) - (Prod.snd y_48)) < ((7 : Nat) - (Prod.snd x_24))) ∧
 (((AV.str s_5) = (AV.str s_5)) ∧
 (((AV.int .i64 n_23) = (AV.int .i64 n_23)) ∧
 (((AV.lst (0 : Nat) (cellsRM rs_1) (List.length rs_1) (4 : Nat)) = (AV.lst (0 : Nat) (cellsRM rs_1) (List.length rs_1) (4 : Nat))) ∧
 (((AV.int .i64 n_47) = (AV.int .i64 (Nat.cast (Prod.snd y_48) : Int))) ∧
 (((AV.int .i64 n_39) = (AV.int .i64 (Nat.cast (List.length (catM (List.take (Prod.snd y_48) (Prod.fst y_48)))) : Int))) ∧
 (((AV.lst (0 : Nat) (cellsRM rs_1) (List.length rs_1) (4 : Nat)) = (AV.lst (0 : Nat) (cellsRM rs_1) (List.length rs_1) (4 : Nat))) ∧
 True))))))))))))
else (Q (Out.ret (AV.bool false)) [] (Gh.mk (0 : Nat) (0 : Nat) []))))))))
else False))))))))))
else False)))))))))))))))))))
else False))))))))))
else False)
else False)))
else (∃ n_25 : Int, (((AV.int .i64 (Nat.cast (List.length (catM (List.take (Prod.snd x_24) (Prod.fst x_24)))) : Int)) = (AV.int .i64 n_25)) ∧
 (∃ n_26 : Int, (((AV.int .i64 (Nat.cast (List.length s_5) : Int)) = (AV.int .i64 n_26)) ∧
 (bif (n_25 == n_26) then (Q (Out.ret (AV.bool true)) [] (Gh.mk (0 : Nat) (0 : Nat) []))
else (Q (Out.ret (AV.bool false)) [] (Gh.mk (0 : Nat) (0 : Nat) [])))))))))))))
theorem vc_5 (ps : List Pc) (qs : List Pc) (Q : Out → List Blk → Gh → Prop) : goal_5 (lookV [(20526, .int .i64), (20530, .agg [.int .i64, .int .i64, .int .i64, .str]), (20531, .int .i64), (20534, .int .i64), (20535, .int .i64), (20536, .int .i64), (20537, .int .i64), (20542, .int .i64), (20550, .int .i64), (20595, .int .i64), (20598, .int .i64), (20600, .agg [.int .i64, .int .i64, .int .i64, .str]), (20603, .int .i64), (20604, .int .i64), (20605, .str), (20610, .int .i64), (20616, .int .i64), (20619, .int .i64), (20620, .int .i64), (20621, .int .i64), (20625, .str), (20635, .int .i64), (20640, .int .i64), (20641, .int .i64), (20643, .int .i64)]) (lookB []) ps qs Q = (
(∃ ps_0 : (List Pc), ((Lf (((cellsPM ps) = (cellsPM ps_0)) ∧
 (((List.length ps) = (List.length ps_0)) ∧
 (∀ p_1 : Pc, ((Membership.mem ps_0 p_1) →
(pcOk p_1)))))) ∧
 (∀ rs_1 : (List Rc), ((Lf (((List.length rs_1) = (Min.min (List.length ps_0) (6 : Nat))) ∧
 ((List.all rs_1 rightRM) = true))) →
(∃ ps_2 : (List Pc), ((Lf (((cellsPM qs) = (cellsPM ps_2)) ∧
 (((List.length qs) = (List.length ps_2)) ∧
 (∀ p_3 : Pc, ((Membership.mem ps_2 p_3) →
(pcOk p_3)))))) ∧
 (∀ rs_3 : (List Rc), ((Lf (((List.length rs_3) = (Min.min (List.length ps_2) (6 : Nat))) ∧
 ((List.all rs_3 rightRM) = true))) →
(∃ l_4 : (List Rc), ((Lf (((cellsRM rs_1) = (cellsRM l_4)) ∧
 (((List.length rs_1) = (List.length l_4)) ∧
 ((List.length l_4) ≤ (100 : Nat))))) ∧
 (∀ s_5 : (List UInt8), (∀ e_6 : Int, ((Lf ((encM l_4) = (Prod.mk s_5 e_6))) →
(∃ l_7 : (List Rc), ((Lf (((cellsRM rs_3) = (cellsRM l_7)) ∧
 (((List.length rs_3) = (List.length l_7)) ∧
 ((List.length l_7) ≤ (100 : Nat))))) ∧
 (∀ s_8 : (List UInt8), (∀ e_9 : Int, ((Lf ((encM l_7) = (Prod.mk s_8 e_9))) →
(bif (e_6 != (0 : Int)) then (part5a rs_1 e_6 Q)
else (bif (e_9 != (0 : Int)) then (part5a rs_1 e_6 Q)
else ((Lf ((List.length s_5) ≤ (9223372036854775807 : Nat))) ∧
 (∀ l_10 : (List Rc), (∀ e_11 : Int, ((Lf ((decM s_5) = (Prod.mk l_10 e_11))) →
((Lf ((List.length s_8) ≤ (9223372036854775807 : Nat))) ∧
 (∀ l_12 : (List Rc), (∀ e_13 : Int, ((Lf ((decM s_8) = (Prod.mk l_12 e_13))) →
(bif (e_11 != (0 : Int)) then (Q (Out.ret (AV.bool false)) [] (Gh.mk (0 : Nat) (0 : Nat) []))
else (bif (e_13 != (0 : Int)) then (Q (Out.ret (AV.bool false)) [] (Gh.mk (0 : Nat) (0 : Nat) []))
else (∃ l_14 : (List Rc), (∃ k_15 : (List Rc), ((Lf ((((cellsRM l_10) = (cellsRM l_14)) ∧
 ((List.length l_10) = (List.length l_14))) ∧
 ((((cellsRM rs_1) = (cellsRM k_15)) ∧
 ((List.length rs_1) = (List.length k_15))) ∧
 ((List.length l_14) ≤ (1000000 : Nat))))) ∧
 (∀ b_16 : Bool, ((Lf (b_16 = (sameRM l_14 k_15))) →
(bif b_16 then (∃ l_17 : (List Rc), (∃ k_18 : (List Rc), ((Lf ((((cellsRM l_12) = (cellsRM l_17)) ∧
 ((List.length l_12) = (List.length l_17))) ∧
 ((((cellsRM rs_3) = (cellsRM k_18)) ∧
 ((List.length rs_3) = (List.length k_18))) ∧
 ((List.length l_17) ≤ (1000000 : Nat))))) ∧
 (∀ b_19 : Bool, ((Lf (b_19 = (sameRM l_17 k_18))) →
(bif b_19 then (bif (eqB s_5 s_8) then (∃ l_20 : (List Rc), (∃ k_21 : (List Rc), ((Lf ((((cellsRM rs_1) = (cellsRM l_20)) ∧
 ((List.length rs_1) = (List.length l_20))) ∧
 ((((cellsRM rs_3) = (cellsRM k_21)) ∧
 ((List.length rs_3) = (List.length k_21))) ∧
 ((List.length l_20) ≤ (1000000 : Nat))))) ∧
 (∀ b_22 : Bool, ((Lf (b_22 = (sameRM l_20 k_21))) →
(bif b_22 then (part5b rs_1 s_5 Q)
else (Q (Out.ret (AV.bool false)) [] (Gh.mk (0 : Nat) (0 : Nat) []))))))))
else (∃ l_20 : (List Rc), (∃ k_21 : (List Rc), ((Lf ((((cellsRM rs_1) = (cellsRM l_20)) ∧
 ((List.length rs_1) = (List.length l_20))) ∧
 ((((cellsRM rs_3) = (cellsRM k_21)) ∧
 ((List.length rs_3) = (List.length k_21))) ∧
 ((List.length l_20) ≤ (1000000 : Nat))))) ∧
 (∀ b_22 : Bool, ((Lf (b_22 = (sameRM l_20 k_21))) →
(bif b_22 then (Q (Out.ret (AV.bool false)) [] (Gh.mk (0 : Nat) (0 : Nat) []))
else (part5b rs_1 s_5 Q))))))))
else (Q (Out.ret (AV.bool false)) [] (Gh.mk (0 : Nat) (0 : Nat) []))))))))
else (Q (Out.ret (AV.bool false)) [] (Gh.mk (0 : Nat) (0 : Nat) []))))))))))))))))))))))))))))))))))))))) := by kernel_rfl

/-! ## what was encoded is read -/
theorem nat_cons (c : UInt8) (s : List UInt8) : natM (c :: s) = c.toNat * 256 ^ s.length + natM s := by
  have key : ∀ (s : List UInt8) (x : Nat), s.foldl (fun x c => x * 256 + c.toNat) x = x * 256 ^ s.length + natM s := by
    intro s
    induction s with
    | nil => intro x; simp [natM]
    | cons d s ih =>
      intro x
      have e : natM (d :: s) = d.toNat * 256 ^ s.length + natM s := by
        show s.foldl _ (0 * 256 + d.toNat) = _
        rw [ih, Nat.zero_mul, Nat.zero_add]
      rw [List.foldl_cons, ih, e, List.length_cons, Nat.pow_succ, Nat.add_mul, Nat.add_assoc, Nat.mul_assoc, Nat.mul_comm 256]
  show s.foldl _ (0 * 256 + c.toNat) = _
  rw [key, Nat.zero_mul, Nat.zero_add]
theorem nat_be : ∀ n v, natM (beBM n v) = v % 256 ^ n
  | 0, v => by simp [beBM, natM, Nat.mod_one]
  | n + 1, v => by
    have e1 : (UInt8.ofNat (v / 256 ^ n % 256)).toNat = v / 256 ^ n % 256 := by
      rw [UInt8.toNat_ofNat']
      exact Nat.mod_eq_of_lt (show _ < 256 from Nat.mod_lt _ (by decide))
    rw [beBM, nat_cons, nat_be n v, be_len, e1, show v % 256 ^ (n + 1) = v % 256 ^ n + 256 ^ n * (v / 256 ^ n % 256) from Nat.mod_pow_succ, Nat.add_comm, Nat.mul_comm]
theorem be_be {n : Nat} {v : Int} (h0 : 0 ≤ v) (h1 : v.toNat < 256 ^ n) : beM (beBM n v.toNat) = v := by
  rw [beM, nat_be, Nat.mod_eq_of_lt h1]
  omega
theorem rec_read {r : Rc} (h : rightRM r = true) (t : List UInt8) : headEM (recM r ++ t) = 0 ∧ firstRM (recM r ++ t) = r ∧ restRM (recM r ++ t) = t := by
  obtain ⟨a, b, c, s⟩ := r
  obtain ⟨h1, h2, h3, h4⟩ := (rightM_iff a b c s).1 h
  obtain ⟨B1, hB1⟩ : ∃ x, x = beBM 1 a.toNat := ⟨_, rfl⟩
  obtain ⟨B2, hB2⟩ : ∃ x, x = beBM 2 b.toNat := ⟨_, rfl⟩
  obtain ⟨B6, hB6⟩ : ∃ x, x = beBM 6 c.toNat := ⟨_, rfl⟩
  obtain ⟨BN, hBN⟩ : ∃ x, x = beBM 2 (Int.toNat (s.length : Int)) := ⟨_, rfl⟩
  have hu : recM (a, b, c, s) ++ t = B1 ++ (B2 ++ (B6 ++ (BN ++ (s ++ t)))) := by
    rw [hB1, hB2, hB6, hBN, recM, headM]
    simp only [List.append_assoc]
  have l1 : B1.length = 1 := by rw [hB1, be_len]
  have l2 : B2.length = 2 := by rw [hB2, be_len]
  have l6 : B6.length = 6 := by rw [hB6, be_len]
  have lN : BN.length = 2 := by rw [hBN, be_len]
  have v1 : beM B1 = a := by rw [hB1]; exact be_be h1.1 (by show _ < 256; omega)
  have v2 : beM B2 = b := by rw [hB2]; exact be_be h2.1 (by show _ < 65536; omega)
  have v6 : beM B6 = c := by rw [hB6]; exact be_be h3.1 (by show _ < 281474976710656; omega)
  have vN : beM BN = s.length := by rw [hBN]; exact be_be (by omega) (by show _ < 65536; omega)
  rw [hu]
  clear hu hB1 hB2 hB6 hBN
  obtain ⟨u, hu⟩ : ∃ u, u = B1 ++ (B2 ++ (B6 ++ (BN ++ (s ++ t)))) := ⟨_, rfl⟩
  have hul : u.length = 11 + s.length + t.length := by rw [hu]; simp only [List.length_append, l1, l2, l6, lN]; omega
  have t1 : u.take 1 = B1 := by rw [hu]; exact List.take_left' l1
  have d1 : u.drop 1 = B2 ++ (B6 ++ (BN ++ (s ++ t))) := by rw [hu]; exact List.drop_left' l1
  have d3 : u.drop (1 + 2) = B6 ++ (BN ++ (s ++ t)) := by rw [← List.drop_drop, d1]; exact List.drop_left' l2
  have d9 : u.drop (1 + 2 + 6) = BN ++ (s ++ t) := by rw [← List.drop_drop, d3]; exact List.drop_left' l6
  have d11 : u.drop (1 + 2 + 6 + 2) = s ++ t := by rw [← List.drop_drop, d9]; exact List.drop_left' lN
  rw [← hu]
  have hs : sizeRM u = s.length := by
    show beM ((u.drop (1 + 2 + 6)).take 2) = _
    rw [d9, List.take_left' lN, vN]
  refine ⟨?_, ?_, ?_⟩
  · rw [headEM, if_neg (by omega), if_neg (by omega), if_neg (by omega)]
  · show (beM (u.take 1), beM ((u.drop 1).take 2), beM ((u.drop (1 + 2)).take 6), (u.drop (1 + 2 + 6 + 2)).take (sizeRM u).toNat) = _
    rw [t1, d1, d3, d11, List.take_left' l2, List.take_left' l6, v1, v2, v6, hs, Int.toNat_natCast, List.take_left' rfl]
  · show u.drop (1 + 2 + 6 + 2 + (sizeRM u).toNat) = t
    rw [← List.drop_drop, d11, hs, Int.toNat_natCast]
    exact List.drop_left' rfl
theorem cellsR_inj : ∀ {l k : List Rc}, cellsRM l = cellsRM k → l = k
  | [], [], _ => rfl
  | [], r :: k, h => by simp [cellsRM, rcM] at h
  | r :: l, [], h => by simp [cellsRM, rcM] at h
  | (a, b, c, s) :: l, (a', b', c', s') :: k, h => by
    simp only [cellsRM, rcM, List.cons_append, List.nil_append, List.cons.injEq, AV.int.injEq, AV.str.injEq, true_and] at h
    obtain ⟨rfl, rfl, rfl, rfl, h⟩ := h
    rw [cellsR_inj h]
theorem cat_cons (r : Rc) (l : List Rc) : catM (r :: l) = recM r ++ catM l := rfl
theorem cat_app (a b : List Rc) : catM (a ++ b) = catM a ++ catM b := List.flatMap_append
theorem cont_cat : ∀ (l k : List Rc) (t : List UInt8), l.all rightRM = true → contM k (catM l ++ t) = contM (k ++ l) t
  | [], k, t, _ => by rw [List.append_nil]; rfl
  | r :: l, k, t, h => by
    rw [List.all_cons, Bool.and_eq_true] at h
    obtain ⟨h1, h2, h3⟩ := rec_read h.1 (catM l ++ t)
    have hne : recM r ++ (catM l ++ t) ≠ [] := fun h => by
      have := rec_len r
      have h4 := congrArg List.length h
      rw [List.length_append, List.length_nil] at h4
      omega
    rw [cat_cons, List.append_assoc, cont_step hne h1, h2, h3, cont_cat l _ t h.2, List.append_assoc]
    rfl
theorem dec_cat {l : List Rc} (hn : l ≠ []) (h : l.all rightRM = true) (hl : (catM l).length ≤ 1200) : decM (catM l) = (l, 0) := by
  have hne : catM l ≠ [] := by
    cases l with
    | nil => exact absurd rfl hn
    | cons r l =>
      intro h
      have h4 := congrArg List.length h
      rw [cat_cons, List.length_append, rec_len, List.length_nil] at h4
      omega
  have := cont_cat l [] [] h
  rw [List.append_nil] at this
  rw [dec_cont (by omega) hne, this, cont_end]
  rfl
theorem dec_short {l : List Rc} {t : List UInt8} (h : l.all rightRM = true) (ht : 0 < t.length) (ht2 : t.length < 11) (hl : (catM l ++ t).length ≤ 1200) : decM (catM l ++ t) = ([], 7) := by
  have hne : catM l ++ t ≠ [] := by
    intro h
    have h4 := congrArg List.length h
    rw [List.length_append, List.length_nil] at h4
    omega
  have e7 : headEM t = 7 := by rw [headEM, if_pos ht2]
  rw [dec_cont (by omega) hne, cont_cat l [] t h, cont_err (by rintro rfl; simp at ht) (by rw [e7]; omega), e7]
theorem enc_ok0 {l : List Rc} {s : List UInt8} (h : encM l = (s, 0)) : l ≠ [] ∧ s = catM l ∧ (catM l).length ≤ 1200 := by
  unfold encM at h
  split at h
  · simp at h
  · rename_i hn
    split at h
    · split at h
      · simp at h
      · rw [Prod.mk.injEq] at h
        exact ⟨hn, h.1.symm, by omega⟩
    · simp at h
/-! ## the run -/
theorem part5a_ok {rs : List Rc} {u : List UInt8} {e : Int} (h6 : rs.length ≤ 6) (hall : rs.all rightRM = true) (he : encM rs = (u, e)) (Q : Out → List Blk → Gh → Prop) (hq : Q (.ret (.bool true)) [] {}) : part5a rs e Q := by
  unfold part5a
  have hcl := cellsR_len rs
  refine ⟨_, rfl, ⟨(rs, 0), ⟨rfl, rfl, h6, hall, by simp⟩, rfl, rfl, rfl, rfl, rfl, rfl, trivial⟩, ?_⟩
  rintro ⟨l, i⟩ ⟨g1, g2, g3, g4, g5⟩
  dsimp only at g1 g2 g3 g4 g5 ⊢
  obtain rfl := cellsR_inj g1
  clear g1 g2 g3 g4
  have hcb := cat_le (l := rs.take i) (by rw [List.all_eq_true] at hall ⊢; exact fun x hx => hall x (List.mem_of_mem_take hx))
  rw [List.length_take] at hcb
  refine splitD (fun h1 => ?_) (fun h1 => ?_)
  · have hi : i < rs.length := by omega
    obtain ⟨⟨a, b, c, t⟩, hR⟩ : ∃ r, rs[i] = r := ⟨_, rfl⟩
    have hr : rightRM (a, b, c, t) = true := by rw [← hR]; exact List.all_eq_true.1 hall _ (List.getElem_mem hi)
    have h4 := ((rightM_iff a b c t).1 hr).2.2.2
    have hcat := congrArg List.length (cat_snoc hi)
    rw [hR, List.length_append, rec_len] at hcat
    dsimp only at hcat
    exact ckI (by simp; omega) (ckI (by rw [hcl]; simp; omega) (getR hi hR (by simp) ⟨_, rfl, _, rfl, wrapI (by omega) (by omega) (wrapI (by omega) (by omega) (wrapI (by omega) (by omega) ⟨⟨trivial, rfl⟩, (rs, i + 1), ⟨rfl, rfl, h6, hall, by dsimp only; omega⟩, by dsimp only; omega, rfl, by dsimp only; rw [hcat]; rfl, rfl, rfl, rfl, rfl, trivial⟩))⟩))
  · have hi : rs.take i = rs := List.take_of_length_le (by omega)
    rw [hi]
    unfold encM at he
    rw [hall] at he
    refine splitE (fun _ => hq) (fun h2 => ⟨_, rfl, splitE (fun h3 => ?_) (fun h3 => ⟨_, rfl, ?_⟩)⟩)
    · have : rs = [] := List.length_eq_zero_iff.1 (by omega)
      rw [if_pos this, Prod.mk.injEq] at he
      exact splitE (fun _ => hq) (fun h => absurd he.2.symm h)
    · have hn : rs ≠ [] := by rintro rfl; exact h3 rfl
      rw [if_neg hn, if_pos rfl] at he
      by_cases h5 : 1200 < (catM rs).length
      · rw [if_pos h5, Prod.mk.injEq] at he
        exact splitD (fun _ => splitE (fun _ => hq) (fun h => absurd he.2.symm h)) (fun h => absurd h (by omega))
      · rw [if_neg h5, Prod.mk.injEq] at he
        exact absurd he.2.symm h2
theorem part5b_ok {rs : List Rc} {u : List UInt8} (h6 : rs.length ≤ 6) (hall : rs.all rightRM = true) (hu : u = catM rs) (hul : u.length ≤ 1200) (Q : Out → List Blk → Gh → Prop) (hq : Q (.ret (.bool true)) [] {}) : part5b rs u Q := by
  unfold part5b
  have hcl := cellsR_len rs
  refine ⟨_, rfl, ⟨(rs, 0), ⟨rfl, rfl, h6, hall, by simp, hu, hul⟩, rfl, rfl, rfl, rfl, rfl, rfl, trivial⟩, ?_⟩
  rintro ⟨l, i⟩ ⟨g1, g2, g3, g4, g5, g6, g7⟩
  dsimp only at g1 g2 g3 g4 g5 ⊢
  obtain rfl := cellsR_inj g1
  clear g1 g2 g3 g4 g6 g7
  have hat : ∀ k, (rs.take k).all rightRM = true := fun k => by rw [List.all_eq_true] at hall ⊢; exact fun x hx => hall x (List.mem_of_mem_take hx)
  have hcb := cat_le (hat i)
  rw [List.length_take] at hcb
  refine splitD (fun h1 => ?_) (fun h1 => ?_)
  · have hi : i < rs.length := by omega
    obtain ⟨⟨a, b, c, t⟩, hR⟩ : ∃ r, rs[i] = r := ⟨_, rfl⟩
    have hr : rightRM (a, b, c, t) = true := by rw [← hR]; exact List.all_eq_true.1 hall _ (List.getElem_mem hi)
    have h4 := ((rightM_iff a b c t).1 hr).2.2.2
    have hcs := cat_snoc hi
    have hcat := congrArg List.length hcs
    rw [hR, List.length_append, rec_len] at hcat
    dsimp only at hcat
    have hsp : ∀ k, u = catM (rs.take k) ++ catM (rs.drop k) := fun k => by rw [hu, ← cat_app, List.take_append_drop]
    have hlen : ∀ k, (catM (rs.take k)).length + (catM (rs.drop k)).length = u.length := fun k => by rw [hsp k, List.length_append]
    have hl1 := hlen i
    have hl2 := hlen (i + 1)
    refine ⟨_, rfl, ckI (by simp; omega) (ckI (by rw [hcl]; simp; omega) (getR hi hR (by simp) ⟨_, rfl, wrapI (by omega) (by omega) (ckI (by simp; omega) ⟨_, rfl, ⟨by simp only [List.length_take, List.length_drop]; omega⟩, ?_⟩)⟩))⟩
    rintro l1 e1 ⟨hd1⟩
    have hx : List.take (Int.toNat (((catM (rs.take i)).length : Int) + 5) - 0) (List.drop 0 u) = catM (rs.take i) ++ (catM (rs.drop i)).take 5 := by
      rw [List.drop_zero, Nat.sub_zero, show Int.toNat (((catM (rs.take i)).length : Int) + 5) = (catM (rs.take i)).length + 5 by omega]
      conv => lhs; rw [hsp i]
      rw [List.take_append, List.take_of_length_le (by omega)]
      congr 2
      omega
    rw [hx, dec_short (hat i) (by rw [List.length_take]; omega) (by rw [List.length_take]; omega) (by rw [List.length_append, List.length_take]; omega), Prod.mk.injEq] at hd1
    obtain ⟨rfl, rfl⟩ := hd1
    refine ⟨_, rfl, splitD (fun h => absurd h (by simp)) (fun _ => splitNE (fun h => absurd rfl h) (fun _ => ⟨_, rfl, _, rfl, wrapI (by omega) (by omega) (wrapI (by omega) (by omega) (ckI (by simp; omega) ⟨_, rfl, ⟨by simp only [List.length_take, List.length_drop]; omega⟩, ?_⟩))⟩))⟩
    rintro l2 e2 ⟨hd2⟩
    have hy : List.take (Int.toNat (((catM (rs.take i)).length : Int) + (11 + (t.length : Int))) - 0) (List.drop 0 u) = catM (rs.take (i + 1)) := by
      rw [List.drop_zero, Nat.sub_zero, show Int.toNat (((catM (rs.take i)).length : Int) + (11 + (t.length : Int))) = (catM (rs.take (i + 1))).length by omega]
      conv => lhs; rw [hsp (i + 1)]
      exact List.take_left' rfl
    rw [hy, dec_cat (fun h => by have := congrArg List.length h; rw [List.length_take, List.length_nil] at this; omega) (hat (i + 1)) (by omega), Prod.mk.injEq] at hd2
    obtain ⟨rfl, rfl⟩ := hd2
    refine splitNE (fun h => absurd rfl h) (fun _ => wrapI (by omega) (by omega) (ckI (by simp; omega) ⟨rs.take (i + 1), rs.take (i + 1), ⟨⟨rfl, rfl⟩, ⟨?_, ?_⟩, by rw [List.length_take]; omega⟩, ?_⟩))
    · rw [List.drop_zero, Nat.sub_zero, show Int.toNat ((i : Int) + 1) = i + 1 by omega, cellsR_take]
    · rw [List.length_take]; omega
    · rintro b ⟨rfl⟩
      rw [same_yes rfl]
      exact wrapI (by omega) (by omega) ⟨⟨trivial, rfl⟩, (rs, i + 1), ⟨rfl, rfl, h6, hall, by dsimp only; omega, hu, hul⟩, by dsimp only; omega, rfl, rfl, rfl, rfl, by dsimp only; congr 1; omega, rfl, trivial⟩
  · have hi : rs.take i = rs := List.take_of_length_le (by omega)
    rw [hi, ← hu]
    exact ⟨_, rfl, _, rfl, splitE (fun _ => hq) (fun h => absurd rfl h)⟩
theorem back_run (ps qs : List Pc) (hp : ∀ p ∈ ps, pcOk p) (hp2 : ∀ p ∈ qs, pcOk p) (Q : Out → List Blk → Gh → Prop) (hq : Q (.ret (.bool true)) [] {}) : ∃ hv hb, goal_5 hv hb ps qs Q := by
  obtain ⟨hv, hb', e⟩ : ∃ hv hb, goal_5 hv hb ps qs Q = _ := ⟨_, _, vc_5 ps qs Q⟩
  refine ⟨hv, hb', e.mpr ?_⟩
  clear e
  refine ⟨ps, ⟨rfl, rfl, hp⟩, ?_⟩
  rintro rs ⟨r1, r2⟩
  refine ⟨qs, ⟨rfl, rfl, hp2⟩, ?_⟩
  rintro ks ⟨k1, k2⟩
  refine ⟨rs, ⟨rfl, rfl, by omega⟩, ?_⟩
  rintro u e ⟨he⟩
  refine ⟨ks, ⟨rfl, rfl, by omega⟩, ?_⟩
  rintro v f ⟨hf⟩
  refine splitNE (fun _ => part5a_ok (by omega) r2 he Q hq) (fun h0 => splitNE (fun _ => part5a_ok (by omega) r2 he Q hq) (fun h1 => ?_))
  subst h0
  subst h1
  obtain ⟨n1, rfl, n3⟩ := enc_ok0 he
  obtain ⟨m1, rfl, m3⟩ := enc_ok0 hf
  have d1 := dec_cat n1 r2 n3
  have d2 := dec_cat m1 k2 m3
  refine ⟨⟨by omega⟩, ?_⟩
  rintro l e ⟨hd⟩
  rw [d1, Prod.mk.injEq] at hd
  obtain ⟨rfl, rfl⟩ := hd
  refine ⟨⟨by omega⟩, ?_⟩
  rintro l e ⟨hd⟩
  rw [d2, Prod.mk.injEq] at hd
  obtain ⟨rfl, rfl⟩ := hd
  refine splitNE (fun h => absurd rfl h) (fun _ => splitNE (fun h => absurd rfl h) (fun _ => ⟨rs, rs, ⟨⟨rfl, rfl⟩, ⟨rfl, rfl⟩, by omega⟩, ?_⟩))
  rintro b ⟨rfl⟩
  rw [same_yes rfl]
  refine ⟨ks, ks, ⟨⟨rfl, rfl⟩, ⟨rfl, rfl⟩, by omega⟩, ?_⟩
  rintro b ⟨rfl⟩
  rw [same_yes rfl]
  have fin := part5b_ok (by omega) r2 rfl n3 Q hq
  cases hs : eqB (catM rs) (catM ks) with
  | true =>
    refine ⟨rs, ks, ⟨⟨rfl, rfl⟩, ⟨rfl, rfl⟩, by omega⟩, ?_⟩
    rintro b ⟨rfl⟩
    rw [eqB_iff, beq_iff_eq] at hs
    rw [hs, d2, Prod.mk.injEq] at d1
    rw [same_yes d1.1.symm]
    exact fin
  | false =>
    refine ⟨rs, ks, ⟨⟨rfl, rfl⟩, ⟨rfl, rfl⟩, by omega⟩, ?_⟩
    rintro b ⟨rfl⟩
    rw [same_no (by rintro rfl; rw [eqB_refl] at hs; cases hs)]
    exact fin
end Go.Proofs.Ytiholnebhmjbjaa

/-
  Chapter 24: ControlParts.
-/
import Derived.Test.YtafchcmemeinlaaDoorC24PA
import Derived.Test.YtafchcmemeinlaaDoorC24YE
import Derived.Test.YtafchcmemeinlaaDoorC24QR
set_option linter.unusedSimpArgs false
set_option linter.unusedVariables false
set_option linter.unusedSectionVars false
namespace Go.Proofs.YtafchcmemeinlaaDoor
open Go.RowKit
set_option maxRecDepth 1000000

def sm10 : SM := lookS [(12, cComp), (17, cTrue), (24, cEncV), (27, cStart), (28, cCode), (33, cDemux), (34, cContV)]
theorem sm10_ok : ∀ f g, sm10 f = some g → ValidF Tryd.prog glC f g := lookS_ok _ (by simp only [List.mem_cons, List.not_mem_nil, or_false, forall_eq_or_imp, forall_eq]; exact ⟨comp_ok, works_ok, enc_ok, start_ok, code_ok, demux_ok, cont_ok⟩)
abbrev X10 := List Ctl × Nat × List AV × List AV
def inv_10 (cut : Int) (s : S) : List (List LInv) := match s.hp with
 | [b0, ⟨k1, f1, e1⟩] => [[
  { α := List Ctl, pre := fun l => Lf (checkM l = true ∧ (encCM l).length ≤ 1200), st := fun l => ⟨mkT [(1, .int .u16 cut), (5, .lst 0 (cellsCM l) l.length 13), (6, .str (encCM l)), (8, .str []), (9, .sl 1 0 0 0 1), (40, .lst 0 (cellsCM l) l.length 13), (41, .int .i64 (l.length : Nat)), (42, .int .i64 0)], [b0, ⟨k1, f1, e1⟩]⟩, mu := fun l => l.length },
  { α := X10, pre := fun x => Lf (1 ≤ x.2.1 ∧ x.2.1 ≤ x.1.length ∧ checkM x.1 = true ∧ (encCM x.1).length ≤ 1200), st := fun x => ⟨mkT [(1, .int .u16 cut), (5, .lst 0 (cellsCM x.1) x.1.length 13), (6, .str (encCM x.1)), (8, .str (encCM (x.1.take x.2.1))), (9, .sl 4 x.2.1 0 x.2.1 1), (40, .lst 0 (cellsCM x.1) x.1.length 13), (41, .int .i64 (x.1.length : Nat)), (42, .int .i64 (x.2.1 : Nat))], [b0, ⟨k1, f1, e1⟩, ⟨.exact, true, x.2.2.1⟩, ⟨.exact, true, x.2.2.2⟩, ⟨.grow, true, cellsI (endsM x.1 x.2.1)⟩]⟩, mu := fun x => x.1.length - x.2.1 }]]
 | _ => []
noncomputable def env_10 (hv : Nat → Option Pa) (hb : Nat → Option Bool) (cut : Int) : Env := e24 sm10 (fun i => bif Nat.beq i 10000 then some (inv_10 cut) else none) hv hb
noncomputable def goal_10 (hv : Nat → Option Pa) (hb : Nat → Option Bool) (b : Bool) (t : Nat) (ps : List Pc) (cut : Int) (Q : Out → List Blk → Gh → Prop) : Prop :=
 callx (env_10 hv hb cut) (wpx (env_10 hv hb cut) 1000) 10 [.agg [.bool b, .lst t (cellsPcM ps) ps.length 10], .int .u16 cut] [] {} Q
theorem vc_10 (b : Bool) (t : Nat) (ps : List Pc) (cut : Int) (Q : Out → List Blk → Gh → Prop) : goal_10 (lookV [(40990, .int .i64), (40991, .int .i64), (41001, .int .i64), (41006, .agg [.int .i64, .int .i64, .int .i64, .int .i64, .int
 .i64, .int .i64, .int .i64, .int .i64, .lst 7, .lst 1, .int .i64, .int .i64, .lst 1]), (41019, .int .i64), (41036, .str), (41039, .int .i64), (41044, .int .i64), (41045, .str), (41046, .int .i64), (41047, .int .i64), (41048, .str), (41050,
 .str), (41052, .str), (41004, .int .i64), (41034, .str), (41042, .int .i64), (41031, .str), (41053, .str)]) (lookB []) b t ps cut Q = (∃ ps_0 : List Pc, Lf (cellsPcM ps = cellsPcM ps_0 ∧ ps.length = ps_0.length ∧ ∀ p_1 : Pc, Membership.mem
 ps_0 p_1 → okP p_1) ∧ ∀ l_1 : List Ctl, Lf (checkM l_1 = true ∧ (encCM l_1).length ≤ 1200) → ∃ l_2 : List Ctl, Lf (cellsCM l_1 = cellsCM l_2 ∧ l_1.length = l_2.length ∧ l_2.length ≤ 1000000 ∧ ∀ c_3 : Ctl, Membership.mem l_2 c_3 → okC c_3)
 ∧ ∀ s_3 : List UInt8, ∀ e_4 : Int, Lf (encRM l_2 = Prod.mk s_3 e_4) → bif e_4 != 0 then Q (.ret (.bool false)) [] {} else exI .i64 (s_3.length : Int) fun n_5 => exI .i64 (n_5.tmod 4) fun n_6 => bif n_6 != 0 then Q (.ret (.bool false)) []
 {} else Lf (s_3.length ≤ 9223372036854775807) ∧ ∀ r_7 : Int, Lf (r_7 = demuxM s_3) → bif r_7 != 5 then Q (.ret (.bool false)) [] {} else exI .i64 (l_1.length : Int) fun n_8 => ((∃ x_9 : List Ctl, Lf (checkM x_9 = true ∧ (encCM x_9).length
 ≤ 1200) ∧ eqqQ [AV.bool b, .lst t (cellsPcM ps) ps.length 10] ∧ ([] : List AV) = [] ∧ eqqQ (AV.int .u16 cut) ∧ AV.lst 0 (cellsCM l_1) l_1.length 13 = AV.lst 0 (cellsCM x_9) x_9.length 13 ∧ eqqQ (AV.sl 1 0 0 0 1) ∧ AV.int .i64 n_8 = AV.int
 .i64 (x_9.length : Int) ∧ eqqQ (AV.str []) ∧ AV.lst 0 (cellsCM l_1) l_1.length 13 = AV.lst 0 (cellsCM x_9) x_9.length 13 ∧ AV.str s_3 = AV.str (encCM x_9) ∧ eqqQ (AV.int .i64 0) ∧ True) ∨ ∃ x_9 : List Ctl × Nat × List AV × List AV, Lf (1 ≤
 x_9.2.1 ∧ x_9.2.1 ≤ x_9.1.length ∧ checkM x_9.1 = true ∧ (encCM x_9.1).length ≤ 1200) ∧ eqqQ [AV.bool b, .lst t (cellsPcM ps) ps.length 10] ∧ ([] : List AV) = [] ∧ False) ∧ (∀ x_9 : List Ctl, Lf (checkM x_9 = true ∧ (encCM x_9).length ≤
 1200) → bif decide (0 < (x_9.length : Int)) then exI .i64 0 fun n_10 => ckQ (Nat.blt 0 x_9.length && true) (ckQ (Nat.ble 13 (cellsCM x_9).length) (∃ n_11 n_12 n_13 n_14 n_15 n_16 n_17 n_18, ∃ t_19 : Nat, ∃ cs_20 : List AV, ∃ len_21 t_22 :
 Nat, ∃ cs_23 : List AV, ∃ len_24 : Nat, ∃ n_25 n_26, ∃ t_27 : Nat, ∃ cs_28 : List AV, ∃ len_29 : Nat, AV.agg (((cellsCM x_9).drop 0).take 13) = AV.agg [.int .i64 n_11, .int .i64 n_12, .int .i64 n_13, .int .i64 n_14, .int .i64 n_15, .int
 .i64 n_16, .int .i64 n_17, .int .i64 n_18, .lst t_19 cs_20 len_21 7, .lst t_22 cs_23 len_24 1, .int .i64 n_25, .int .i64 n_26, .lst t_27 cs_28 len_29 1] ∧ ckQ (eqAVL [.int .i64 n_11, .int .i64 n_12, .int .i64 n_13, .int .i64 n_14, .int
 .i64 n_15, .int .i64 n_16, .int .i64 n_17, .int .i64 n_18, .lst t_19 cs_20 len_21 7, .lst t_22 cs_23 len_24 1, .int .i64 n_25, .int .i64 n_26, .lst t_27 cs_28 len_29 1] [.int .i64 n_11, .int .i64 n_12, .int .i64 n_13, .int .i64 n_14, .int
 .i64 n_15, .int .i64 n_16, .int .i64 n_17, .int .i64 n_18, .lst t_19 cs_20 len_21 7, .lst t_22 cs_23 len_24 1, .int .i64 n_25, .int .i64 n_26, .lst t_27 cs_28 len_29 1] && true) (∃ l_30 : List Ctl, Lf ([AV.int .i64 2, .int .i64 1, .int
 .i64 0, .int .i64 0, .int .i64 0, .int .i64 0, .int .i64 0, .int .i64 0, .lst 0 (cellsRM []) 0 7, .lst 0 [] 0 1, .int .i64 0, .int .i64 0, .lst 0 [] 0 1, .int .i64 n_11, .int .i64 n_12, .int .i64 n_13, .int .i64 n_14, .int .i64 n_15, .int
 .i64 n_16, .int .i64 n_17, .int .i64 n_18, .lst t_19 cs_20 len_21 7, .lst t_22 cs_23 len_24 1, .int .i64 n_25, .int .i64 n_26, .lst t_27 cs_28 len_29 1] = cellsCM l_30 ∧ 2 = l_30.length ∧ l_30.length ≤ 1000000 ∧ ∀ c_31 : Ctl,
 Membership.mem l_30 c_31 → okC c_31) ∧ ∀ s_31 : List UInt8, ∀ e_32 : Int, Lf (encRM l_30 = Prod.mk s_31 e_32) → bif e_32 != 0 then Q (.ret (.bool false)) [] {} else exI .i64 (s_31.length : Int) fun n_33 => bif decide (n_33 < 12) then Q
 (.ret (.bool false)) [] {} else bif n_10 == 0 then ckQ (Nat.ble 1 x_9.length && true) (∃ l_34 : List Ctl, Lf (((cellsCM x_9).drop 0).take 13 = cellsCM l_34 ∧ 1 = l_34.length ∧ l_34.length ≤ 1000000 ∧ ∀ c_35 : Ctl, Membership.mem l_34 c_35
 → okC c_35) ∧ ∀ s_35 : List UInt8, ∀ e_36 : Int, Lf (encRM l_34 = Prod.mk s_35 e_36) → bif e_36 != 0 then Q (.ret (.bool false)) [] {} else exS (.str []) fun s_37 => ckQ (decide (s_37.length + s_35.length ≤ 9223372036854775807) && true)
 (exS (.str (s_37 ++ s_35)) fun s_38 => exI .i64 (s_38.length : Int) fun n_39 => exI .i64 1 fun n_40 => (True ∧ (0 : Nat) = (0 : Nat)) ∧ ((∃ y_41 : List Ctl, Lf (checkM y_41 = true ∧ (encCM y_41).length ≤ 1200) ∧ y_41.length < x_9.length ∧
 eqqQ [AV.bool b, .lst t (cellsPcM ps) ps.length 10] ∧ ([] : List AV) = [] ∧ False) ∨ ∃ y_41 : List Ctl × Nat × List AV × List AV, Lf (1 ≤ y_41.2.1 ∧ y_41.2.1 ≤ y_41.1.length ∧ checkM y_41.1 = true ∧ (encCM y_41.1).length ≤ 1200) ∧
 y_41.1.length - y_41.2.1 < x_9.length ∧ eqqQ [AV.bool b, .lst t (cellsPcM ps) ps.length 10] ∧ ([] : List AV) = [] ∧ [AV.int .i64 n_11, .int .i64 n_12, .int .i64 n_13, .int .i64 n_14, .int .i64 n_15, .int .i64 n_16, .int .i64 n_17, .int
 .i64 n_18, .lst t_19 cs_20 len_21 7, .lst t_22 cs_23 len_24 1, .int .i64 n_25, .int .i64 n_26, .lst t_27 cs_28 len_29 1] = y_41.2.2.1 ∧ [AV.int .i64 2, .int .i64 1, .int .i64 0, .int .i64 0, .int .i64 0, .int .i64 0, .int .i64 0, .int .i64
 0, .lst 0 (cellsRM []) 0 7, .lst 0 [] 0 1, .int .i64 0, .int .i64 0, .lst 0 [] 0 1, .int .i64 n_11, .int .i64 n_12, .int .i64 n_13, .int .i64 n_14, .int .i64 n_15, .int .i64 n_16, .int .i64 n_17, .int .i64 n_18, .lst t_19 cs_20 len_21 7,
 .lst t_22 cs_23 len_24 1, .int .i64 n_25, .int .i64 n_26, .lst t_27 cs_28 len_29 1] = y_41.2.2.2 ∧ [AV.int .i64 n_39] = cellsI (endsM y_41.1 y_41.2.1) ∧ eqqQ (AV.int .u16 cut) ∧ AV.lst 0 (cellsCM x_9) x_9.length 13 = AV.lst 0 (cellsCM
 y_41.1) y_41.1.length 13 ∧ AV.sl 4 1 0 1 1 = AV.sl 4 y_41.2.1 0 y_41.2.1 1 ∧ AV.int .i64 (x_9.length : Int) = AV.int .i64 (y_41.1.length : Int) ∧ AV.str s_38 = AV.str (encCM (y_41.1.take y_41.2.1)) ∧ AV.lst 0 (cellsCM x_9) x_9.length 13 =
 AV.lst 0 (cellsCM y_41.1) y_41.1.length 13 ∧ AV.str (encCM x_9) = AV.str (encCM y_41.1) ∧ AV.int .i64 n_40 = AV.int .i64 (y_41.2.1 : Int) ∧ True))) else ckQ (Nat.ble 8 s_31.length && Nat.ble s_31.length s_31.length) (exS (.str ((s_31.drop
 8).take (s_31.length - 8))) fun s_34 => bif e_32 != 0 then Q (.ret (.bool false)) [] {} else exS (.str []) fun s_35 => ckQ (decide (s_35.length + s_34.length ≤ 9223372036854775807) && true) (exS (.str (s_35 ++ s_34)) fun s_36 => exI .i64
 (s_36.length : Int) fun n_37 => exI .i64 1 fun n_38 => (True ∧ (0 : Nat) = (0 : Nat)) ∧ ((∃ y_39 : List Ctl, Lf (checkM y_39 = true ∧ (encCM y_39).length ≤ 1200) ∧ y_39.length < x_9.length ∧ eqqQ [AV.bool b, .lst t (cellsPcM ps) ps.length
 10] ∧ ([] : List AV) = [] ∧ False) ∨ ∃ y_39 : List Ctl × Nat × List AV × List AV, Lf (1 ≤ y_39.2.1 ∧ y_39.2.1 ≤ y_39.1.length ∧ checkM y_39.1 = true ∧ (encCM y_39.1).length ≤ 1200) ∧ y_39.1.length - y_39.2.1 < x_9.length ∧ eqqQ [AV.bool b,
 .lst t (cellsPcM ps) ps.length 10] ∧ ([] : List AV) = [] ∧ [AV.int .i64 n_11, .int .i64 n_12, .int .i64 n_13, .int .i64 n_14, .int .i64 n_15, .int .i64 n_16, .int .i64 n_17, .int .i64 n_18, .lst t_19 cs_20 len_21 7, .lst t_22 cs_23 len_24
 1, .int .i64 n_25, .int .i64 n_26, .lst t_27 cs_28 len_29 1] = y_39.2.2.1 ∧ [AV.int .i64 2, .int .i64 1, .int .i64 0, .int .i64 0, .int .i64 0, .int .i64 0, .int .i64 0, .int .i64 0, .lst 0 (cellsRM []) 0 7, .lst 0 [] 0 1, .int .i64 0,
 .int .i64 0, .lst 0 [] 0 1, .int .i64 n_11, .int .i64 n_12, .int .i64 n_13, .int .i64 n_14, .int .i64 n_15, .int .i64 n_16, .int .i64 n_17, .int .i64 n_18, .lst t_19 cs_20 len_21 7, .lst t_22 cs_23 len_24 1, .int .i64 n_25, .int .i64 n_26,
 .lst t_27 cs_28 len_29 1] = y_39.2.2.2 ∧ [AV.int .i64 n_37] = cellsI (endsM y_39.1 y_39.2.1) ∧ eqqQ (AV.int .u16 cut) ∧ AV.lst 0 (cellsCM x_9) x_9.length 13 = AV.lst 0 (cellsCM y_39.1) y_39.1.length 13 ∧ AV.sl 4 1 0 1 1 = AV.sl 4 y_39.2.1
 0 y_39.2.1 1 ∧ AV.int .i64 (x_9.length : Int) = AV.int .i64 (y_39.1.length : Int) ∧ AV.str s_36 = AV.str (encCM (y_39.1.take y_39.2.1)) ∧ AV.lst 0 (cellsCM x_9) x_9.length 13 = AV.lst 0 (cellsCM y_39.1) y_39.1.length 13 ∧ AV.str (encCM
 x_9) = AV.str (encCM y_39.1) ∧ AV.int .i64 n_38 = AV.int .i64 (y_39.2.1 : Int) ∧ True)))))) else exW .i64 cut fun n_10 => exS (.str (encCM x_9)) fun s_11 => exI .i64 (s_11.length : Int) fun n_12 => ckQ (n_12 != 0 && true) (exI .i64
 (n_10.tmod n_12) fun n_13 => exS (.str (encCM x_9)) fun s_14 => ckQ (decide (0 ≤ n_13) && true && Nat.ble n_13.toNat s_14.length) (exS (.str ((s_14.drop 0).take (n_13.toNat - 0))) fun s_15 => exS (.str (encCM x_9)) fun s_16 => exS (.str
 []) fun s_17 => bif eqB s_16 s_17 then bif (decRM s_15).2 == 0 then ∃ xs_18 : List Int, Lf (([] : List AV) = cellsI xs_18 ∧ 0 = xs_18.length ∧ xs_18.length ≤ 1000000) ∧ bif memM n_13 xs_18 then bif (decRM s_15).2 == 0 then Q (.ret (.bool
 true)) [] {} else bif (decRM s_15).2 == 7 then Q (.ret (.bool true)) [] {} else Q (.ret (.bool false)) [] {} else Q (.ret (.bool false)) [] {} else ∃ xs_18 : List Int, Lf (([] : List AV) = cellsI xs_18 ∧ 0 = xs_18.length ∧ xs_18.length ≤
 1000000) ∧ bif memM n_13 xs_18 then Q (.ret (.bool false)) [] {} else bif (decRM s_15).2 == 0 then Q (.ret (.bool true)) [] {} else bif (decRM s_15).2 == 7 then Q (.ret (.bool true)) [] {} else Q (.ret (.bool false)) [] {} else Q (.ret
 (.bool false)) [] {}))) ∧ ∀ x_9 : List Ctl × Nat × List AV × List AV, Lf (1 ≤ x_9.2.1 ∧ x_9.2.1 ≤ x_9.1.length ∧ checkM x_9.1 = true ∧ (encCM x_9.1).length ≤ 1200) → bif decide ((x_9.2.1 : Int) < (x_9.1.length : Int)) then exI .i64
 (x_9.2.1 : Int) fun n_10 => ckQ (Nat.blt (x_9.2.1 : Int).toNat x_9.1.length && true) (ckQ (Nat.ble ((x_9.2.1 : Int).toNat * 13 + 13) (cellsCM x_9.1).length) (∃ n_11 n_12 n_13 n_14 n_15 n_16 n_17 n_18, ∃ t_19 : Nat, ∃ cs_20 : List AV, ∃
 len_21 t_22 : Nat, ∃ cs_23 : List AV, ∃ len_24 : Nat, ∃ n_25 n_26, ∃ t_27 : Nat, ∃ cs_28 : List AV, ∃ len_29 : Nat, AV.agg (((cellsCM x_9.1).drop ((x_9.2.1 : Int).toNat * 13)).take 13) = AV.agg [.int .i64 n_11, .int .i64 n_12, .int .i64
 n_13, .int .i64 n_14, .int .i64 n_15, .int .i64 n_16, .int .i64 n_17, .int .i64 n_18, .lst t_19 cs_20 len_21 7, .lst t_22 cs_23 len_24 1, .int .i64 n_25, .int .i64 n_26, .lst t_27 cs_28 len_29 1] ∧ ckQ (eqAVL [.int .i64 n_11, .int .i64
 n_12, .int .i64 n_13, .int .i64 n_14, .int .i64 n_15, .int .i64 n_16, .int .i64 n_17, .int .i64 n_18, .lst t_19 cs_20 len_21 7, .lst t_22 cs_23 len_24 1, .int .i64 n_25, .int .i64 n_26, .lst t_27 cs_28 len_29 1] [.int .i64 n_11, .int .i64
 n_12, .int .i64 n_13, .int .i64 n_14, .int .i64 n_15, .int .i64 n_16, .int .i64 n_17, .int .i64 n_18, .lst t_19 cs_20 len_21 7, .lst t_22 cs_23 len_24 1, .int .i64 n_25, .int .i64 n_26, .lst t_27 cs_28 len_29 1] && true) (∃ l_30 : List
 Ctl, Lf ([AV.int .i64 2, .int .i64 1, .int .i64 0, .int .i64 0, .int .i64 0, .int .i64 0, .int .i64 0, .int .i64 0, .lst 0 (cellsRM []) 0 7, .lst 0 [] 0 1, .int .i64 0, .int .i64 0, .lst 0 [] 0 1, .int .i64 n_11, .int .i64 n_12, .int .i64
 n_13, .int .i64 n_14, .int .i64 n_15, .int .i64 n_16, .int .i64 n_17, .int .i64 n_18, .lst t_19 cs_20 len_21 7, .lst t_22 cs_23 len_24 1, .int .i64 n_25, .int .i64 n_26, .lst t_27 cs_28 len_29 1] = cellsCM l_30 ∧ 2 = l_30.length ∧
 l_30.length ≤ 1000000 ∧ ∀ c_31 : Ctl, Membership.mem l_30 c_31 → okC c_31) ∧ ∀ s_31 : List UInt8, ∀ e_32 : Int, Lf (encRM l_30 = Prod.mk s_31 e_32) → bif e_32 != 0 then Q (.ret (.bool false)) [] {} else exI .i64 (s_31.length : Int) fun
 n_33 => bif decide (n_33 < 12) then Q (.ret (.bool false)) [] {} else bif n_10 == 0 then ckQ (Nat.ble 1 x_9.1.length && true) (∃ l_34 : List Ctl, Lf (((cellsCM x_9.1).drop 0).take 13 = cellsCM l_34 ∧ 1 = l_34.length ∧ l_34.length ≤ 1000000
 ∧ ∀ c_35 : Ctl, Membership.mem l_34 c_35 → okC c_35) ∧ ∀ s_35 : List UInt8, ∀ e_36 : Int, Lf (encRM l_34 = Prod.mk s_35 e_36) → bif e_36 != 0 then Q (.ret (.bool false)) [] {} else exS (.str (encCM (x_9.1.take x_9.2.1))) fun s_37 => ckQ
 (decide (s_37.length + s_35.length ≤ 9223372036854775807) && true) (exS (.str (s_37 ++ s_35)) fun s_38 => exI .i64 (s_38.length : Int) fun n_39 => ckQ (Nat.beq (cellsI (endsM x_9.1 x_9.2.1)).length x_9.2.1 && true && Nat.beq (0 + x_9.2.1 *
 1) x_9.2.1 && Nat.ble (x_9.2.1 + 1) 1099511627776 && Nat.ble ((x_9.2.1 + 1) * 8) 1099511627776) (exW .i64 ((x_9.2.1 : Int) + 1) fun n_40 => (True ∧ (0 : Nat) = (0 : Nat)) ∧ ((∃ y_41 : List Ctl, Lf (checkM y_41 = true ∧ (encCM y_41).length
 ≤ 1200) ∧ y_41.length < x_9.1.length - x_9.2.1 ∧ eqqQ [AV.bool b, .lst t (cellsPcM ps) ps.length 10] ∧ ([] : List AV) = [] ∧ False) ∨ ∃ y_41 : List Ctl × Nat × List AV × List AV, Lf (1 ≤ y_41.2.1 ∧ y_41.2.1 ≤ y_41.1.length ∧ checkM y_41.1
 = true ∧ (encCM y_41.1).length ≤ 1200) ∧ y_41.1.length - y_41.2.1 < x_9.1.length - x_9.2.1 ∧ eqqQ [AV.bool b, .lst t (cellsPcM ps) ps.length 10] ∧ ([] : List AV) = [] ∧ x_9.2.2.1 = y_41.2.2.1 ∧ x_9.2.2.2 = y_41.2.2.2 ∧ cellsI (endsM x_9.1
 x_9.2.1) ++ [AV.int .i64 n_39] = cellsI (endsM y_41.1 y_41.2.1) ∧ eqqQ (AV.int .u16 cut) ∧ AV.lst 0 (cellsCM x_9.1) x_9.1.length 13 = AV.lst 0 (cellsCM y_41.1) y_41.1.length 13 ∧ AV.sl 4 (x_9.2.1 + 1) 0 (x_9.2.1 + 1) 1 = AV.sl 4 y_41.2.1 0
 y_41.2.1 1 ∧ AV.int .i64 (x_9.1.length : Int) = AV.int .i64 (y_41.1.length : Int) ∧ AV.str s_38 = AV.str (encCM (y_41.1.take y_41.2.1)) ∧ AV.lst 0 (cellsCM x_9.1) x_9.1.length 13 = AV.lst 0 (cellsCM y_41.1) y_41.1.length 13 ∧ AV.str (encCM
 x_9.1) = AV.str (encCM y_41.1) ∧ AV.int .i64 n_40 = AV.int .i64 (y_41.2.1 : Int) ∧ True)))) else ckQ (Nat.ble 8 s_31.length && Nat.ble s_31.length s_31.length) (exS (.str ((s_31.drop 8).take (s_31.length - 8))) fun s_34 => bif e_32 != 0
 then Q (.ret (.bool false)) [] {} else exS (.str (encCM (x_9.1.take x_9.2.1))) fun s_35 => ckQ (decide (s_35.length + s_34.length ≤ 9223372036854775807) && true) (exS (.str (s_35 ++ s_34)) fun s_36 => exI .i64 (s_36.length : Int) fun n_37
 => ckQ (Nat.beq (cellsI (endsM x_9.1 x_9.2.1)).length x_9.2.1 && true && Nat.beq (0 + x_9.2.1 * 1) x_9.2.1 && Nat.ble (x_9.2.1 + 1) 1099511627776 && Nat.ble ((x_9.2.1 + 1) * 8) 1099511627776) (exW .i64 ((x_9.2.1 : Int) + 1) fun n_38 =>
 (True ∧ (0 : Nat) = (0 : Nat)) ∧ ((∃ y_39 : List Ctl, Lf (checkM y_39 = true ∧ (encCM y_39).length ≤ 1200) ∧ y_39.length < x_9.1.length - x_9.2.1 ∧ eqqQ [AV.bool b, .lst t (cellsPcM ps) ps.length 10] ∧ ([] : List AV) = [] ∧ False) ∨ ∃ y_39
 : List Ctl × Nat × List AV × List AV, Lf (1 ≤ y_39.2.1 ∧ y_39.2.1 ≤ y_39.1.length ∧ checkM y_39.1 = true ∧ (encCM y_39.1).length ≤ 1200) ∧ y_39.1.length - y_39.2.1 < x_9.1.length - x_9.2.1 ∧ eqqQ [AV.bool b, .lst t (cellsPcM ps) ps.length
 10] ∧ ([] : List AV) = [] ∧ x_9.2.2.1 = y_39.2.2.1 ∧ x_9.2.2.2 = y_39.2.2.2 ∧ cellsI (endsM x_9.1 x_9.2.1) ++ [AV.int .i64 n_37] = cellsI (endsM y_39.1 y_39.2.1) ∧ eqqQ (AV.int .u16 cut) ∧ AV.lst 0 (cellsCM x_9.1) x_9.1.length 13 = AV.lst
 0 (cellsCM y_39.1) y_39.1.length 13 ∧ AV.sl 4 (x_9.2.1 + 1) 0 (x_9.2.1 + 1) 1 = AV.sl 4 y_39.2.1 0 y_39.2.1 1 ∧ AV.int .i64 (x_9.1.length : Int) = AV.int .i64 (y_39.1.length : Int) ∧ AV.str s_36 = AV.str (encCM (y_39.1.take y_39.2.1)) ∧
 AV.lst 0 (cellsCM x_9.1) x_9.1.length 13 = AV.lst 0 (cellsCM y_39.1) y_39.1.length 13 ∧ AV.str (encCM x_9.1) = AV.str (encCM y_39.1) ∧ AV.int .i64 n_38 = AV.int .i64 (y_39.2.1 : Int) ∧ True))))))) else exW .i64 cut fun n_10 => exS (.str
 (encCM x_9.1)) fun s_11 => exI .i64 (s_11.length : Int) fun n_12 => ckQ (n_12 != 0 && true) (exI .i64 (n_10.tmod n_12) fun n_13 => exS (.str (encCM x_9.1)) fun s_14 => ckQ (decide (0 ≤ n_13) && true && Nat.ble n_13.toNat s_14.length) (exS
 (.str ((s_14.drop 0).take (n_13.toNat - 0))) fun s_15 => exS (.str (encCM x_9.1)) fun s_16 => exS (.str (encCM (x_9.1.take x_9.2.1))) fun s_17 => bif eqB s_16 s_17 then bif (decRM s_15).2 == 0 then ckQ (Nat.beq (cellsI (endsM x_9.1
 x_9.2.1)).length x_9.2.1 && Nat.ble (0 + x_9.2.1 * 1) x_9.2.1 && true) (∃ xs_18 : List Int, Lf (List.map (fun (x_19 : AV) => frzV 1 [Blk.mk BK.exact true [.bool b, .lst t (cellsPcM ps) ps.length 10], Blk.mk BK.exact true [], Blk.mk
 BK.exact true x_9.2.2.1, Blk.mk BK.exact true x_9.2.2.2, Blk.mk BK.grow true (cellsI (endsM x_9.1 x_9.2.1))] 8 x_19) (((cellsI (endsM x_9.1 x_9.2.1)).drop 0).take (x_9.2.1 * 1)) = cellsI xs_18 ∧ x_9.2.1 = xs_18.length ∧ xs_18.length ≤
 1000000) ∧ bif memM n_13 xs_18 then bif (decRM s_15).2 == 0 then Q (.ret (.bool true)) [] {} else bif (decRM s_15).2 == 7 then Q (.ret (.bool true)) [] {} else Q (.ret (.bool false)) [] {} else Q (.ret (.bool false)) [] {}) else ckQ
 (Nat.beq (cellsI (endsM x_9.1 x_9.2.1)).length x_9.2.1 && Nat.ble (0 + x_9.2.1 * 1) x_9.2.1 && true) (∃ xs_18 : List Int, Lf (List.map (fun (x_19 : AV) => frzV 1 [Blk.mk BK.exact true [.bool b, .lst t (cellsPcM ps) ps.length 10], Blk.mk
 BK.exact true [], Blk.mk BK.exact true x_9.2.2.1, Blk.mk BK.exact true x_9.2.2.2, Blk.mk BK.grow true (cellsI (endsM x_9.1 x_9.2.1))] 8 x_19) (((cellsI (endsM x_9.1 x_9.2.1)).drop 0).take (x_9.2.1 * 1)) = cellsI xs_18 ∧ x_9.2.1 =
 xs_18.length ∧ xs_18.length ≤ 1000000) ∧ bif memM n_13 xs_18 then Q (.ret (.bool false)) [] {} else bif (decRM s_15).2 == 0 then Q (.ret (.bool true)) [] {} else bif (decRM s_15).2 == 7 then Q (.ret (.bool true)) [] {} else Q (.ret (.bool
 false)) [] {}) else Q (.ret (.bool false)) [] {}))) := by kernel_rfl

theorem enc_mod : ∀ l : List Ctl, (∀ c ∈ l, validM c = true) → (encCM l).length % 4 = 0
 | [], _ => rfl
 | c :: l, h => by
  have h1 := (one_len (h c (by simp))).2.2
  have h2 := enc_mod l fun d hd => h d (by simp [hd])
  rw [enc_cons, List.length_append]
  omega
theorem start_valid : validM startM = true := by decide
theorem start_enc : (oneM startM).length = 8 := by decide
theorem demux_enc {l : List Ctl} (h : checkM l = true) : demuxM (encCM l) = 5 := by
 have hc := (check_iff l).1 h
 cases l with
 | nil => simp at hc
 | cons c l =>
  have hv := hc.2.2 c (by simp)
  have hw := wire_bd hv
  have ho := oct_nat (128 + cntCM c) 0
  have hk := oct_nat (wireM c.k) 0
  rw [Int.pow_zero, Int.ediv_one] at ho hk
  have hw2 : 200 ≤ wireM c.k ∧ wireM c.k ≤ 206 := by
   unfold wireM
   repeat' split
   all_goals omega
  rw [enc_cons, oneM, one_eq]
  simp only [List.cons_append, demuxM]
  rw [if_neg (by omega), if_neg (by omega), if_neg (by omega), if_pos (by omega), if_pos (by omega)]
theorem enc_pair {c : Ctl} (h : validM c = true) : encRM [startM, c] = (oneM startM ++ oneM c, 0) := by
 have hc : checkM [startM, c] = true := (check_iff _).2 ⟨by simp, rfl, fun d hd => by
  rcases List.mem_cons.1 hd with rfl | hd
  ·exact start_valid
  ·rw [List.mem_singleton.1 hd]; exact h⟩
 have e : encCM [startM, c] = oneM startM ++ oneM c := by simp [encCM]
 have := (one_len h).2.1
 rw [encRM, if_pos hc, e, if_pos (by rw [List.length_append, start_enc]; omega)]
theorem enc_one {c : Ctl} (h : validM c = true) (hk : headOkM [c] = true) : encRM [c] = (oneM c, 0) := by
 have hc : checkM [c] = true := (check_iff _).2 ⟨by simp, hk, fun d hd => by rw [List.mem_singleton.1 hd]; exact h⟩
 have e : encCM [c] = oneM c := by simp [encCM]
 have := (one_len h).2.1
 rw [encRM, if_pos hc, e, if_pos (by omega)]
theorem pair_drop (c : Ctl) : List.take ((oneM startM ++ oneM c).length - 8) (List.drop 8 (oneM startM ++ oneM c)) = oneM c := by
 rw [List.drop_left' start_enc, List.length_append, start_enc]
 exact List.take_of_length_le (by omega)
theorem ends_snoc (l : List Ctl) (i : Nat) : endsM l (i + 1) = endsM l i ++ [(((encCM (l.take (i + 1))).length : Nat) : Int)] := by
 simp [endsM, List.range_succ]
theorem okC_pair {c : Ctl} (h : validM c = true) : ∀ d ∈ [startM, c], okC d := fun d hd => by
 rcases List.mem_cons.1 hd with rfl | hd
 ·exact valid_okC start_valid
 ·rw [List.mem_singleton.1 hd]; exact valid_okC h
theorem frzI_map (τ : Nat) (H : List Blk) (d : Nat) (l : List Int) : (cellsI l).map (fun x => frzV τ H (d + 1) x) = cellsI l := by
 induction l with
 | nil => rfl
 | cons r l ih => simp only [cellsI, List.map_cons] at ih ⊢; rw [ih]; rfl
theorem ends_len (l : List Ctl) (i : Nat) : (endsM l i).length = i := by simp [endsM]
theorem mod_cut {cut : Int} {N : Nat} (h : 0 ≤ cut ∧ cut ≤ 65535) (hN : 1 ≤ N) : ∃ n : Nat, Int.tmod cut (N : Int) = (n : Int) ∧ n < N := by
 refine ⟨(cut % (N : Int)).toNat, ?_, ?_⟩
 ·rw [Int.tmod_eq_emod_of_nonneg h.1, Int.toNat_of_nonneg (Int.emod_nonneg _ (by omega))]
 ·have := Int.emod_lt_of_pos cut (show (0 : Int) < (N : Int) by omega)
  omega
theorem parts_run (b : Bool) (t : Nat) (ps : List Pc) (cut : Int) (hps : ∀ p ∈ ps, okP p) (hcu : 0 ≤ cut ∧ cut ≤ 65535) (Q : Out → List Blk → Gh → Prop) (hq : ∀ H, Q (.ret (.bool true)) H {}) : ∃ hv hb, goal_10 hv hb b t ps cut Q := by
 obtain ⟨hv, hb', e⟩ : ∃ hv hb, goal_10 hv hb b t ps cut Q = _ := ⟨_, _, vc_10 b t ps cut Q⟩
 refine ⟨hv, hb', e.mpr ?_⟩
 clear e
 refine ⟨ps, ⟨rfl, rfl, hps⟩, ?_⟩
 rintro l ⟨hck, hlen⟩
 have hcl := check_okC hck
 have hva := ((check_iff l).1 hck).2.2
 have he : encRM l = (encCM l, 0) := by rw [encRM, if_pos hck, if_pos hlen]
 refine ⟨l, ⟨rfl, rfl, by omega, hcl.2⟩, ?_⟩
 rintro s e ⟨h1⟩
 rw [he] at h1
 cases h1
 have hm := enc_mod l hva
 refine splitNE (fun h => absurd rfl h) fun _ => ⟨_, rfl, _, rfl, splitNE (fun h => absurd (by rw [Int.tmod_eq_emod_of_nonneg (by omega)]; omega) h) fun _ => ⟨⟨by omega⟩, ?_⟩⟩
 rintro r ⟨hr⟩
 rw [demux_enc hck] at hr
 refine splitNE (fun h => absurd hr h) fun _ => ⟨_, rfl, .inl ⟨l, ⟨hck, hlen⟩, rfl, rfl, rfl, rfl, rfl, rfl, rfl, rfl, rfl, rfl, trivial⟩, ?_, ?_⟩
 ·clear hck hlen hcl hva he hm hr
  rintro l ⟨hck, hlen⟩
  obtain ⟨k1, k2, k3⟩ := (check_iff l).1 hck
  refine splitD (fun _ => ?_) (fun h => absurd (by omega) h)
  obtain ⟨c, hr, hcc⟩ := cellsC_get (l := l) (i := 0) (by omega) rfl
  rw [show 13 * 0 = 0 from rfl] at hcc
  have hc := k3 c (List.mem_of_getElem? hr)
  have hk : headOkM [c] = true := by
   cases l with
   | nil => simp at hr
   | cons d l => simp at hr; subst hr; exact k2
  refine ⟨_, rfl, ckI (by simp; omega) (ckI (by simp [cellsC_len]; omega) (agC hcc (ckI (by rw [eqAVL_refl]; rfl) ⟨[startM, c], ⟨rfl, rfl, by simp, okC_pair hc⟩, ?_⟩)))⟩
  rintro s e ⟨h1⟩
  rw [enc_pair hc] at h1
  cases h1
  have hl8 := (one_len hc)
  refine splitNE (fun h => absurd rfl h) fun _ => ⟨_, rfl, splitD (fun h => absurd h (by rw [List.length_append, start_enc]; omega)) fun _ => splitE (fun _ => ?_) (fun h => absurd rfl h)⟩
  refine ckI (by simp; omega) ⟨[c], ⟨by rw [hcc]; simp [cellsCM], rfl, by simp, fun d hd => by rw [List.mem_singleton.1 hd]; exact valid_okC hc⟩, ?_⟩
  rintro s e ⟨h2⟩
  rw [enc_one hc hk] at h2
  cases h2
  have ht : encCM (l.take 1) = oneM c := by
   rw [encC_take hr]; rfl
  refine splitNE (fun h => absurd rfl h) fun _ => ⟨_, rfl, ckI (by simp; omega) ⟨_, rfl, _, rfl, _, rfl, ⟨trivial, rfl⟩, .inr ⟨(l, 1, ctC c, ctC startM ++ ctC c), ⟨by dsimp only; omega, k1.1, hck, hlen⟩, by dsimp only; omega, rfl, rfl, rfl, rfl, ?_, rfl, rfl, rfl, rfl, ?_, rfl, rfl, rfl, trivial⟩⟩⟩
  ·rw [List.nil_append]
   dsimp only
   rw [ends_snoc l 0, ht]; rfl
  ·rw [List.nil_append]
   dsimp only
   rw [ht]
 ·clear hck hlen hcl hva he hm hr
  rintro ⟨l, i, X, Y⟩ ⟨g1, g2, hck, hlen⟩
  dsimp only at g1 g2 hck hlen ⊢
  obtain ⟨k1, k2, k3⟩ := (check_iff l).1 hck
  refine splitD (fun h => ?_) (fun h => ?_)
  ·obtain ⟨c, hr, hcc⟩ := cellsC_get (l := l) (i := i) (by omega) (Nat.mul_comm 13 i ▸ rfl : i * 13 = 13 * i)
   have hc := k3 c (List.mem_of_getElem? hr)
   have hl8 := (one_len hc)
   refine ⟨_, rfl, ?_⟩
   rw [Int.toNat_natCast]
   refine ckI (by simp; omega) (ckI (by simp [cellsC_len]; omega) (agC hcc (ckI (by rw [eqAVL_refl]; rfl) ⟨[startM, c], ⟨rfl, rfl, by simp, okC_pair hc⟩, ?_⟩)))
   rintro s e ⟨h1⟩
   rw [enc_pair hc] at h1
   cases h1
   refine splitNE (fun h => absurd rfl h) fun _ => ⟨_, rfl, splitD (fun h => absurd h (by rw [List.length_append, start_enc]; omega)) fun _ => splitE (fun h => absurd h (by omega)) (fun _ => ckI (by simp [start_enc]) ⟨_, rfl, splitNE (fun h => absurd rfl h) fun _ => ⟨_, rfl, ?_⟩⟩)⟩
   rw [pair_drop]
   have hle := encC_le (l.take i) fun d hd => k3 d (List.mem_of_mem_take hd)
   have hlt : (l.take i).length = i := by rw [List.length_take]; omega
   have ht : encCM (l.take (i + 1)) = encCM (l.take i) ++ oneM c := encC_take hr
   refine ckI (by simp; omega) ⟨_, rfl, _, rfl, ckI (by simp [cellsI_len, ends_len]; omega) (wrapI (by omega) (by omega) ⟨⟨trivial, rfl⟩, .inr ⟨(l, i + 1, X, Y), ⟨by dsimp only; omega, by dsimp only; omega, hck, hlen⟩, by dsimp only; omega, rfl, rfl, rfl, rfl, ?_, rfl, rfl, rfl, rfl, ?_, rfl, rfl, by simp, trivial⟩⟩)⟩
   ·dsimp only
    rw [ends_snoc l i, ht]; simp [cellsI]
   ·dsimp only
    rw [ht]
  ·have hi : i = l.length := by omega
   subst hi
   rw [List.take_length]
   have hne := enc_ne hck
   have hpos : 1 ≤ (encCM l).length := by
    rcases Nat.eq_zero_or_pos (encCM l).length with h0 | h0
    ·exact absurd (List.eq_nil_of_length_eq_zero h0) hne
    ·exact h0
   obtain ⟨n, hn, hnl⟩ := mod_cut hcu hpos
   refine wrapI (by omega) (by omega) ⟨_, rfl, _, rfl, ckI (by simp; omega) ⟨_, rfl, _, rfl, ?_⟩⟩
   rw [hn]
   refine ckI (by simp; omega) ⟨_, rfl, _, rfl, _, rfl, ?_⟩
   try dsimp only
   rw [eqB_refl, cond_true, List.drop_zero, Int.toNat_natCast, Nat.sub_zero]
   obtain ⟨r, e, q1, q2, q3⟩ := dec_cut hck hlen hnl
   rw [q1]
   have hce : ∀ H : List Blk, List.map (fun x => frzV 1 H 8 x) (List.take (l.length * 1) (List.drop 0 (cellsI (endsM l l.length)))) = cellsI (endsM l l.length) := fun H => by
    rw [List.drop_zero, List.take_of_length_le (by simp [cellsI_len, ends_len]), frzI_map 1 H 7]
   refine splitE (fun he => ?_) (fun he => ?_)
   ·refine ckI (by simp [cellsI_len, ends_len]) ⟨endsM l l.length, ⟨hce _, (ends_len _ _).symm, by rw [ends_len]; omega⟩, ?_⟩
    rw [memM, decide_eq_true (q3.1 he), cond_true]
    exact splitE (fun _ => hq _) (fun h => absurd he h)
   ·refine ckI (by simp [cellsI_len, ends_len]) ⟨endsM l l.length, ⟨hce _, (ends_len _ _).symm, by rw [ends_len]; omega⟩, ?_⟩
    rw [memM, decide_eq_false (fun h => he (q3.2 h)), cond_false]
    exact splitE (fun h => absurd h he) (fun _ => splitE (fun _ => hq _) (fun h => absurd (q2.resolve_left he) h))
end Go.Proofs.YtafchcmemeinlaaDoor

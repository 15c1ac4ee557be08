/-
  Chapter 24: Draft: contract of Piece.control; Compound.
-/
import Derived.Test.YtafchcmemeinlaaDoorC24YC
set_option linter.unusedSimpArgs false
set_option linter.unusedVariables false
set_option linter.unusedSectionVars false
namespace Go.Proofs.YtafchcmemeinlaaDoor
open Go.RowKit
set_option maxRecDepth 1000000

def cPiece : Con
 | [.agg cs, .int .i64 κ], H, K => ∃ p : Pc, Lf (cs = pcC p ∧ okP p ∧ 1 ≤ κ ∧ κ ≤ 6) ∧ ∀ c : Ctl, Lf (validM c = true ∧ c.k = κ) → K (.ret (.agg (ctC c))) H
 | _, _, _ => False
theorem piece_raw : ValidF Tryd.prog glC 36 cPiece := by
 refine valid_frz (enters_of (by kernel_rfl)) glC_noY 9 pcK wk_pcK fun args H Q hc => ?_
 unfold cPiece at hc
 split at hc
 ·rename_i cs κ
  obtain ⟨p, ⟨rfl, hp, hk1, hk2⟩, hq⟩ := hc
  have go : hqP κ (fun o H' _ => ∃ v, o = .ret v ∧ Q (.ret (pcK (frzV 0 H' 9 v))) H) := fun c hv hk v H' ho => ⟨v, rfl, by
   have := hq c ⟨hv, hk⟩
   rw [← ho] at this
   exact this⟩
  obtain rfl | rfl | rfl | rfl | rfl | rfl : κ = 1 ∨ κ = 2 ∨ κ = 3 ∨ κ = 4 ∨ κ = 5 ∨ κ = 6 := by omega
  ·obtain ⟨hv, hb', h⟩ := pc_1 p hp _ go
   exact ⟨rfl, rfl, _, 1000, (envFor24 sm36_ok _ _ _ : EnvFor Tryd.prog (env_36 hv hb' p)), rfl, h⟩
  ·obtain ⟨hv, hb', h⟩ := pc_2 p hp _ go
   exact ⟨rfl, rfl, _, 1000, (envFor24 sm36_ok _ _ _ : EnvFor Tryd.prog (env_36 hv hb' p)), rfl, h⟩
  ·obtain ⟨hv, hb', h⟩ := pc_3 p hp _ go
   exact ⟨rfl, rfl, _, 1000, (envFor24 sm36_ok _ _ _ : EnvFor Tryd.prog (env_36 hv hb' p)), rfl, h⟩
  ·obtain ⟨hv, hb', h⟩ := pc_4 p hp _ go
   exact ⟨rfl, rfl, _, 1000, (envFor24 sm36_ok _ _ _ : EnvFor Tryd.prog (env_36c hv hb' p)), rfl, h⟩
  ·obtain ⟨hv, hb', h⟩ := pc_5 p hp _ go
   exact ⟨rfl, rfl, _, 1000, (envFor24 sm36_ok _ _ _ : EnvFor Tryd.prog (env_36 hv hb' p)), rfl, h⟩
  ·obtain ⟨hv, hb', h⟩ := pc_6 p hp _ go
   exact ⟨rfl, rfl, _, 1000, (envFor24 sm36_ok _ _ _ : EnvFor Tryd.prog (env_36c hv hb' p)), rfl, h⟩
 ·exact hc.elim
def pcA : List AV → List AV
 | [.agg l, k] => [.agg (nlL [0, 0, 0, 0, 0, 0, 0, 1, 1, 0] l), k]
 | l => l
def cPieceV : Con := fun args H Q => cPiece (pcA args) H Q
theorem piece_ok : ValidF Tryd.prog glC 36 cPieceV := valid_wkA piece_raw fun args H Q h => ⟨pcA args, by
 unfold pcA
 split
 ·exact wkL_cons (wk_agg (wk_nlL _ _)) (wkL_refl _)
 ·exact wkL_refl _, h⟩
def cellsPcM (ps : List Pc) : List AV := ps.flatMap pcC
def sm12 : SM := lookS [(36, cPieceV)]
theorem sm12_ok : ∀ f g, sm12 f = some g → ValidF Tryd.prog glC f g := lookS_ok _ (by simp only [List.mem_cons, List.not_mem_nil, or_false, forall_eq]; exact piece_ok)
def okL (l : List Ctl) : Prop := headOkM l = true ∧ ∀ c ∈ l, validM c = true
abbrev X12 := List Ctl × List AV × List AV × List AV
def inv_12 (ps : List Pc) (s : S) : List (List LInv) := match s.hp with
 | [b0, ⟨k1, f1, _⟩, ⟨k2, f2, _⟩] => [[
  { α := List AV × Ctl, pre := fun x => Lf (okL [x.2]), st := fun x => ⟨mkT [(1, .ptr 0 2 0), (4, .sl 2 13 0 1 13), (5, .int .i64 1)], [b0, ⟨k1, f1, x.1⟩, ⟨k2, f2, ctC x.2⟩]⟩, mu := fun x => 4 },
  { α := X12, pre := fun x => Lf (2 ≤ x.1.length ∧ x.1.length ≤ 4 ∧ okL x.1), st := fun x => ⟨mkT [(1, .ptr 0 2 0), (4, .sl 4 (13 * x.1.length) 0 x.1.length 13), (5, .int .i64 (x.1.length : Nat))], [b0, ⟨k1, f1, x.2.1⟩, ⟨k2, f2, x.2.2.1⟩, ⟨.exact, true, x.2.2.2⟩, ⟨.grow, true, cellsCM x.1⟩]⟩, mu := fun x => 4 - x.1.length }]]
 | _ => []
noncomputable def env_12 (hv : Nat → Option Pa) (hb : Nat → Option Bool) (ps : List Pc) : Env := e24 sm12 (fun i => bif Nat.beq i 12000 then some (inv_12 ps) else none) hv hb
noncomputable def goal_12 (hv : Nat → Option Pa) (hb : Nat → Option Bool) (b : Bool) (t : Nat) (ps : List Pc) (Q : Out → List Blk → Gh → Prop) : Prop :=
 callx (env_12 hv hb ps) (wpx (env_12 hv hb ps) 1000) 12 [.agg [.bool b, .lst t (cellsPcM ps) ps.length 10]] [] {} Q
def vc_12_1 (b : Bool) (t : Nat) (ps : List Pc) (Q : Out → List Blk → Gh → Prop) : Prop :=
(∀ x_0 : List AV × Ctl, Lf (okL [x_0.2]) → exI .i64 1 fun n_1 => exI .i64 (ps.length : Int) fun n_2 => bif decide (n_1 < n_2) then exI .i64 1 fun n_3 => bif decide (n_3 < 4) then exI .i64 1 fun n_4 => ckQ (decide (0 ≤ n_4) && Nat.blt
 n_4.toNat ps.length && true) (ckQ (Nat.ble (n_4.toNat * 10 + 10) (cellsPcM ps).length) (∃ n_5 n_6 n_7 n_8 n_9 n_10 n_11, ∃ t_12 : Nat, ∃ cs_13 : List AV, ∃ len_14 t_15 : Nat, ∃ cs_16 : List AV, ∃ len_17 : Nat, ∃ n_18, AV.agg (((cellsPcM
 ps).drop (n_4.toNat * 10)).take 10) = AV.agg [.int .u8 n_5, .int .u32 n_6, .int .u32 n_7, .int .u32 n_8, .int .u32 n_9, .int .u32 n_10, .int .u32 n_11, .lst t_12 cs_13 len_14 1, .lst t_15 cs_16 len_17 1, .int .u64 n_18] ∧ exI .i64 1 fun
 n_19 => ckQ (decide (0 ≤ n_19) && Nat.blt n_19.toNat ps.length && true) (ckQ (Nat.blt (n_19.toNat * 10 + 0) (cellsPcM ps).length) (exV .u8 ((cellsPcM ps).getD (n_19.toNat * 10 + 0) AV.undef) fun n_20 => exI .u8 (n_20.tmod 6) fun n_21 =>
 exW .i64 n_21 fun n_22 => exW .i64 (1 + n_22) fun n_23 => ∃ p_24 : Pc, Lf ([AV.int .u8 n_5, .int .u32 n_6, .int .u32 n_7, .int .u32 n_8, .int .u32 n_9, .int .u32 n_10, .int .u32 n_11, .lst t_12 cs_13 len_14 1, .lst t_15 cs_16 len_17 1,
 .int .u64 n_18] = [AV.int .u8 p_24.1, .int .u32 p_24.2, .int .u32 p_24.3, .int .u32 p_24.4, .int .u32 p_24.5, .int .u32 p_24.6, .int .u32 p_24.7, .lst p_24.8 (cells32M p_24.9) p_24.9.length 1, .lst p_24.10 (cells16M p_24.11) p_24.11.length
 1, .int .u64 p_24.12] ∧ okP p_24 ∧ 1 ≤ n_23 ∧ n_23 ≤ 6) ∧ ∀ c_25 : Ctl, Lf (validM c_25 = true ∧ Ctl.k c_25 = n_23) → exI .i64 1 fun n_26 => exW .i64 (n_26 + 1) fun n_27 => (True ∧ (0 : Nat) = (0 : Nat)) ∧ ((∃ y_28 : List AV × Ctl, Lf (okL
 [y_28.2]) ∧ (4 : Nat) < (4 : Nat) ∧ eqqQ [AV.bool b, .lst t (cellsPcM ps) ps.length 10] ∧ x_0.1 = y_28.1 ∧ [AV.int .i64 x_0.2.1, .int .i64 x_0.2.2, .int .i64 x_0.2.3, .int .i64 x_0.2.4, .int .i64 x_0.2.5, .int .i64 x_0.2.6, .int .i64
 x_0.2.7, .int .i64 x_0.2.8, .lst 0 (cellsRM x_0.2.9) x_0.2.9.length 7, .lst 0 (cellsI x_0.2.10) x_0.2.10.length 1, .int .i64 x_0.2.11, .int .i64 x_0.2.12, .lst 0 (cellsI x_0.2.13) x_0.2.13.length 1] = [AV.int .i64 y_28.2.1, .int .i64
 y_28.2.2, .int .i64 y_28.2.3, .int .i64 y_28.2.4, .int .i64 y_28.2.5, .int .i64 y_28.2.6, .int .i64 y_28.2.7, .int .i64 y_28.2.8, .lst 0 (cellsRM y_28.2.9) y_28.2.9.length 7, .lst 0 (cellsI y_28.2.10) y_28.2.10.length 1, .int .i64
 y_28.2.11, .int .i64 y_28.2.12, .lst 0 (cellsI y_28.2.13) y_28.2.13.length 1] ∧ False) ∨ ∃ y_28 : List Ctl × List AV × List AV × List AV, Lf (2 ≤ y_28.1.length ∧ y_28.1.length ≤ 4 ∧ okL y_28.1) ∧ 4 - y_28.1.length < 4 ∧ eqqQ [AV.bool b,
 .lst t (cellsPcM ps) ps.length 10] ∧ x_0.1 = y_28.2.1 ∧ [AV.int .i64 x_0.2.1, .int .i64 x_0.2.2, .int .i64 x_0.2.3, .int .i64 x_0.2.4, .int .i64 x_0.2.5, .int .i64 x_0.2.6, .int .i64 x_0.2.7, .int .i64 x_0.2.8, .lst 0 (cellsRM x_0.2.9)
 x_0.2.9.length 7, .lst 0 (cellsI x_0.2.10) x_0.2.10.length 1, .int .i64 x_0.2.11, .int .i64 x_0.2.12, .lst 0 (cellsI x_0.2.13) x_0.2.13.length 1] = y_28.2.2.1 ∧ [AV.int .i64 c_25.1, .int .i64 c_25.2, .int .i64 c_25.3, .int .i64 c_25.4,
 .int .i64 c_25.5, .int .i64 c_25.6, .int .i64 c_25.7, .int .i64 c_25.8, .lst 0 (cellsRM c_25.9) c_25.9.length 7, .lst 0 (cellsI c_25.10) c_25.10.length 1, .int .i64 c_25.11, .int .i64 c_25.12, .lst 0 (cellsI c_25.13) c_25.13.length 1] =
 y_28.2.2.2 ∧ [AV.int .i64 x_0.2.1, .int .i64 x_0.2.2, .int .i64 x_0.2.3, .int .i64 x_0.2.4, .int .i64 x_0.2.5, .int .i64 x_0.2.6, .int .i64 x_0.2.7, .int .i64 x_0.2.8, .lst 0 (cellsRM x_0.2.9) x_0.2.9.length 7, .lst 0 (cellsI x_0.2.10)
 x_0.2.10.length 1, .int .i64 x_0.2.11, .int .i64 x_0.2.12, .lst 0 (cellsI x_0.2.13) x_0.2.13.length 1, .int .i64 c_25.1, .int .i64 c_25.2, .int .i64 c_25.3, .int .i64 c_25.4, .int .i64 c_25.5, .int .i64 c_25.6, .int .i64 c_25.7, .int .i64
 c_25.8, .lst 0 (cellsRM c_25.9) c_25.9.length 7, .lst 0 (cellsI c_25.10) c_25.10.length 1, .int .i64 c_25.11, .int .i64 c_25.12, .lst 0 (cellsI c_25.13) c_25.13.length 1] = cellsCM y_28.1 ∧ eqqQ (AV.ptr 0 2 0) ∧ AV.int .i64 n_27 = AV.int
 .i64 (y_28.1.length : Int) ∧ AV.sl 4 26 0 2 13 = AV.sl 4 (13 * y_28.1.length) 0 y_28.1.length 13 ∧ True))))) else Q (.ret (.sl 2 13 0 1 13)) [Blk.mk BK.exact true [.bool b, .lst t (cellsPcM ps) ps.length 10], Blk.mk BK.exact true x_0.1,
 Blk.mk BK.exact true [.int .i64 x_0.2.1, .int .i64 x_0.2.2, .int .i64 x_0.2.3, .int .i64 x_0.2.4, .int .i64 x_0.2.5, .int .i64 x_0.2.6, .int .i64 x_0.2.7, .int .i64 x_0.2.8, .lst 0 (cellsRM x_0.2.9) x_0.2.9.length 7, .lst 0 (cellsI
 x_0.2.10) x_0.2.10.length 1, .int .i64 x_0.2.11, .int .i64 x_0.2.12, .lst 0 (cellsI x_0.2.13) x_0.2.13.length 1]] {} else Q (.ret (.sl 2 13 0 1 13)) [Blk.mk BK.exact true [.bool b, .lst t (cellsPcM ps) ps.length 10], Blk.mk BK.exact true
 x_0.1, Blk.mk BK.exact true [.int .i64 x_0.2.1, .int .i64 x_0.2.2, .int .i64 x_0.2.3, .int .i64 x_0.2.4, .int .i64 x_0.2.5, .int .i64 x_0.2.6, .int .i64 x_0.2.7, .int .i64 x_0.2.8, .lst 0 (cellsRM x_0.2.9) x_0.2.9.length 7, .lst 0 (cellsI
 x_0.2.10) x_0.2.10.length 1, .int .i64 x_0.2.11, .int .i64 x_0.2.12, .lst 0 (cellsI x_0.2.13) x_0.2.13.length 1]] {}) ∧ ∀ x_0 : List Ctl × List AV × List AV × List AV, Lf (2 ≤ x_0.1.length ∧ x_0.1.length ≤ 4 ∧ okL x_0.1) → exI .i64
 (x_0.1.length : Int) fun n_1 => exI .i64 (ps.length : Int) fun n_2 => bif decide (n_1 < n_2) then exI .i64 (x_0.1.length : Int) fun n_3 => bif decide (n_3 < 4) then exI .i64 (x_0.1.length : Int) fun n_4 => ckQ (decide (0 ≤ n_4) && Nat.blt
 n_4.toNat ps.length && true) (ckQ (Nat.ble (n_4.toNat * 10 + 10) (cellsPcM ps).length) (∃ n_5 n_6 n_7 n_8 n_9 n_10 n_11, ∃ t_12 : Nat, ∃ cs_13 : List AV, ∃ len_14 t_15 : Nat, ∃ cs_16 : List AV, ∃ len_17 : Nat, ∃ n_18, AV.agg (((cellsPcM
 ps).drop (n_4.toNat * 10)).take 10) = AV.agg [.int .u8 n_5, .int .u32 n_6, .int .u32 n_7, .int .u32 n_8, .int .u32 n_9, .int .u32 n_10, .int .u32 n_11, .lst t_12 cs_13 len_14 1, .lst t_15 cs_16 len_17 1, .int .u64 n_18] ∧ exI .i64
 (x_0.1.length : Int) fun n_19 => ckQ (decide (0 ≤ n_19) && Nat.blt n_19.toNat ps.length && true) (ckQ (Nat.blt (n_19.toNat * 10 + 0) (cellsPcM ps).length) (exV .u8 ((cellsPcM ps).getD (n_19.toNat * 10 + 0) AV.undef) fun n_20 => exI .u8
 (n_20.tmod 6) fun n_21 => exW .i64 n_21 fun n_22 => exW .i64 (1 + n_22) fun n_23 => ∃ p_24 : Pc, Lf ([AV.int .u8 n_5, .int .u32 n_6, .int .u32 n_7, .int .u32 n_8, .int .u32 n_9, .int .u32 n_10, .int .u32 n_11, .lst t_12 cs_13 len_14 1,
 .lst t_15 cs_16 len_17 1, .int .u64 n_18] = [AV.int .u8 p_24.1, .int .u32 p_24.2, .int .u32 p_24.3, .int .u32 p_24.4, .int .u32 p_24.5, .int .u32 p_24.6, .int .u32 p_24.7, .lst p_24.8 (cells32M p_24.9) p_24.9.length 1, .lst p_24.10
 (cells16M p_24.11) p_24.11.length 1, .int .u64 p_24.12] ∧ okP p_24 ∧ 1 ≤ n_23 ∧ n_23 ≤ 6) ∧ ∀ c_25 : Ctl, Lf (validM c_25 = true ∧ Ctl.k c_25 = n_23) → ckQ (Nat.beq (cellsCM x_0.1).length (13 * x_0.1.length) && true && Nat.beq (0 +
 x_0.1.length * 13) (13 * x_0.1.length) && Nat.ble (x_0.1.length + 1) 1099511627776 && Nat.ble ((x_0.1.length + 1) * 152) 1099511627776) (exI .i64 (x_0.1.length : Int) fun n_26 => exW .i64 (n_26 + 1) fun n_27 => (True ∧ (0 : Nat) = (0 :
 Nat)) ∧ ((∃ y_28 : List AV × Ctl, Lf (okL [y_28.2]) ∧ 4 < 4 - x_0.1.length ∧ eqqQ [AV.bool b, .lst t (cellsPcM ps) ps.length 10] ∧ x_0.2.1 = y_28.1 ∧ x_0.2.2.1 = [AV.int .i64 y_28.2.1, .int .i64 y_28.2.2, .int .i64 y_28.2.3, .int .i64
 y_28.2.4, .int .i64 y_28.2.5, .int .i64 y_28.2.6, .int .i64 y_28.2.7, .int .i64 y_28.2.8, .lst 0 (cellsRM y_28.2.9) y_28.2.9.length 7, .lst 0 (cellsI y_28.2.10) y_28.2.10.length 1, .int .i64 y_28.2.11, .int .i64 y_28.2.12, .lst 0 (cellsI
 y_28.2.13) y_28.2.13.length 1] ∧ False) ∨ ∃ y_28 : List Ctl × List AV × List AV × List AV, Lf (2 ≤ y_28.1.length ∧ y_28.1.length ≤ 4 ∧ okL y_28.1) ∧ 4 - y_28.1.length < 4 - x_0.1.length ∧ eqqQ [AV.bool b, .lst t (cellsPcM ps) ps.length 10]
 ∧ x_0.2.1 = y_28.2.1 ∧ x_0.2.2.1 = y_28.2.2.1 ∧ x_0.2.2.2 = y_28.2.2.2 ∧ cellsCM x_0.1 ++ [AV.int .i64 c_25.1, .int .i64 c_25.2, .int .i64 c_25.3, .int .i64 c_25.4, .int .i64 c_25.5, .int .i64 c_25.6, .int .i64 c_25.7, .int .i64 c_25.8,
 .lst 0 (cellsRM c_25.9) c_25.9.length 7, .lst 0 (cellsI c_25.10) c_25.10.length 1, .int .i64 c_25.11, .int .i64 c_25.12, .lst 0 (cellsI c_25.13) c_25.13.length 1] = cellsCM y_28.1 ∧ eqqQ (AV.ptr 0 2 0) ∧ AV.int .i64 n_27 = AV.int .i64
 (y_28.1.length : Int) ∧ AV.sl 4 (13 * x_0.1.length + 13) 0 (x_0.1.length + 1) 13 = AV.sl 4 (13 * y_28.1.length) 0 y_28.1.length 13 ∧ True)))))) else Q (.ret (.sl 4 (13 * x_0.1.length) 0 x_0.1.length 13)) [Blk.mk BK.exact true [.bool b,
 .lst t (cellsPcM ps) ps.length 10], Blk.mk BK.exact true x_0.2.1, Blk.mk BK.exact true x_0.2.2.1, Blk.mk BK.exact true x_0.2.2.2, Blk.mk BK.grow true (cellsCM x_0.1)] {} else Q (.ret (.sl 4 (13 * x_0.1.length) 0 x_0.1.length 13)) [Blk.mk
 BK.exact true [.bool b, .lst t (cellsPcM ps) ps.length 10], Blk.mk BK.exact true x_0.2.1, Blk.mk BK.exact true x_0.2.2.1, Blk.mk BK.exact true x_0.2.2.2, Blk.mk BK.grow true (cellsCM x_0.1)] {}
abbrev q4YD_12_0 (c_18 : Ctl) (x_19 : List AV × Ctl) : Prop :=
[AV.int .i64 c_18.1, .int .i64 c_18.2, .int .i64 c_18.3, .int .i64 c_18.4, .int .i64 c_18.5, .int .i64 c_18.6, .int .i64 c_18.7, .int .i64 c_18.8, .lst 0 (cellsRM c_18.9) c_18.9.length 7, .lst 0 (cellsI c_18.10) c_18.10.length 1, .int .i64
 c_18.11, .int .i64 c_18.12, .lst 0 (cellsI c_18.13) c_18.13.length 1] = [AV.int .i64 x_19.2.1, .int .i64 x_19.2.2, .int .i64 x_19.2.3, .int .i64 x_19.2.4, .int .i64 x_19.2.5, .int .i64 x_19.2.6, .int .i64 x_19.2.7, .int .i64 x_19.2.8, .lst
 0 (cellsRM x_19.2.9) x_19.2.9.length 7, .lst 0 (cellsI x_19.2.10) x_19.2.10.length 1, .int .i64 x_19.2.11, .int .i64 x_19.2.12, .lst 0 (cellsI x_19.2.13) x_19.2.13.length 1] ∧ eqqQ (AV.ptr 0 2 0) ∧ eqqQ (AV.int .i64 1) ∧ eqqQ (AV.sl 2 13 0
 1 13) ∧ True
abbrev q4YD_12_1 (c_18 : Ctl) (x_19 : List Ctl × List AV × List AV × List AV) : Prop :=
[AV.int .i64 c_18.1, .int .i64 c_18.2, .int .i64 c_18.3, .int .i64 c_18.4, .int .i64 c_18.5, .int .i64 c_18.6, .int .i64 c_18.7, .int .i64 c_18.8, .lst 0 (cellsRM c_18.9) c_18.9.length 7, .lst 0 (cellsI c_18.10) c_18.10.length 1, .int .i64
 c_18.11, .int .i64 c_18.12, .lst 0 (cellsI c_18.13) c_18.13.length 1] = x_19.2.2.1 ∧ False
abbrev zYD0 (p_15 : Pc) : List AV := [.int .u8 p_15.1, .int .u32 p_15.2, .int .u32 p_15.3, .int .u32 p_15.4, .int .u32 p_15.5, .int .u32 p_15.6, .int .u32 p_15.7, .lst p_15.8 (cells32M p_15.9) p_15.9.length 1, .lst p_15.10 (cells16M p_15.11) p_15.11.length 1, .int .u64 p_15.12]
abbrev zYD6 : Prop := (1 : Int) ≤ (2 : Int) ∧ (2 : Int) ≤ (6 : Int)
abbrev zYD5 : Prop := (1 : Int) ≤ (1 : Int) ∧ (1 : Int) ≤ (6 : Int)
abbrev zYD2 (b : Bool) (t : Nat) (ps : List Pc) : Prop := eqqQ [AV.bool b, .lst t (cellsPcM ps) ps.length 10]
abbrev zYD7 (x_19 : List Ctl × List AV × List AV × List AV) : Prop := Lf (2 ≤ x_19.1.length ∧ x_19.1.length ≤ 4 ∧ okL x_19.1)
abbrev zYD3 : List AV := [.int .u8 0, .int .u32 0, .int .u32 0, .int .u32 0, .int .u32 0, .int .u32 0, .int .u32 0, .lst 0 [] 0 1, .lst 0 [] 0 1, .int .u64 0]
abbrev zYD4 : List AV := [.int .u8 0, .int .u32 0, .int .u32 0, .int .u32 0, .int .u32 0, .int .u32 0, .int .u32 0, .nils, .nils, .int .u64 0]
abbrev zYD1 (b : Bool) (t : Nat) (ps : List Pc) (c_4 : Ctl) : Prop := (∃ x_5 : List AV × Ctl, Lf (okL [x_5.2]) ∧ zYD2 b t ps ∧ zYD4 = x_5.1 ∧ q4YD_12_0 c_4 x_5) ∨ ∃ x_5 : List Ctl × List AV × List AV × List AV, zYD7 x_5 ∧ zYD2 b t ps ∧ zYD4 = x_5.2.1 ∧ q4YD_12_1 c_4 x_5
theorem vc_12 (b : Bool) (t : Nat) (ps : List Pc) (Q : Out → List Blk → Gh → Prop) : goal_12 (lookV [(49160, .int .i64), (49165, .agg [.int .u8, .int .u32, .int .u32, .int .u32, .int .u32, .int .u32, .int .u32, .lst 1, .lst 1, .int .u64]),
 (49178, .int .i64), (49191, .agg [.int .u8, .int .u32, .int .u32, .int .u32, .int .u32, .int .u32, .int .u32, .lst 1, .lst 1, .int .u64]), (49197, .int .u8), (49198, .int .u8), (49199, .int .i64), (49200, .int .i64), (49175, .int .i64),
 (49181, .int .i64), (49189, .int .i64), (49194, .int .i64), (49184, .int .i64), (49185, .int .i64)]) (lookB []) b t ps Q = (exI .i64 (ps.length : Int) (fun n_0 => bif decide (n_0 > 0) then ckQ (Nat.blt 0 ps.length && true) (ckQ (Nat.ble 10
 (cellsPcM ps).length) (∃ n_1 n_2 n_3 n_4 n_5 n_6 n_7, ∃ t_8 : Nat, ∃ cs_9 : List AV, ∃ len_10 t_11 : Nat, ∃ cs_12 : List AV, ∃ len_13 : Nat, ∃ n_14, AV.agg (((cellsPcM ps).drop 0).take 10) = AV.agg [.int .u8 n_1, .int .u32 n_2, .int .u32
 n_3, .int .u32 n_4, .int .u32 n_5, .int .u32 n_6, .int .u32 n_7, .lst t_8 cs_9 len_10 1, .lst t_11 cs_12 len_13 1, .int .u64 n_14] ∧ ∃ p_15 : Pc, Lf ([AV.int .u8 n_1, .int .u32 n_2, .int .u32 n_3, .int .u32 n_4, .int .u32 n_5, .int .u32
 n_6, .int .u32 n_7, .lst t_8 cs_9 len_10 1, .lst t_11 cs_12 len_13 1, .int .u64 n_14] = zYD0 p_15 ∧ okP p_15 ∧ zYD6) ∧ ∀ c_16 : Ctl, Lf (validM c_16 = true ∧ Ctl.k c_16 = 2) → bif b then ∃ p_17 : Pc, Lf ([AV.int .u8 n_1, .int .u32 n_2,
 .int .u32 n_3, .int .u32 n_4, .int .u32 n_5, .int .u32 n_6, .int .u32 n_7, .lst t_8 cs_9 len_10 1, .lst t_11 cs_12 len_13 1, .int .u64 n_14] = zYD0 p_17 ∧ okP p_17 ∧ zYD5) ∧ ∀ c_18 : Ctl, Lf (validM c_18 = true ∧ Ctl.k c_18 = 1) → ((∃ x_19
 : List AV × Ctl, Lf (okL [x_19.2]) ∧ zYD2 b t ps ∧ [AV.int .u8 n_1, .int .u32 n_2, .int .u32 n_3, .int .u32 n_4, .int .u32 n_5, .int .u32 n_6, .int .u32 n_7, .lst t_8 cs_9 len_10 1, .lst t_11 cs_12 len_13 1, .int .u64 n_14] = x_19.1 ∧
 q4YD_12_0 c_18 x_19) ∨ ∃ x_19 : List Ctl × List AV × List AV × List AV, zYD7 x_19 ∧ zYD2 b t ps ∧ [AV.int .u8 n_1, .int .u32 n_2, .int .u32 n_3, .int .u32 n_4, .int .u32 n_5, .int .u32 n_6, .int .u32 n_7, .lst t_8 cs_9 len_10 1, .lst t_11
 cs_12 len_13 1, .int .u64 n_14] = x_19.2.1 ∧ q4YD_12_1 c_18 x_19) ∧ vc_12_1 b t ps Q else ((∃ x_17 : List AV × Ctl, Lf (okL [x_17.2]) ∧ zYD2 b t ps ∧ [AV.int .u8 n_1, .int .u32 n_2, .int .u32 n_3, .int .u32 n_4, .int .u32 n_5, .int .u32
 n_6, .int .u32 n_7, .lst t_8 cs_9 len_10 1, .lst t_11 cs_12 len_13 1, .int .u64 n_14] = x_17.1 ∧ q4YD_12_0 c_16 x_17) ∨ ∃ x_17 : List Ctl × List AV × List AV × List AV, zYD7 x_17 ∧ zYD2 b t ps ∧ [AV.int .u8 n_1, .int .u32 n_2, .int .u32
 n_3, .int .u32 n_4, .int .u32 n_5, .int .u32 n_6, .int .u32 n_7, .lst t_8 cs_9 len_10 1, .lst t_11 cs_12 len_13 1, .int .u64 n_14] = x_17.2.1 ∧ q4YD_12_1 c_16 x_17) ∧ vc_12_1 b t ps Q)) else ∃ p_1 : Pc, Lf (zYD3 = zYD0 p_1 ∧ okP p_1 ∧
 zYD6) ∧ ∀ c_2 : Ctl, Lf (validM c_2 = true ∧ Ctl.k c_2 = 2) → bif b then ∃ p_3 : Pc, Lf (zYD3 = zYD0 p_3 ∧ okP p_3 ∧ zYD5) ∧ ∀ c_4 : Ctl, Lf (validM c_4 = true ∧ Ctl.k c_4 = 1) → zYD1 b t ps c_4 ∧ vc_12_1 b t ps Q else zYD1 b t ps c_2 ∧
 vc_12_1 b t ps Q)) := by kernel_rfl

theorem pcs_len : ∀ l : List Pc, (cellsPcM l).length = 10 * l.length
 | [] => rfl
 | r :: l => by
  have := pcs_len l
  have e : cellsPcM (r :: l) = pcC r ++ cellsPcM l := rfl
  rw [e, List.length_append, this, List.length_cons]
  show 10 + _ = _
  omega
theorem pcs_get {l : List Pc} {i j : Nat} (hi : i < l.length) (hj : j = 10 * i) : ∃ r, l[i]? = some r ∧ (cellsPcM l |>.drop j).take 10 = pcC r := by
 subst hj
 induction l generalizing i with
 | nil => simp at hi
 | cons r l ih =>
  have e : cellsPcM (r :: l) = pcC r ++ cellsPcM l := rfl
  cases i with
  | zero => exact ⟨r, rfl, by rw [e]; rfl⟩
  | succ i =>
   obtain ⟨q, h1, h2⟩ := ih (i := i) (by simpa using hi)
   refine ⟨q, by simpa using h1, ?_⟩
   have e2 : (pcC r ++ cellsPcM l).drop (10 * (i + 1)) = (cellsPcM l).drop (10 * i) := by
    rw [show 10 * (i + 1) = (pcC r).length + 10 * i by show _ = 10 + _; omega, List.drop_append, List.drop_of_length_le (by omega), Nat.add_sub_cancel_left, List.nil_append]
   rw [e, e2]; exact h2
theorem take_getD0 {l : List AV} {j n : Nat} {d : AV} (hn : 0 < n) : ((l.drop j).take n).getD 0 d = l.getD j d := by
 simp [List.getD_eq_getElem?_getD, List.getElem?_take, hn]
theorem agP {cs : List AV} {p : Pc} (e : cs = pcC p) {K : Int → Int → Int → Int → Int → Int → Int → Nat → List AV → Nat → Nat → List AV → Nat → Int → Prop} (h : K p.k p.n0 p.n1 p.n2 p.n3 p.n4 p.n5 p.tr (cells32M p.rs) p.rs.length p.tl (cells16M p.ls) p.ls.length p.m) :
  ∃ (n0 n1 n2 n3 n4 n5 n6 : Int) (t7 : Nat) (c7 : List AV) (l7 : Nat) (t8 : Nat) (c8 : List AV) (l8 : Nat) (n9 : Int), AV.agg cs = AV.agg [.int .u8 n0, .int .u32 n1, .int .u32 n2, .int .u32 n3, .int .u32 n4, .int .u32 n5, .int .u32 n6, .lst t7 c7 l7 1, .lst t8 c8 l8 1, .int .u64 n9] ∧ K n0 n1 n2 n3 n4 n5 n6 t7 c7 l7 t8 c8 l8 n9 :=
 ⟨_, _, _, _, _, _, _, _, _, _, _, _, _, _, by rw [e]; rfl, h⟩
theorem out12 {H : List Blk} {id n m : Nat} {b : Blk} {l : List Ctl} (hb : H[id]? = some b) (hc : b.cs = cellsCM l) (hk : b.k ≠ .ro) (hn : n = 13 * l.length) (hm : m = l.length) : nlR [13] (frzV 0 H 9 (.sl id n 0 m 13)) = .lst 0 (cellsCM l) l.length 13 := by
 subst hn hm
 have h : frzV 0 H 9 (.sl id (13 * l.length) 0 l.length 13) = .lst 0 (cellsCM l) l.length 13 := by
  rw [frzV]
  have c1 : b.cs.length.beq (13 * l.length) = true := beq_t (by rw [hc]; exact cellsC_len l)
  have c2 : (0 + l.length * 13).ble (13 * l.length) = true := ble_t (by omega)
  have c3 : (b.k != .ro) = true := by simpa using hk
  simp only [hb, c1, c2, c3, Bool.and_self, cond_true]
  rw [hc, List.drop_zero, List.take_of_length_le (by rw [cellsC_len]; omega), frz_cellsC]
 rw [h]
 rfl
theorem okL_snoc {l : List Ctl} {c : Ctl} (h : okL l) (hc : validM c = true) : okL (l ++ [c]) := by
 obtain ⟨h1, h2⟩ := h
 refine ⟨?_, ?_⟩
 ·cases l with
  | nil => cases h1
  | cons x l => exact h1
 ·intro d hd
  rw [List.mem_append] at hd
  rcases hd with hd | hd
  ·exact h2 d hd
  ·simp only [List.mem_cons, List.not_mem_nil, or_false] at hd
   subst hd; exact hc
theorem okL_one {c : Ctl} (h : validM c = true) (hk : c.k = 1 ∨ c.k = 2) : okL [c] := ⟨decide_eq_true hk, by simpa using h⟩
def hq12 (Q : Out → List Blk → Gh → Prop) : Prop := ∀ l, okL l → 1 ≤ l.length → l.length ≤ 4 → ∀ v H, nlR [13] (frzV 0 H 9 v) = .lst 0 (cellsCM l) l.length 13 → Q (.ret v) H {}
theorem loop12 (b : Bool) (t : Nat) (ps : List Pc) (hps : ∀ p ∈ ps, okP p) (Q : Out → List Blk → Gh → Prop) (hq : hq12 Q) : vc_12_1 b t ps Q := by
 unfold vc_12_1
 have hc := pcs_len ps
 refine ⟨?_, ?_⟩
 ·rintro ⟨z, c⟩ ⟨hk⟩
  dsimp only at hk ⊢
  have ho : ∀ H : List Blk, H[2]? = some ⟨.exact, true, ctC c⟩ → Q (.ret (.sl 2 13 0 1 13)) H {} := fun H hH => hq [c] hk (by simp) (by simp) _ _ (out12 hH (by simp [cellsCM]) (by simp) (by simp) (by simp))
  refine ⟨_, rfl, _, rfl, splitD (fun h1 => ⟨_, rfl, splitD (fun h2 => ?_) (fun h2 => by omega)⟩) (fun h1 => ho _ rfl)⟩
  have hlt : 1 < ps.length := by omega
  obtain ⟨p, e1, e2⟩ := pcs_get hlt (show (1 : Int).toNat * 10 = 10 * 1 by omega)
  have hp := hps p (List.mem_of_getElem? e1)
  have e3 : (cellsPcM ps).getD ((1 : Int).toNat * 10 + 0) AV.undef = .int .u8 p.k := by
   rw [Nat.add_zero, ← take_getD0 (n := 10) (by decide), e2]; rfl
  have hk6 := hp.1
  refine ⟨_, rfl, ckI (by simp; omega) (ckI (by rw [Nat.ble_eq]; omega) (agP e2 ⟨_, rfl, ckI (by simp; omega) (ckI (by rw [blt_iff]; omega) ⟨_, e3, _, rfl, ?_⟩)⟩))⟩
  try dsimp only
  rw [tmodN hk6.1]
  refine wrapI (by omega) (by omega) (wrapI (by omega) (by omega) ⟨p, ⟨rfl, hp, by omega, by omega⟩, ?_⟩)
  rintro c2 ⟨g1, g2⟩
  exact ⟨_, rfl, wrapI (by omega) (by omega) ⟨⟨trivial, rfl⟩, .inr ⟨([c, c2], z, ctC c, ctC c2), ⟨by simp, by simp, okL_snoc hk g1⟩, by simp, rfl, rfl, rfl, rfl, rfl, rfl, rfl, rfl, trivial⟩⟩⟩
 ·rintro ⟨l, z1, z2, z3⟩ ⟨k1, k2, hk⟩
  dsimp only at k1 k2 hk ⊢
  have hcl := cellsC_len l
  have ho : ∀ H : List Blk, H[4]? = some ⟨.grow, true, cellsCM l⟩ → Q (.ret (.sl 4 (13 * l.length) 0 l.length 13)) H {} := fun H hH => hq l hk (by omega) k2 _ _ (out12 hH rfl (by simp) rfl rfl)
  refine ⟨_, rfl, _, rfl, splitD (fun h1 => ⟨_, rfl, splitD (fun h2 => ?_) (fun h2 => ho _ rfl)⟩) (fun h1 => ho _ rfl)⟩
  have hlt : l.length < ps.length := by omega
  obtain ⟨p, e1, e2⟩ := pcs_get hlt (show (l.length : Int).toNat * 10 = 10 * l.length by omega)
  have hp := hps p (List.mem_of_getElem? e1)
  have e3 : (cellsPcM ps).getD ((l.length : Int).toNat * 10 + 0) AV.undef = .int .u8 p.k := by
   rw [Nat.add_zero, ← take_getD0 (n := 10) (by decide), e2]; rfl
  have hk6 := hp.1
  refine ⟨_, rfl, ckI (by simp; omega) (ckI (by rw [Nat.ble_eq]; omega) (agP e2 ⟨_, rfl, ckI (by simp; omega) (ckI (by rw [blt_iff]; omega) ⟨_, e3, _, rfl, ?_⟩)⟩))⟩
  try dsimp only
  rw [tmodN hk6.1]
  refine wrapI (by omega) (by omega) (wrapI (by omega) (by omega) ⟨p, ⟨rfl, hp, by omega, by omega⟩, ?_⟩)
  rintro c2 ⟨g1, g2⟩
  exact ckI (by rw [hcl]; simp; omega) ⟨_, rfl, wrapI (by omega) (by omega) ⟨⟨trivial, rfl⟩, .inr ⟨(l ++ [c2], z1, z2, z3), ⟨by simp; omega, by simp; omega, okL_snoc hk g1⟩, by simp; omega, rfl, rfl, rfl, rfl, (cellsC_snoc l c2).symm, rfl, by simp, by simp [Nat.mul_add], trivial⟩⟩⟩
def zP : Pc := ⟨0, 0, 0, 0, 0, 0, 0, 0, [], 0, [], 0⟩
theorem zP_ok : okP zP := ⟨by decide, by decide, by decide, by decide, by decide, by decide, by decide, by simp [zP], by simp [zP], by decide⟩
theorem comp_run (b : Bool) (t : Nat) (ps : List Pc) (hps : ∀ p ∈ ps, okP p) (Q : Out → List Blk → Gh → Prop) (hq : hq12 Q) : ∃ hv hb, goal_12 hv hb b t ps Q := by
 obtain ⟨hv, hb', e⟩ : ∃ hv hb, goal_12 hv hb b t ps Q = _ := ⟨_, _, vc_12 b t ps Q⟩
 refine ⟨hv, hb', e.mpr ?_⟩
 delta zYD0 zYD6 zYD5 zYD2 zYD7 zYD3 zYD4 zYD1
 unfold q4YD_12_0 q4YD_12_1
 clear e
 have hl := loop12 b t ps hps Q hq
 have hc := pcs_len ps
 refine ⟨_, rfl, splitD (fun h1 => ?_) (fun h1 => ?_)⟩
 ·have hlt : 0 < ps.length := by omega
  obtain ⟨p, e1, e2⟩ := pcs_get hlt (show 0 = 10 * 0 from rfl)
  have hp := hps p (List.mem_of_getElem? e1)
  refine ckI (by simp; omega) (ckI (by rw [Nat.ble_eq]; omega) (agP e2 ⟨p, ⟨rfl, hp, by omega, by omega⟩, ?_⟩))
  rintro c ⟨g1, g2⟩
  refine splitB (fun _ => ⟨p, ⟨rfl, hp, by omega, by omega⟩, ?_⟩) (fun _ => ?_)
  ·rintro c2 ⟨g3, g4⟩
   exact ⟨.inl ⟨(_, c2), ⟨okL_one g3 (.inl g4)⟩, rfl, rfl, rfl, rfl, rfl, rfl, trivial⟩, hl⟩
  ·exact ⟨.inl ⟨(_, c), ⟨okL_one g1 (.inr g2)⟩, rfl, rfl, rfl, rfl, rfl, rfl, trivial⟩, hl⟩
 ·refine ⟨zP, ⟨rfl, zP_ok, by omega, by omega⟩, ?_⟩
  rintro c ⟨g1, g2⟩
  refine splitB (fun _ => ⟨zP, ⟨rfl, zP_ok, by omega, by omega⟩, ?_⟩) (fun _ => ?_)
  ·rintro c2 ⟨g3, g4⟩
   exact ⟨.inl ⟨(_, c2), ⟨okL_one g3 (.inl g4)⟩, rfl, rfl, rfl, rfl, rfl, rfl, trivial⟩, hl⟩
  ·exact ⟨.inl ⟨(_, c), ⟨okL_one g1 (.inr g2)⟩, rfl, rfl, rfl, rfl, rfl, rfl, trivial⟩, hl⟩
def cComp : Con
 | [.agg [.bool b, .lst t cs n 10]], H, K => ∃ ps : List Pc, Lf (cs = cellsPcM ps ∧ n = ps.length ∧ ∀ p ∈ ps, okP p) ∧ ∀ l : List Ctl, Lf (checkM l = true ∧ (encCM l).length ≤ 1200) → K (.ret (.lst 0 (cellsCM l) l.length 13)) H
 | _, _, _ => False
theorem comp_ok : ValidF Tryd.prog glC 12 cComp := by
 refine valid_frz (enters_of (by kernel_rfl)) glC_noY 9 (nlR [13]) (wk_nlR _) fun args H Q hc => ?_
 unfold cComp at hc
 split at hc
 ·rename_i b t cs n
  obtain ⟨ps, ⟨rfl, rfl, h1⟩, hq⟩ := hc
  obtain ⟨hv, hb', h⟩ := comp_run b t ps h1 (fun o H' _ => ∃ v, o = .ret v ∧ Q (.ret (nlR [13] (frzV 0 H' 9 v))) H) (fun l hl k1 k2 v H' ho => ⟨v, rfl, by
   have hle := encC_le272 l hl.2
   have hck : checkM l = true := (check_iff l).2 ⟨⟨k1, by omega⟩, hl.1, hl.2⟩
   have := hq l ⟨hck, by omega⟩
   rw [← ho] at this
   exact this⟩)
  exact ⟨rfl, rfl, _, 1000, (envFor24 sm12_ok _ _ _ : EnvFor Tryd.prog (env_12 hv hb' ps)), rfl, h⟩
 ·exact hc.elim
end Go.Proofs.YtafchcmemeinlaaDoor

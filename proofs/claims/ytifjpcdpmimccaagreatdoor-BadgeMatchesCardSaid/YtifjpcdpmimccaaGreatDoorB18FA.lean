/-
  Chapter 18: lists of fingerprints: residual.
-/
import Derived.Test.YtifjpcdpmimccaaGreatDoorBnE
import Derived.Test.YtifjpcdpmimccaaGreatDoorBmG
set_option linter.unusedSimpArgs false
set_option linter.unusedVariables false
set_option linter.unusedSectionVars false
namespace Go.Proofs.YtifjpcdpmimccaaGreatDoor
open Go.RowKit
set_option maxRecDepth 1000000

structure Dr where
  d : List UInt8
  ky : Int
  fr : Int
  af : Int
  nu : Int
def drC (x : Dr) : List AV := [.lst 0 (ofBytes x.d) x.d.length 1, .int .u8 x.ky, .int .u16 x.fr, .int .u16 x.af, .int .u32 x.nu]
def cellsDM (l : List Dr) : List AV := (l.map drC).flatten
def okDr (x : Dr) : Prop := x.d.length ≤ 9223372036854775807 ∧ (0 ≤ x.fr ∧ x.fr ≤ 65535) ∧ (0 ≤ x.af ∧ x.af ≤ 65535) ∧ (0 ≤ x.nu ∧ x.nu ≤ 4294967295)
def cDraftA : Con
  | [.agg c], H, K => ∃ x : Dr, Lf (c = drC x ∧ okDr x) ∧ ∀ n k f u m, Lf (rightBM n k f u m = true) → K (.ret (.agg [.str n, .str k, .int .i64 f, .int .i64 u, .int .i64 m])) H
  | _, _, _ => False
theorem draftA_ok : ValidF Tryz.prog gl0 12 cDraftA := by
  refine ⟨draft_ok.1, fun args H Q hc => draft_ok.2 args H Q ?_⟩
  unfold cDraftA at hc
  split at hc
  · rename_i c
    obtain ⟨x, ⟨rfl, h1, h2, h3, h4⟩, hq⟩ := hc
    exact ⟨x.d, ⟨⟨rfl, rfl⟩, h1, h2, h3, h4⟩, hq⟩
  · exact hc.elim
def smLi : SM := lookS [(12, cDraftA), (16, cShown), (13, cEd)]
theorem smLi_ok : ∀ f g, smLi f = some g → ValidF Tryz.prog gl0 f g := lookS_ok _ (by simp only [List.mem_cons, List.not_mem_nil, or_false, forall_eq_or_imp, forall_eq]; exact ⟨draftA_ok, shown16_ok, ed_ok⟩)
def inv_27 (s : S) : List (List LInv) := match s.hp, s.tm.get 20 with
  | [b7, b8, ⟨k9, f9, _⟩], .int _ n => [[
    { α := Nat, pre := fun x => Lf (x = 0), st := fun _ => ⟨mkT [(1, s.tm.get 1), (2, s.tm.get 2), (7, s.tm.get 7), (8, s.tm.get 8), (9, s.tm.get 9), (19, s.tm.get 19), (20, s.tm.get 20), (21, .int .i64 0)], [b7, b8, ⟨k9, f9, [.nils, .nils, .nils]⟩]⟩, mu := fun _ => 1000 },
    { α := List (List UInt8) × List AV, pre := fun x => Lf (1 ≤ x.1.length ∧ (x.1.length : Int) ≤ n ∧ x.1.length ≤ 9 ∧ ∀ s ∈ x.1, s.length ≤ 200), st := fun x => ⟨mkT [(1, s.tm.get 1), (2, s.tm.get 2), (7, s.tm.get 7), (8, s.tm.get 8), (9, s.tm.get 9), (19, s.tm.get 19), (20, s.tm.get 20), (21, .int .i64 (x.1.length : Nat))],
      [b7, b8, ⟨k9, false, [.sl 4 x.1.length 0 x.1.length 1, .sl 5 x.1.length 0 x.1.length 1, .sl 6 x.1.length 0 x.1.length 1]⟩, ⟨.exact, true, x.2⟩, ⟨.grow, true, cellsSM x.1⟩, ⟨.grow, true, cellsSM x.1⟩, ⟨.grow, true, cellsSM x.1⟩]⟩, mu := fun x => 10 - x.1.length }]]
  | _, _ => []
noncomputable def env_27 (hv : Nat → Option Pa) (hb : Nat → Option Bool) : Env := { e18 smLi (fun i => bif Nat.beq i 27000 then some inv_27 else none) hv hb with hz := fun k => Nat.beq k 110629 }
theorem envFor_27 (hv : Nat → Option Pa) (hb : Nat → Option Bool) : EnvFor Tryz.prog (env_27 hv hb) := ⟨mixed18, names18, tabA_ok, smLi_ok⟩
noncomputable def goal_27 (hv : Nat → Option Pa) (hb : Nat → Option Bool) (l : List Dr) (own c : List UInt8) (at' a b : Int) (Q : Out → List Blk → Gh → Prop) : Prop :=
  callx (env_27 hv hb) (wpx (env_27 hv hb) 1000) 27 [.lst 0 (cellsDM l) l.length 5, .str own, .int .u8 at', .agg [.int .u8 a, .int .u8 b, .str c]] [] {} Q
theorem vc_27 (l : List Dr) (own : List UInt8) (c : List UInt8) (at' : Int) (a : Int) (b : Int) (Q : Out → List Blk → Gh → Prop) : goal_27 (lookV [(110609, .int .i64), (110610, .int .i64), (110612, .int .i64), (110633, .int .i64), (110636,
 .int .i64), (110642, .int .i64), (110644, .int .i64), (110650, .int .i64), (110652, .int .i64)]) (lookB [(1110600192, false)]) l own c at' a b Q = (exI .i64 (l.length : Int) fun n_0 => exI .i64 (imin n_0 9) fun n_1 => ckQ (decide (0 ≤ n_1)
 && true && Nat.ble n_1.toNat l.length && true) (exI .i64 ((n_1.toNat - 0 : Nat) : Int) fun n_2 => ((∃ x_3 : Nat, Lf (x_3 = 0) ∧ eqqQ [AV.int .u8 a, .int .u8 b, .str c] ∧ eqqQ [AV.nils, .nils, .nils] ∧ eqqQ [AV.nils, .nils, .nils] ∧ eqqQ
 (AV.str own) ∧ eqqQ (AV.ptr 0 3 0) ∧ eqqQ (AV.lst 0 (((cellsDM l).drop 0).take ((n_1.toNat - 0) * 5)) (n_1.toNat - 0) 5) ∧ eqqQ (AV.ptr 2 3 0) ∧ eqqQ (AV.int .i64 0) ∧ eqqQ (AV.int .u8 at') ∧ eqqQ (AV.ptr 1 3 0) ∧ eqqQ (AV.int .i64 n_2) ∧
 True) ∨ ∃ x_3 : List (List UInt8) × List AV, Lf (1 ≤ x_3.1.length ∧ (x_3.1.length : Int) ≤ n_2 ∧ x_3.1.length ≤ 9 ∧ ∀ s_4 : List UInt8, Membership.mem x_3.1 s_4 → s_4.length ≤ 200) ∧ eqqQ [AV.int .u8 a, .int .u8 b, .str c] ∧ eqqQ [AV.nils,
 .nils, .nils] ∧ False) ∧ (∀ x_3 : Nat, Lf (x_3 = 0) → bif decide (0 < n_2) then ckQ (Nat.blt 0 (n_1.toNat - 0) && true) (ckQ (Nat.ble 5 (((cellsDM l).drop 0).take ((n_1.toNat - 0) * 5)).length) (ckQ (Nat.beq (((((cellsDM l).drop 0).take
 ((n_1.toNat - 0) * 5)).drop 0).take 5).length 5 && oneL (((((cellsDM l).drop 0).take ((n_1.toNat - 0) * 5)).drop 0).take 5) && true) (ckQ (Nat.beq (setRange [.nils, .int .u8 0, .int .u16 0, .int .u16 0, .int .u32 0] 0 (((((cellsDM l).drop
 0).take ((n_1.toNat - 0) * 5)).drop 0).take 5)).length 5 && true) (∃ x_4 : Dr, Lf (((setRange [.nils, .int .u8 0, .int .u16 0, .int .u16 0, .int .u32 0] 0 (((((cellsDM l).drop 0).take ((n_1.toNat - 0) * 5)).drop 0).take 5)).drop 0).take 5
 = [AV.lst 0 (ofBytes x_4.1) x_4.1.length 1, .int .u8 x_4.2, .int .u16 x_4.3, .int .u16 x_4.4, .int .u32 x_4.5] ∧ okDr x_4) ∧ ∀ n_5 k_6 : List UInt8, ∀ f_7 u_8 m_9 : Int, Lf (rightBM n_5 k_6 f_7 u_8 m_9 = true) → Lf (k_6.length ≤ 1000000) ∧
 ∀ x_10 : List UInt8, Lf (x_10 = shownM k_6) → exI .i64 1 fun n_11 => (True ∧ (0 : Nat) = (0 : Nat)) ∧ ((∃ y_12 : Nat, Lf (y_12 = 0) ∧ (1000 : Nat) < (1000 : Nat) ∧ eqqQ [AV.int .u8 a, .int .u8 b, .str c] ∧ eqqQ [AV.nils, .nils, .nils] ∧
 False) ∨ ∃ y_12 : List (List UInt8) × List AV, Lf (1 ≤ y_12.1.length ∧ (y_12.1.length : Int) ≤ n_2 ∧ y_12.1.length ≤ 9 ∧ ∀ s_13 : List UInt8, Membership.mem y_12.1 s_13 → s_13.length ≤ 200) ∧ 10 - y_12.1.length < 1000 ∧ eqqQ [AV.int .u8 a,
 .int .u8 b, .str c] ∧ eqqQ [AV.nils, .nils, .nils] ∧ [AV.sl 4 1 0 1 1, .sl 5 1 0 1 1, .sl 6 1 0 1 1] = [AV.sl 4 y_12.1.length 0 y_12.1.length 1, .sl 5 y_12.1.length 0 y_12.1.length 1, .sl 6 y_12.1.length 0 y_12.1.length 1] ∧ ckQ (oldL 0
 (((((cellsDM l).drop 0).take ((n_1.toNat - 0) * 5)).drop 0).take 5) == true) (setRange [.nils, .int .u8 0, .int .u16 0, .int .u16 0, .int .u32 0] 0 (((((cellsDM l).drop 0).take ((n_1.toNat - 0) * 5)).drop 0).take 5) = y_12.2 ∧ [AV.str
 x_10] = cellsSM y_12.1 ∧ [AV.str x_10] = cellsSM y_12.1 ∧ [AV.str x_10] = cellsSM y_12.1 ∧ eqqQ (AV.str own) ∧ eqqQ (AV.ptr 0 3 0) ∧ eqqQ (AV.lst 0 (((cellsDM l).drop 0).take ((n_1.toNat - 0) * 5)) (n_1.toNat - 0) 5) ∧ eqqQ (AV.ptr 2 3 0)
 ∧ AV.int .i64 n_11 = AV.int .i64 (y_12.1.length : Int) ∧ eqqQ (AV.int .u8 at') ∧ eqqQ (AV.ptr 1 3 0) ∧ eqqQ (AV.int .i64 n_2) ∧ True)))))) else exI .i64 0 fun n_4 => bif decide (n_4 > 0) then exW .i64 at' fun n_5 => ckQ (n_4 != 0 && true)
 (exI .i64 (n_5.tmod n_4) fun n_6 => False) else Q (.ret (.agg [.nils, .nils, .nils])) [] {}) ∧ ∀ x_3 : List (List UInt8) × List AV, Lf (1 ≤ x_3.1.length ∧ (x_3.1.length : Int) ≤ n_2 ∧ x_3.1.length ≤ 9 ∧ ∀ s_4 : List UInt8, Membership.mem
 x_3.1 s_4 → s_4.length ≤ 200) → bif decide ((x_3.1.length : Int) < n_2) then ckQ (Nat.blt (x_3.1.length : Int).toNat (n_1.toNat - 0) && true) (ckQ (Nat.ble ((x_3.1.length : Int).toNat * 5 + 5) (((cellsDM l).drop 0).take ((n_1.toNat - 0) *
 5)).length) (ckQ (Nat.beq (((((cellsDM l).drop 0).take ((n_1.toNat - 0) * 5)).drop ((x_3.1.length : Int).toNat * 5)).take 5).length 5 && oneL (((((cellsDM l).drop 0).take ((n_1.toNat - 0) * 5)).drop ((x_3.1.length : Int).toNat * 5)).take
 5) && true) (ckQ (Nat.beq (setRange [.nils, .int .u8 0, .int .u16 0, .int .u16 0, .int .u32 0] 0 (((((cellsDM l).drop 0).take ((n_1.toNat - 0) * 5)).drop ((x_3.1.length : Int).toNat * 5)).take 5)).length 5 && true) (∃ x_4 : Dr, Lf
 (((setRange [.nils, .int .u8 0, .int .u16 0, .int .u16 0, .int .u32 0] 0 (((((cellsDM l).drop 0).take ((n_1.toNat - 0) * 5)).drop ((x_3.1.length : Int).toNat * 5)).take 5)).drop 0).take 5 = [AV.lst 0 (ofBytes x_4.1) x_4.1.length 1, .int
 .u8 x_4.2, .int .u16 x_4.3, .int .u16 x_4.4, .int .u32 x_4.5] ∧ okDr x_4) ∧ ∀ n_5 k_6 : List UInt8, ∀ f_7 u_8 m_9 : Int, Lf (rightBM n_5 k_6 f_7 u_8 m_9 = true) → Lf (k_6.length ≤ 1000000) ∧ ∀ x_10 : List UInt8, Lf (x_10 = shownM k_6) →
 ckQ (Nat.beq (cellsSM x_3.1).length x_3.1.length && true && Nat.beq (0 + x_3.1.length * 1) x_3.1.length && Nat.ble (x_3.1.length + 1) 1099511627776 && Nat.ble ((x_3.1.length + 1) * 16) 1099511627776) (ckQ (Nat.beq (cellsSM x_3.1).length
 x_3.1.length && true && Nat.beq (0 + x_3.1.length * 1) x_3.1.length && Nat.ble (x_3.1.length + 1) 1099511627776 && Nat.ble ((x_3.1.length + 1) * 16) 1099511627776) (ckQ (Nat.beq (cellsSM x_3.1).length x_3.1.length && true && Nat.beq (0 +
 x_3.1.length * 1) x_3.1.length && Nat.ble (x_3.1.length + 1) 1099511627776 && Nat.ble ((x_3.1.length + 1) * 16) 1099511627776) (exW .i64 ((x_3.1.length : Int) + 1) fun n_11 => (True ∧ (0 : Nat) = (0 : Nat)) ∧ ((∃ y_12 : Nat, Lf (y_12 = 0)
 ∧ 1000 < 10 - x_3.1.length ∧ eqqQ [AV.int .u8 a, .int .u8 b, .str c] ∧ eqqQ [AV.nils, .nils, .nils] ∧ False) ∨ ∃ y_12 : List (List UInt8) × List AV, Lf (1 ≤ y_12.1.length ∧ (y_12.1.length : Int) ≤ n_2 ∧ y_12.1.length ≤ 9 ∧ ∀ s_13 : List
 UInt8, Membership.mem y_12.1 s_13 → s_13.length ≤ 200) ∧ 10 - y_12.1.length < 10 - x_3.1.length ∧ eqqQ [AV.int .u8 a, .int .u8 b, .str c] ∧ eqqQ [AV.nils, .nils, .nils] ∧ [AV.sl 4 (x_3.1.length + 1) 0 (x_3.1.length + 1) 1, .sl 5
 (x_3.1.length + 1) 0 (x_3.1.length + 1) 1, .sl 6 (x_3.1.length + 1) 0 (x_3.1.length + 1) 1] = [AV.sl 4 y_12.1.length 0 y_12.1.length 1, .sl 5 y_12.1.length 0 y_12.1.length 1, .sl 6 y_12.1.length 0 y_12.1.length 1] ∧ x_3.2 = y_12.2 ∧
 cellsSM x_3.1 ++ [AV.str x_10] = cellsSM y_12.1 ∧ cellsSM x_3.1 ++ [AV.str x_10] = cellsSM y_12.1 ∧ cellsSM x_3.1 ++ [AV.str x_10] = cellsSM y_12.1 ∧ eqqQ (AV.str own) ∧ eqqQ (AV.ptr 0 3 0) ∧ eqqQ (AV.lst 0 (((cellsDM l).drop 0).take
 ((n_1.toNat - 0) * 5)) (n_1.toNat - 0) 5) ∧ eqqQ (AV.ptr 2 3 0) ∧ AV.int .i64 n_11 = AV.int .i64 (y_12.1.length : Int) ∧ eqqQ (AV.int .u8 at') ∧ eqqQ (AV.ptr 1 3 0) ∧ eqqQ (AV.int .i64 n_2) ∧ True)))))))) else ckQ (Nat.beq (cellsSM
 x_3.1).length x_3.1.length) (exI .i64 (x_3.1.length : Int) fun n_4 => bif decide (n_4 > 0) then exW .i64 at' fun n_5 => ckQ (n_4 != 0 && true) (exI .i64 (n_5.tmod n_4) fun n_6 => ckQ (decide (0 ≤ n_6) && Nat.blt n_6.toNat x_3.1.length &&
 Nat.beq (cellsSM x_3.1).length x_3.1.length && true) (ckQ (Nat.beq (cellsSM x_3.1).length x_3.1.length && Nat.ble (0 + n_6.toNat * 1 + 1) x_3.1.length && true && true && true) (exW .i64 at' fun n_7 => ckQ (n_4 != 0 && true) (exI .i64
 (n_7.tmod n_4) fun n_8 => Lf ((0 ≤ a ∧ a ≤ 255) ∧ (0 ≤ b ∧ b ≤ 255) ∧ own.length ≤ 1000000) ∧ ∀ x_9 : List UInt8, Lf (x_9 = edM a b c own) → ckQ (eqAVL [.sl 6 x_3.1.length 0 x_3.1.length 1] [.sl 6 x_3.1.length 0 x_3.1.length 1] && true)
 (ckQ (decide (0 ≤ n_8) && Nat.blt n_8.toNat x_3.1.length && Nat.beq (cellsSM x_3.1).length x_3.1.length && true) (ckQ (Nat.beq (cellsSM x_3.1).length x_3.1.length && Nat.ble (0 + n_8.toNat * 1 + 1) x_3.1.length && true && true && true) (Q
 (.ret (.agg [.sl 4 x_3.1.length 0 x_3.1.length 1, .sl 5 x_3.1.length 0 x_3.1.length 1, .sl 6 x_3.1.length 0 x_3.1.length 1])) [Blk.mk BK.exact true [.int .u8 a, .int .u8 b, .str c], Blk.mk BK.exact false [.sl 4 x_3.1.length 0 x_3.1.length
 1, .sl 5 x_3.1.length 0 x_3.1.length 1, .sl 6 x_3.1.length 0 x_3.1.length 1], Blk.mk BK.exact false [.sl 4 x_3.1.length 0 x_3.1.length 1, .sl 5 x_3.1.length 0 x_3.1.length 1, .sl 6 x_3.1.length 0 x_3.1.length 1], Blk.mk BK.exact true
 x_3.2, Blk.mk BK.grow true (cellsSM x_3.1), Blk.mk BK.grow true (setRange (cellsSM x_3.1) (0 + n_6.toNat * 1) [.str own]), Blk.mk BK.grow true (setRange (cellsSM x_3.1) (0 + n_8.toNat * 1) [.str x_9])] {}))))))) else Q (.ret (.agg [.sl 4
 x_3.1.length 0 x_3.1.length 1, .sl 5 x_3.1.length 0 x_3.1.length 1, .sl 6 x_3.1.length 0 x_3.1.length 1])) [Blk.mk BK.exact true [.int .u8 a, .int .u8 b, .str c], Blk.mk BK.exact false [.sl 4 x_3.1.length 0 x_3.1.length 1, .sl 5
 x_3.1.length 0 x_3.1.length 1, .sl 6 x_3.1.length 0 x_3.1.length 1], Blk.mk BK.exact false [.sl 4 x_3.1.length 0 x_3.1.length 1, .sl 5 x_3.1.length 0 x_3.1.length 1, .sl 6 x_3.1.length 0 x_3.1.length 1], Blk.mk BK.exact true x_3.2, Blk.mk
 BK.grow true (cellsSM x_3.1), Blk.mk BK.grow true (cellsSM x_3.1), Blk.mk BK.grow true (cellsSM x_3.1)] {}))) := by kernel_rfl

end Go.Proofs.YtifjpcdpmimccaaGreatDoor

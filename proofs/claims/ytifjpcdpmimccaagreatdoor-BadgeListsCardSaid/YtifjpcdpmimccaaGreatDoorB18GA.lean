/-
  Chapter 18: slices.Index; BadgeLists: residuals.
-/
import Derived.Test.YtifjpcdpmimccaaGreatDoorB18FB
import Derived.Test.YtifjpcdpmimccaaGreatDoorB18LI
import Derived.Test.YtifjpcdpmimccaaGreatDoorB18LP
import Derived.Test.YtifjpcdpmimccaaGreatDoorBmG
set_option linter.unusedSimpArgs false
set_option linter.unusedVariables false
set_option linter.unusedSectionVars false
namespace Go.Proofs.YtifjpcdpmimccaaGreatDoor
open Go.RowKit
set_option maxRecDepth 1000000

noncomputable def env_36 (hv : Nat → Option Pa) (hb : Nat → Option Bool) (l : List (List UInt8)) : Env := e18 sm0 (fun i => bif Nat.beq i 36000 then some (inv_36 l) else none) hv hb
noncomputable def goal_36 (hv : Nat → Option Pa) (hb : Nat → Option Bool) (tg : Nat) (l : List (List UInt8)) (x : List UInt8) (Q : Out → List Blk → Gh → Prop) : Prop :=
 callx (env_36 hv hb l) (wpx (env_36 hv hb l) 1000) 36 [.lst tg (cellsSM l) l.length 1, .str x] [] {} Q
theorem vc_36 (tg : Nat) (l : List (List UInt8)) (x : List UInt8) (Q : Out → List Blk → Gh → Prop) : goal_36 (lookV [(147463, .int .i64), (147466, .int .i64), (147471, .str), (147474, .int .i64)]) (lookB []) tg l x Q = (exI .i64 (l.length :
 Int) fun n_0 => (∃ x_1 : Nat, Lf (x_1 ≤ l.length ∧ ∀ j_2 : Nat, j_2 < x_1 → eqB x (l.getD j_2 []) = false) ∧ eqqQ (AV.lst tg (cellsSM l) l.length 1) ∧ eqqQ (AV.str x) ∧ eqqQ (AV.int .i64 n_0) ∧ AV.int .i64 0 = AV.int .i64 (x_1 : Int) ∧
 True) ∧ ∀ x_1 : Nat, Lf (x_1 ≤ l.length ∧ ∀ j_2 : Nat, j_2 < x_1 → eqB x (l.getD j_2 []) = false) → bif decide ((x_1 : Int) < n_0) then exI .i64 (x_1 : Int) fun n_2 => ckQ (decide (0 ≤ n_2) && Nat.blt n_2.toNat l.length && true) (ckQ
 (Nat.blt (n_2.toNat * 1) (cellsSM l).length) (exS ((cellsSM l).getD (n_2.toNat * 1) AV.undef) fun s_3 => bif eqB x s_3 then Q (.ret (.int .i64 n_2)) [] {} else exW .i64 ((x_1 : Int) + 1) fun n_4 => (True ∧ (0 : Nat) = (0 : Nat)) ∧ ∃ y_5 :
 Nat, Lf (y_5 ≤ l.length ∧ ∀ j_6 : Nat, j_6 < y_5 → eqB x (l.getD j_6 []) = false) ∧ l.length - y_5 < l.length - x_1 ∧ eqqQ (AV.lst tg (cellsSM l) l.length 1) ∧ eqqQ (AV.str x) ∧ eqqQ (AV.int .i64 n_0) ∧ AV.int .i64 n_4 = AV.int .i64 (y_5 :
 Int) ∧ True)) else Q (.ret (.int .i64 (-1))) [] {}) := by kernel_rfl

def idxLM (l : List (List UInt8)) (s : List UInt8) : Int := match l.findIdx? (fun x => eqB s x) with | some i => ((i : Nat) : Int) | none => -1
theorem index_run (tg : Nat) (l : List (List UInt8)) (x : List UInt8) (hl : l.length ≤ 100000) (Q : Out → List Blk → Gh → Prop) (hq : ∀ g, Q (.ret (.int .i64 (idxLM l x))) [] g) : ∃ hv hb, goal_36 hv hb tg l x Q := by
 obtain ⟨hv', hb', e'⟩ : ∃ hv hb, goal_36 hv hb tg l x Q = _ := ⟨_, _, vc_36 tg l x Q⟩
 refine ⟨hv', hb', e'.mpr ?_⟩
 clear e'
 refine ⟨_, rfl, ⟨0, ⟨by omega, fun j hj => by omega⟩, rfl, rfl, rfl, rfl, trivial⟩, ?_⟩
 rintro i ⟨i1, i2⟩
 refine splitD (fun h3 => ⟨_, rfl, ckI (by rw [Bool.and_true]; exact idxOk (by omega) (by omega)) (ckI (by rw [cellsS_len, Nat.blt_eq]; omega) (getS (by omega) (by omega : (Int.toNat (i : Int)) * 1 = i) ?_))⟩) (fun h3 => ?_)
 ·have hi : i < l.length := by omega
  show (bif eqB x l[i] then _ else _)
  cases he : eqB x l[i] with
  | true =>
   rw [cond_true]
   have hf : l.findIdx? (fun s => eqB x s) = some i := List.findIdx?_eq_some_iff_getElem.2 ⟨hi, he, fun j hj => by
    have := i2 j hj
    rw [getD_of (by omega)] at this
    exact fun h => by
     have h' : eqB x l[j] = true := h
     rw [this] at h'
     cases h'⟩
   have := hq (Gh.mk 0 0 [])
   rwa [idxLM, hf] at this
  | false =>
   refine wrapI (by omega) (by omega) ⟨⟨trivial, rfl⟩, i + 1, ⟨by omega, fun j hj => ?_⟩, by omega, rfl, rfl, rfl, rfl, trivial⟩
   rcases Nat.lt_or_ge j i with g | g
   ·exact i2 j g
   ·obtain rfl : j = i := by omega
    rw [getD_of hi]; exact he
 ·have hf : l.findIdx? (fun s => eqB x s) = none := List.findIdx?_eq_none_iff.2 fun s hs => by
   obtain ⟨j, hj, rfl⟩ := List.getElem_of_mem hs
   have := i2 j (by omega)
   rwa [getD_of hj] at this
  have := hq (Gh.mk 0 0 [])
  rwa [idxLM, hf] at this
def cIdx36 : Con
 | [.lst _ ss c 1, .str x], H, K => ∃ l : List (List UInt8), Lf ((ss = cellsSM l ∧ c = l.length) ∧ l.length ≤ 100000) ∧ ∀ i, Lf (i = idxLM l x) → K (.ret (.int .i64 i)) H
 | _, _, _ => False
theorem idx36_ok : ValidF Tryz.prog gl0 36 cIdx36 := by
 refine valid_flat (enters_of (by kernel_rfl)) gl0_noY fun args H Q hc => ?_
 unfold cIdx36 at hc
 split at hc
 ·rename_i tg ss c x
  obtain ⟨l, ⟨⟨rfl, rfl⟩, h1⟩, hq⟩ := hc
  obtain ⟨hv, hb', h⟩ := index_run tg l x h1 (Q := fun o H' _ => H' = [] ∧ (∃ v, o = .ret v ∧ old 0 v = true ∧ noY v = true) ∧ Q o H) (fun _ => ⟨rfl, ⟨_, rfl, rfl, rfl⟩, hq _ ⟨rfl⟩⟩)
  exact ⟨by simp only [oldL, old, Bool.and_self], rfl, _, 1000, ⟨mixed18, names18, tabA_ok, sm0_ok⟩, rfl, h⟩
 ·exact hc.elim
def cIdx36V : Con := fun args H Q => lendL [1, 0] H args fun a => cIdx36 a H Q
theorem idx36V_ok : ValidF Tryz.prog gl0 36 cIdx36V := valid_view idx36_ok gl0_noY [1, 0] fun args H Q hc => by
 unfold cIdx36 at hc
 split at hc
 ·obtain ⟨l, h, hq⟩ := hc
  exact ⟨l, h, fun i hx => ⟨rfl, ⟨_, rfl, rfl⟩, hq i hx⟩⟩
 ·exact hc.elim
theorem insC_ok : ValidF Tryz.prog gl0 37 cIns := ins_ok Tryz.laysNm222 (enters_of (by kernel_rfl))
def smLs : SM := lookS [(10, cWakes), (12, cDraftA), (23, cPrt), (28, cMatchV), (30, cAccV), (36, cIdx36V), (37, cIns)]
theorem smLs_ok : ∀ f g, smLs f = some g → ValidF Tryz.prog gl0 f g := lookS_ok _ (by simp only [List.mem_cons, List.not_mem_nil, or_false, forall_eq_or_imp, forall_eq]; exact ⟨wakes_ok, draftA_ok, prt_ok, matchV_ok, accV_ok, idx36V_ok, insC_ok⟩)
def inv_9 (s : S) : List (List LInv) := match s.hp, s.tm.get 39 with
 | [b0, b1, b2], .int _ n => [[
  { α := Nat, pre := fun x => Lf (x = 0), st := fun _ => ⟨mkT [(2, s.tm.get 2), (7, s.tm.get 7), (9, s.tm.get 9), (10, s.tm.get 10), (11, s.tm.get 11), (12, .nils), (38, s.tm.get 38), (39, s.tm.get 39), (40, .int .i64 0)], [b0, b1, b2]⟩, mu := fun _ => 1000 },
  { α := List (List UInt8) × List AV, pre := fun x => Lf (1 ≤ x.1.length ∧ (x.1.length : Int) ≤ n ∧ x.1.length ≤ 7 ∧ ∀ s ∈ x.1, fingM s = true ∧ s.length = 103), st := fun x => ⟨mkT [(2, s.tm.get 2), (7, s.tm.get 7), (9, s.tm.get 9), (10, s.tm.get 10), (11, s.tm.get 11), (12, .sl 4 x.1.length 0 x.1.length 1), (38, s.tm.get 38), (39, s.tm.get 39), (40, .int .i64 (x.1.length : Nat))],
   [b0, b1, b2, ⟨.exact, true, x.2⟩, ⟨.grow, true, cellsSM x.1⟩]⟩, mu := fun x => 10 - x.1.length }]]
 | _, _ => []
noncomputable def env_9 (hv : Nat → Option Pa) (hb : Nat → Option Bool) : Env := { e18 smLs (fun i => bif Nat.beq i 9000 then some inv_9 else none) hv hb with hz := fun k => Nat.beq k 36918 }
theorem envFor_9 (hv : Nat → Option Pa) (hb : Nat → Option Bool) : EnvFor Tryz.prog (env_9 hv hb) := ⟨mixed18, names18, tabA_ok, smLs_ok⟩
noncomputable def goal_9 (hv : Nat → Option Pa) (hb : Nat → Option Bool) (d : List UInt8) (ky fr af nu : Int) (l : List Dr) (at' a b : Int) (Q : Out → List Blk → Gh → Prop) : Prop :=
 callx (env_9 hv hb) (wpx (env_9 hv hb) 1000) 9 [.agg [.lst 0 (ofBytes d) d.length 1, .int .u8 ky, .int .u16 fr, .int .u16 af, .int .u32 nu], .lst 0 (cellsDM l) l.length 5, .int .u8 at', .agg [.int .u16 a, .int .u16 b]] [] {} Q
def leafLs (e_35 : Int) (n_29 : Int) (n_31 : Int) (f_3 : Int) (u_4 : Int) (Q : Out → List Blk → Gh → Prop) : Prop :=
bif e_35 == 0 then exW .i64 (n_29 + n_31) fun n_38 => exW .i64 (n_38.tdiv 2) fun n_39 => bif decide (n_39 ≥ f_3) then exW .i64 (n_29 + n_31) fun n_40 => exW .i64 (n_40.tdiv 2) fun n_41 => bif decide (n_41 ≤ u_4)
 then Q (.ret (.bool true)) [] {} else Q (.ret (.bool false)) [] {} else Q (.ret (.bool false)) [] {} else exW .i64 (n_29 + n_31) fun n_38 => exW .i64 (n_38.tdiv 2) fun n_39 => bif decide (n_39 ≥ f_3) then exW
 IntKind.i64 (n_29 + n_31) fun n_40 => exW .i64 (n_40.tdiv 2) fun n_41 => bif decide (n_41 ≤ u_4) then Q (.ret (.bool false)) [] {} else Q (.ret (.bool true)) [] {} else Q (.ret (.bool true)) [] {}
def lfLs (d : List UInt8) (ky : Int) (fr : Int) (af : Int) (nu : Int) (a : Int) (b : Int) (n_1 : List UInt8) (k_2 : List UInt8) (f_3 : Int) (u_4 : Int) (m_5 : Int) (x_11 : List (List UInt8) × List AV) (s_6 : List UInt8) (k_17 : Nat) (l_16 : List (List UInt8)) (l_18 : List (List UInt8)) : Prop :=
Lf ((List.map (fun (x_19 : AV) => frzV 1 [Blk.mk BK.exact true [.lst 0 (ofBytes d) d.length 1, .int .u8 ky, .int .u16 fr, .int .u16 af, .int .u32 nu], Blk.mk BK.exact true [.int .u16 a, .int
 IntKind.u16 b], Blk.mk BK.exact true [.str n_1, .str k_2, .int .i64 f_3, .int .i64 u_4, .int .i64 m_5], Blk.mk BK.exact true x_11.2, Blk.mk BK.grow true (cellsSM x_11.1), Blk.mk BK.exact true [.str
 s_6], Blk.mk BK.exact true [], Blk.mk BK.grow true (cellsSM (l_16.take k_17 ++ s_6 :: l_16.drop k_17))] 8 x_19) (((cellsSM (l_16.take k_17 ++ s_6 :: l_16.drop k_17)).drop 0).take ((l_16.length + 1) * 1)) = cellsSM l_18 ∧
 l_16.length + 1 = l_18.length) ∧ n_1.length ≤ 9223372036854775807 ∧ ∀ s_19 : List UInt8, Membership.mem l_18 s_19 → s_19.length ≤ 9223372036854775807)
def tailLs (a : Int) (b : Int) (k_17 : Nat) (l_16 : List (List UInt8)) (s_6 : List UInt8) (d : List UInt8) (ky : Int) (fr : Int) (af : Int) (nu : Int) (n_1 : List UInt8) (k_2 : List UInt8) (f_3 : Int) (u_4 : Int) (m_5 : Int) (x_11 : List
 (List UInt8) × List AV) (Q : Out → List Blk → Gh → Prop) : Prop :=
exI .u16 (imin a b) (fun n_30 => exW .i64 n_30 (fun n_31 => exI .u16 (imax a b) (fun n_32 => exW .i64 n_32 (fun n_33 => exW .i64 (n_31 + n_33) (fun n_34 => exW .i64 (n_34.tdiv 2) (fun n_35 => ckQ
 (Nat.beq (cellsSM (l_16.take k_17 ++ s_6 :: l_16.drop k_17)).length (l_16.length + 1) && Nat.ble (0 + (l_16.length + 1) * 1) (l_16.length + 1) && true) (∃ l_36 : List (List UInt8), lfLs d ky fr af nu a b n_1 k_2 f_3 u_4 m_5 x_11 s_6 k_17
 l_16 l_36 ∧ ∀ e_37 : Int, Lf (e_37 = accM n_1 k_2 f_3 u_4 m_5 l_36 n_35) → ckQ (Nat.beq (cellsSM (l_16.take k_17 ++ s_6 :: l_16.drop k_17)).length (l_16.length + 1) && Nat.ble (0 + (l_16.length + 1) * 1) (l_16.length + 1) && true) (∃ l_38
 : List (List UInt8), lfLs d ky fr af nu a b n_1 k_2 f_3 u_4 m_5 x_11 s_6 k_17 l_16 l_38 ∧ ∀ e_39 : Int, Lf (e_39 = accM n_1 k_2 f_3 u_4 m_5 l_38 n_31) → bif e_39 != 0 then leafLs e_37 n_31 n_33 f_3 u_4 Q else ckQ (Nat.beq (cellsSM
 (l_16.take k_17 ++ s_6 :: l_16.drop k_17)).length (l_16.length + 1) && Nat.ble (0 + (l_16.length + 1) * 1) (l_16.length + 1) && true) (∃ l_40 : List (List UInt8), lfLs d ky fr af nu a b n_1 k_2 f_3 u_4 m_5 x_11 s_6 k_17 l_16 l_40 ∧ ∀ e_41
 : Int, Lf (e_41 = accM n_1 k_2 f_3 u_4 m_5 l_40 n_33) → bif e_41 != 0 then leafLs e_37 n_31 n_33 f_3 u_4 Q else bif e_37 == 0 then leafLs e_37 n_31 n_33 f_3 u_4 Q else Q (.ret (.bool false)) [] {})))))))))
def tailNs (a : Int) (b : Int) (s_6 : List UInt8) (n_1 : List UInt8) (k_2 : List UInt8) (f_3 : Int) (u_4 : Int) (m_5 : Int) (Q : Out → List Blk → Gh → Prop) : Prop :=
exI .u16 (imin a b) (fun n_28 => exW .i64 n_28 (fun n_29 => exI .u16 (imax a b) (fun n_30 => exW .i64 n_30 (fun n_31 => exW .i64 (n_29 + n_31) (fun n_32 => exW .i64 (n_32.tdiv 2) (fun n_33 => ∃ l_34
 : List (List UInt8), Lf (([AV.str s_6] = cellsSM l_34 ∧ 1 = l_34.length) ∧ n_1.length ≤ 9223372036854775807 ∧ ∀ s_35 : List UInt8, Membership.mem l_34 s_35 → s_35.length ≤ 9223372036854775807) ∧ ∀ e_35 : Int, Lf (e_35 = accM n_1 k_2 f_3
 u_4 m_5 l_34 n_33) → ∃ l_36 : List (List UInt8), Lf (([AV.str s_6] = cellsSM l_36 ∧ 1 = l_36.length) ∧ n_1.length ≤ 9223372036854775807 ∧ ∀ s_37 : List UInt8, Membership.mem l_36 s_37 → s_37.length ≤ 9223372036854775807) ∧ ∀ e_37 : Int, Lf
 (e_37 = accM n_1 k_2 f_3 u_4 m_5 l_36 n_29) → bif e_37 != 0 then leafLs e_35 n_29 n_31 f_3 u_4 Q else ∃ l_38 : List (List UInt8), Lf (([AV.str s_6] = cellsSM l_38 ∧ 1 = l_38.length) ∧ n_1.length ≤ 9223372036854775807 ∧ ∀ s_39 : List UInt8,
 Membership.mem l_38 s_39 → s_39.length ≤ 9223372036854775807) ∧ ∀ e_39 : Int, Lf (e_39 = accM n_1 k_2 f_3 u_4 m_5 l_38 n_31) → bif e_39 != 0 then leafLs e_35 n_29 n_31 f_3 u_4 Q else bif e_35 == 0 then leafLs e_35 n_29 n_31 f_3 u_4 Q else
 Q (.ret (.bool false)) [] {}))))))
theorem vc_9 (d : List UInt8) (ky : Int) (fr : Int) (af : Int) (nu : Int) (l : List Dr) (at' : Int) (a : Int) (b : Int) (Q : Out → List Blk → Gh → Prop) : goal_9 (lookV [(36900, .int .i64), (36901, .int .i64), (36903, .int .i64), (36924,
 .int .i64), (36928, .int .i64), (36975, .int .u16), (36976, .int .i64), (36981, .int .u16), (36982, .int .i64), (36987, .int .i64), (36988, .int .i64), (37011, .int .i64), (37012, .int .i64), (37019, .int .i64), (37020, .int .i64), (36920,
 .int .i64), (36926, .int .i64), (36927, .int .i64)]) (lookB [(159742, false)]) d ky fr af nu l at' a b Q = (∃ x_0 : Dr, Lf ([AV.lst 0 (ofBytes d) d.length 1, .int .u8 ky, .int .u16 fr, .int .u16 af, .int .u32
 nu] = [AV.lst 0 (ofBytes x_0.1) x_0.1.length 1, .int .u8 x_0.2, .int .u16 x_0.3, .int .u16 x_0.4, .int .u32 x_0.5] ∧ okDr x_0) ∧ ∀ n_1 k_2 : List UInt8, ∀ f_3 u_4 m_5 : Int, Lf (rightBM n_1 k_2 f_3 u_4 m_5 =
 true) → Lf (n_1.length ≤ 9223372036854775807) ∧ ∀ s_6 : List UInt8, ∀ e_7 : Int, Lf (prtM n_1 k_2 f_3 u_4 m_5 = Prod.mk s_6 e_7) → exI .i64 (l.length : Int) (fun n_8 => exI .i64 (imin n_8 7) (fun n_9 => ckQ (decide (0 ≤ n_9)
 && true && Nat.ble n_9.toNat l.length && true) (exI .i64 ((n_9.toNat - 0 : Nat) : Int) (fun n_10 => ((∃ x_11 : Nat, Lf (x_11 = 0) ∧ eqqQ [AV.lst 0 (ofBytes d) d.length 1, .int .u8 ky, .int .u16 fr, .int .u16 af,
 .int .u32 nu] ∧ eqqQ [AV.int .u16 a, .int .u16 b] ∧ eqqQ [AV.str n_1, .str k_2, .int .i64 f_3, .int .i64 u_4, .int .i64 m_5] ∧ eqqQ (AV.ptr 1 2 0) ∧ eqqQ (AV.int .i64 n_10) ∧ eqqQ (AV.int .i64 e_7) ∧ eqqQ
 (AV.ptr 2 5 0) ∧ eqqQ (AV.int .u8 at') ∧ eqqQ (AV.int .i64 0) ∧ AV.nils = AV.nils ∧ eqqQ (AV.str s_6) ∧ eqqQ (AV.lst 0 (((cellsDM l).drop 0).take ((n_9.toNat - 0) * 5)) (n_9.toNat - 0) 5) ∧ True) ∨ ∃ x_11 : List (List UInt8) × List AV, Lf
 (1 ≤ x_11.1.length ∧ (x_11.1.length : Int) ≤ n_10 ∧ x_11.1.length ≤ 7 ∧ ∀ s_12 : List UInt8, Membership.mem x_11.1 s_12 → fingM s_12 = true ∧ s_12.length = 103) ∧ eqqQ [AV.lst 0 (ofBytes d) d.length 1, .int .u8 ky, .int .u16
 fr, .int .u16 af, .int .u32 nu] ∧ eqqQ [AV.int .u16 a, .int .u16 b] ∧ eqqQ [AV.str n_1, .str k_2, .int .i64 f_3, .int .i64 u_4, .int .i64 m_5] ∧ False) ∧ (∀ x_11 : Nat, Lf (x_11 = 0) → bif decide
 (0 < n_10) then ckQ (Nat.blt 0 (n_9.toNat - 0) && true) (ckQ (Nat.ble 5 (((cellsDM l).drop 0).take ((n_9.toNat - 0) * 5)).length) (ckQ (Nat.beq (((((cellsDM l).drop 0).take ((n_9.toNat - 0) * 5)).drop 0).take 5).length 5 && oneL
 (((((cellsDM l).drop 0).take ((n_9.toNat - 0) * 5)).drop 0).take 5) && true) (ckQ (Nat.beq (setRange [.nils, .int .u8 0, .int .u16 0, .int .u16 0, .int .u32 0] 0 (((((cellsDM l).drop 0).take ((n_9.toNat - 0) *
 5)).drop 0).take 5)).length 5 && true) (∃ x_12 : Dr, Lf (((setRange [.nils, .int .u8 0, .int .u16 0, .int .u16 0, .int .u32 0] 0 (((((cellsDM l).drop 0).take ((n_9.toNat - 0) * 5)).drop 0).take 5)).drop 0).take
 5 = [AV.lst 0 (ofBytes x_12.1) x_12.1.length 1, .int .u8 x_12.2, .int .u16 x_12.3, .int .u16 x_12.4, .int .u32 x_12.5] ∧ okDr x_12) ∧ ∀ n_13 k_14 : List UInt8, ∀ f_15 u_16 m_17 : Int, Lf (rightBM n_13 k_14 f_15
 u_16 m_17 = true) → Lf (n_13.length ≤ 9223372036854775807) ∧ ∀ s_18 : List UInt8, ∀ e_19 : Int, Lf (prtM n_13 k_14 f_15 u_16 m_17 = Prod.mk s_18 e_19) → bif e_19 != 0 then Q (.ret (.bool false)) [] {} else exI .i64 1 (fun n_20 =>
 (True ∧ (0 : Nat) = (0 : Nat)) ∧ ((∃ y_21 : Nat, Lf (y_21 = 0) ∧ (1000 : Nat) < (1000 : Nat) ∧ eqqQ [AV.lst 0 (ofBytes d) d.length 1, .int .u8 ky, .int .u16 fr, .int .u16 af, .int .u32 nu] ∧ eqqQ [AV.int .u16 a,
 .int .u16 b] ∧ eqqQ [AV.str n_1, .str k_2, .int .i64 f_3, .int .i64 u_4, .int .i64 m_5] ∧ False) ∨ ∃ y_21 : List (List UInt8) × List AV, Lf (1 ≤ y_21.1.length ∧ (y_21.1.length : Int) ≤ n_10 ∧ y_21.1.length ≤ 7 ∧
 ∀ s_22 : List UInt8, Membership.mem y_21.1 s_22 → fingM s_22 = true ∧ s_22.length = 103) ∧ 10 - y_21.1.length < 1000 ∧ eqqQ [AV.lst 0 (ofBytes d) d.length 1, .int .u8 ky, .int .u16 fr, .int .u16 af, .int .u32
 nu] ∧ eqqQ [AV.int .u16 a, .int .u16 b] ∧ eqqQ [AV.str n_1, .str k_2, .int .i64 f_3, .int .i64 u_4, .int .i64 m_5] ∧ ckQ (oldL 0 (((((cellsDM l).drop 0).take ((n_9.toNat - 0) * 5)).drop 0).take 5) == true)
 (setRange [.nils, .int .u8 0, .int .u16 0, .int .u16 0, .int .u32 0] 0 (((((cellsDM l).drop 0).take ((n_9.toNat - 0) * 5)).drop 0).take 5) = y_21.2 ∧ [AV.str s_18] = cellsSM y_21.1 ∧ eqqQ (AV.ptr 1 2 0) ∧ eqqQ
 (AV.int .i64 n_10) ∧ eqqQ (AV.int .i64 e_7) ∧ eqqQ (AV.ptr 2 5 0) ∧ eqqQ (AV.int .u8 at') ∧ AV.int .i64 n_20 = AV.int .i64 (y_21.1.length : Int) ∧ AV.sl 4 1 0 1 1 = AV.sl 4 y_21.1.length 0 y_21.1.length 1 ∧ eqqQ (AV.str s_6) ∧ eqqQ (AV.lst
 0 (((cellsDM l).drop 0).take ((n_9.toNat - 0) * 5)) (n_9.toNat - 0) 5) ∧ True))))))) else exW .i64 at' (fun n_12 => exI .i64 0 (fun n_13 => exW .i64 (n_13 + 1) (fun n_14 => ckQ (n_14 != 0 && true) (exI .i64
 (n_12.tmod n_14) (fun n_15 => ckQ (eqAVL [.str s_6] [.str s_6]) (Lf (n_15 = 0 ∧ ((1 : Nat) = (1 : Nat) ∧ (0 : Nat) = (0 : Nat) ∧ (1 : Nat) = (1 : Nat) ∧ (1 : Nat) = (1 : Nat)) ∧ Nat.blt 3 (List.length [Blk.mk BK.exact true [.lst 0 (ofBytes
 d) d.length 1, .int .u8 ky, .int .u16 fr, .int .u16 af, .int .u32 nu], Blk.mk BK.exact true [.int .u16 a, .int .u16 b], Blk.mk BK.exact true [.str n_1, .str k_2, .int .i64 f_3, .int
 IntKind.i64 u_4, .int .i64 m_5], Blk.mk BK.exact true [.str s_6]]) = true) ∧ ∃ l_16 : List (List UInt8), Lf (([AV.str s_6] = cellsSM l_16 ∧ 1 = l_16.length) ∧ n_1.length ≤ 9223372036854775807 ∧ ∀ s_17 : List UInt8, Membership.mem
 l_16 s_17 → s_17.length ≤ 9223372036854775807) ∧ ∀ i_17 e_18 : Int, Lf (matchM n_1 k_2 f_3 u_4 m_5 l_16 = Prod.mk i_17 e_18) → ∃ l_19 : List (List UInt8), Lf ((([] : List AV) = cellsSM l_19 ∧ 0 = l_19.length) ∧ n_1.length ≤
 9223372036854775807 ∧ ∀ s_20 : List UInt8, Membership.mem l_19 s_20 → s_20.length ≤ 9223372036854775807) ∧ ∀ i_20 e_21 : Int, Lf (matchM n_1 k_2 f_3 u_4 m_5 l_19 = Prod.mk i_20 e_21) → bif e_7 != 0 then Q (.ret (.bool false)) [] {} else
 bif e_18 != 0 then Q (.ret (.bool false)) [] {} else ∃ l_22 : List (List UInt8), Lf (([AV.str s_6] = cellsSM l_22 ∧ 1 = l_22.length) ∧ l_22.length ≤ 100000) ∧ ∀ i_23 : Int, Lf (i_23 = idxLM l_22 s_6) → bif i_17 != i_23 then Q (.ret (.bool
 false)) [] {} else ∃ l_24 : List (List UInt8), Lf ((([] : List AV) = cellsSM l_24 ∧ 0 = l_24.length) ∧ l_24.length ≤ 100000) ∧ ∀ i_25 : Int, Lf (i_25 = idxLM l_24 s_6) → bif decide (i_25 ≥ 0) then bif e_21 != 0 then Q (.ret (.bool false))
 [] {} else ∃ l_26 : List (List UInt8), Lf ((([] : List AV) = cellsSM l_26 ∧ 0 = l_26.length) ∧ l_26.length ≤ 100000) ∧ ∀ i_27 : Int, Lf (i_27 = idxLM l_26 s_6) → bif i_20 != i_27 then Q (.ret (.bool false)) [] {} else tailNs a b s_6 n_1
 k_2 f_3 u_4 m_5 Q else bif e_21 != 4 then Q (.ret (.bool false)) [] {} else tailNs a b s_6 n_1 k_2 f_3 u_4 m_5 Q))))))) ∧ ∀ x_11 : List (List UInt8) × List AV, Lf (1 ≤ x_11.1.length ∧ (x_11.1.length : Int) ≤ n_10 ∧ x_11.1.length ≤ 7 ∧ ∀
 s_12 : List UInt8, Membership.mem x_11.1 s_12 → fingM s_12 = true ∧ s_12.length = 103) → bif decide ((x_11.1.length : Int) < n_10) then ckQ (Nat.blt (x_11.1.length : Int).toNat (n_9.toNat - 0) && true) (ckQ (Nat.ble ((x_11.1.length :
 Int).toNat * 5 + 5) (((cellsDM l).drop 0).take ((n_9.toNat - 0) * 5)).length) (ckQ (Nat.beq (((((cellsDM l).drop 0).take ((n_9.toNat - 0) * 5)).drop ((x_11.1.length : Int).toNat * 5)).take 5).length 5 && oneL (((((cellsDM l).drop 0).take
 ((n_9.toNat - 0) * 5)).drop ((x_11.1.length : Int).toNat * 5)).take 5) && true) (ckQ (Nat.beq (setRange [.nils, .int .u8 0, .int .u16 0, .int .u16 0, .int .u32 0] 0 (((((cellsDM l).drop 0).take ((n_9.toNat - 0)
 * 5)).drop ((x_11.1.length : Int).toNat * 5)).take 5)).length 5 && true) (∃ x_12 : Dr, Lf (((setRange [.nils, .int .u8 0, .int .u16 0, .int .u16 0, .int .u32 0] 0 (((((cellsDM l).drop 0).take ((n_9.toNat - 0) *
 5)).drop ((x_11.1.length : Int).toNat * 5)).take 5)).drop 0).take 5 = [AV.lst 0 (ofBytes x_12.1) x_12.1.length 1, .int .u8 x_12.2, .int .u16 x_12.3, .int .u16 x_12.4, .int .u32 x_12.5] ∧ okDr x_12) ∧ ∀ n_13 k_14
 : List UInt8, ∀ f_15 u_16 m_17 : Int, Lf (rightBM n_13 k_14 f_15 u_16 m_17 = true) → Lf (n_13.length ≤ 9223372036854775807) ∧ ∀ s_18 : List UInt8, ∀ e_19 : Int, Lf (prtM n_13 k_14 f_15 u_16 m_17 = Prod.mk s_18 e_19) → bif e_19 != 0 then Q
 (.ret (.bool false)) [] {} else ckQ (Nat.beq (cellsSM x_11.1).length x_11.1.length && true && Nat.beq (0 + x_11.1.length * 1) x_11.1.length && Nat.ble (x_11.1.length + 1) 1099511627776 && Nat.ble ((x_11.1.length + 1) * 16) 1099511627776)
 (exW .i64 ((x_11.1.length : Int) + 1) (fun n_20 => (True ∧ (0 : Nat) = (0 : Nat)) ∧ ((∃ y_21 : Nat, Lf (y_21 = 0) ∧ 1000 < 10 - x_11.1.length ∧ eqqQ [AV.lst 0 (ofBytes d) d.length 1, .int .u8 ky, .int .u16 fr, .int
 IntKind.u16 af, .int .u32 nu] ∧ eqqQ [AV.int .u16 a, .int .u16 b] ∧ eqqQ [AV.str n_1, .str k_2, .int .i64 f_3, .int .i64 u_4, .int .i64 m_5] ∧ False) ∨ ∃ y_21 : List (List UInt8) × List AV, Lf (1 ≤
 y_21.1.length ∧ (y_21.1.length : Int) ≤ n_10 ∧ y_21.1.length ≤ 7 ∧ ∀ s_22 : List UInt8, Membership.mem y_21.1 s_22 → fingM s_22 = true ∧ s_22.length = 103) ∧ 10 - y_21.1.length < 10 - x_11.1.length ∧ eqqQ [AV.lst 0 (ofBytes d) d.length 1,
 .int .u8 ky, .int .u16 fr, .int .u16 af, .int .u32 nu] ∧ eqqQ [AV.int .u16 a, .int .u16 b] ∧ eqqQ [AV.str n_1, .str k_2, .int .i64 f_3, .int .i64 u_4, .int .i64 m_5] ∧ x_11.2 = y_21.2
 ∧ cellsSM x_11.1 ++ [AV.str s_18] = cellsSM y_21.1 ∧ eqqQ (AV.ptr 1 2 0) ∧ eqqQ (AV.int .i64 n_10) ∧ eqqQ (AV.int .i64 e_7) ∧ eqqQ (AV.ptr 2 5 0) ∧ eqqQ (AV.int .u8 at') ∧ AV.int .i64 n_20 = AV.int .i64 (y_21.1.length : Int) ∧ AV.sl 4
 (x_11.1.length + 1) 0 (x_11.1.length + 1) 1 = AV.sl 4 y_21.1.length 0 y_21.1.length 1 ∧ eqqQ (AV.str s_6) ∧ eqqQ (AV.lst 0 (((cellsDM l).drop 0).take ((n_9.toNat - 0) * 5)) (n_9.toNat - 0) 5) ∧ True))))))) else exW .i64 at' (fun
 n_12 => ckQ (Nat.beq (cellsSM x_11.1).length x_11.1.length) (exI .i64 (x_11.1.length : Int) (fun n_13 => exW .i64 (n_13 + 1) (fun n_14 => ckQ (n_14 != 0 && true) (exI .i64 (n_12.tmod n_14) (fun n_15 => ckQ (Nat.beq
 (cellsSM x_11.1).length x_11.1.length && true) (ckQ (Nat.beq (cellsSM x_11.1).length x_11.1.length && true && Nat.ble (0 + x_11.1.length * 1) x_11.1.length && oneL (((cellsSM x_11.1).drop 0).take (x_11.1.length * 1)) && true && Nat.ble
 (x_11.1.length * 16) 1099511627776) (bif Nat.beq x_11.1.length 0 then ckQ (Nat.beq x_11.1.length 0) (ckQ (eqAVL [.str s_6] [.str s_6]) (ckQ (Option.some (cellsSM x_11.1).length == Option.some (cellsSM x_11.1).length) False)) else ckQ
 (Nat.blt 0 x_11.1.length) (ckQ (Nat.ble (0 + x_11.1.length) 1099511627776 && Nat.ble ((0 + x_11.1.length) * 16) 1099511627776) (ckQ (eqAVL [.str s_6] [.str s_6]) (ckQ (Option.some (cellsSM x_11.1).length == Option.some (cellsSM
 x_11.1).length) (∃ l_16 : List (List UInt8), ∃ k_17 : Nat, Lf ([] ++ ((cellsSM x_11.1).drop 0).take (x_11.1.length * 1) = cellsSM l_16 ∧ 0 + (((cellsSM x_11.1).drop 0).take (x_11.1.length * 1)).length = l_16.length ∧ (0 : Nat) = (0 : Nat)
 ∧ 0 + x_11.1.length = l_16.length ∧ (1 : Nat) = (1 : Nat) ∧ ((1 : Nat) = (1 : Nat) ∧ (0 : Nat) = (0 : Nat) ∧ (1 : Nat) = (1 : Nat) ∧ (1 : Nat) = (1 : Nat)) ∧ n_15 = (k_17 : Int) ∧ k_17 ≤ l_16.length ∧ 1 ≤ l_16.length ∧ l_16.length ≤ 100000
 ∧ Nat.blt 7 (List.length [Blk.mk BK.exact true [.lst 0 (ofBytes d) d.length 1, .int .u8 ky, .int .u16 fr, .int .u16 af, .int .u32 nu], Blk.mk BK.exact true [.int .u16 a, .int .u16 b], Blk.mk
 BK.exact true [.str n_1, .str k_2, .int .i64 f_3, .int .i64 u_4, .int .i64 m_5], Blk.mk BK.exact true x_11.2, Blk.mk BK.grow true (cellsSM x_11.1), Blk.mk BK.exact true [.str s_6], Blk.mk BK.exact true [], Blk.mk
 BK.grow (oldL 0 ([] ++ ((cellsSM x_11.1).drop 0).take (x_11.1.length * 1))) ([] ++ ((cellsSM x_11.1).drop 0).take (x_11.1.length * 1))]) = true ∧ Nat.blt 5 (List.length [Blk.mk BK.exact true [.lst 0 (ofBytes d) d.length 1, .int .u8
 ky, .int .u16 fr, .int .u16 af, .int .u32 nu], Blk.mk BK.exact true [.int .u16 a, .int .u16 b], Blk.mk BK.exact true [.str n_1, .str k_2, .int .i64 f_3, .int .i64 u_4, .int .i64 m_5],
 Blk.mk BK.exact true x_11.2, Blk.mk BK.grow true (cellsSM x_11.1), Blk.mk BK.exact true [.str s_6], Blk.mk BK.exact true [], Blk.mk BK.grow (oldL 0 ([] ++ ((cellsSM x_11.1).drop 0).take (x_11.1.length * 1))) ([] ++ ((cellsSM x_11.1).drop
 0).take (x_11.1.length * 1))]) = true) ∧ ckQ (Nat.beq (cellsSM (l_16.take k_17 ++ s_6 :: l_16.drop k_17)).length (l_16.length + 1) && Nat.ble (0 + (l_16.length + 1) * 1) (l_16.length + 1) && true) (∃ l_18 : List (List UInt8), lfLs d ky fr
 af nu a b n_1 k_2 f_3 u_4 m_5 x_11 s_6 k_17 l_16 l_18 ∧ ∀ i_19 e_20 : Int, Lf (matchM n_1 k_2 f_3 u_4 m_5 l_18 = Prod.mk i_19 e_20) → ckQ (Nat.beq (cellsSM x_11.1).length x_11.1.length && Nat.ble (0 + x_11.1.length * 1) x_11.1.length &&
 true) (∃ l_21 : List (List UInt8), Lf ((List.map (fun (x_22 : AV) => frzV 1 [Blk.mk BK.exact true [.lst 0 (ofBytes d) d.length 1, .int .u8 ky, .int .u16 fr, .int .u16 af, .int .u32 nu], Blk.mk BK.exact true
 [.int .u16 a, .int .u16 b], Blk.mk BK.exact true [.str n_1, .str k_2, .int .i64 f_3, .int .i64 u_4, .int .i64 m_5], Blk.mk BK.exact true x_11.2, Blk.mk BK.grow true (cellsSM x_11.1), Blk.mk BK.exact true
 [.str s_6], Blk.mk BK.exact true [], Blk.mk BK.grow true (cellsSM (l_16.take k_17 ++ s_6 :: l_16.drop k_17))] 8 x_22) (((cellsSM x_11.1).drop 0).take (x_11.1.length * 1)) = cellsSM l_21 ∧ x_11.1.length = l_21.length) ∧ n_1.length ≤
 9223372036854775807 ∧ ∀ s_22 : List UInt8, Membership.mem l_21 s_22 → s_22.length ≤ 9223372036854775807) ∧ ∀ i_22 e_23 : Int, Lf (matchM n_1 k_2 f_3 u_4 m_5 l_21 = Prod.mk i_22 e_23) → bif e_7 != 0 then Q (.ret (.bool false)) [] {} else
 bif e_20 != 0 then Q (.ret (.bool false)) [] {} else ckQ (Nat.beq (cellsSM (l_16.take k_17 ++ s_6 :: l_16.drop k_17)).length (l_16.length + 1) && Nat.ble (0 + (l_16.length + 1) * 1) (l_16.length + 1) && true) (∃ l_24 : List (List UInt8),
 Lf ((List.map (fun (x_25 : AV) => frzV 1 [Blk.mk BK.exact true [.lst 0 (ofBytes d) d.length 1, .int .u8 ky, .int .u16 fr, .int .u16 af, .int .u32 nu], Blk.mk BK.exact true [.int .u16 a, .int .u16
 b], Blk.mk BK.exact true [.str n_1, .str k_2, .int .i64 f_3, .int .i64 u_4, .int .i64 m_5], Blk.mk BK.exact true x_11.2, Blk.mk BK.grow true (cellsSM x_11.1), Blk.mk BK.exact true [.str s_6], Blk.mk BK.exact true [],
 Blk.mk BK.grow true (cellsSM (l_16.take k_17 ++ s_6 :: l_16.drop k_17))] 8 x_25) (((cellsSM (l_16.take k_17 ++ s_6 :: l_16.drop k_17)).drop 0).take ((l_16.length + 1) * 1)) = cellsSM l_24 ∧ l_16.length + 1 = l_24.length) ∧ l_24.length ≤
 100000) ∧ ∀ i_25 : Int, Lf (i_25 = idxLM l_24 s_6) → bif i_19 != i_25 then Q (.ret (.bool false)) [] {} else ckQ (Nat.beq (cellsSM x_11.1).length x_11.1.length && Nat.ble (0 + x_11.1.length * 1) x_11.1.length && true) (∃ l_26 : List (List
 UInt8), Lf ((List.map (fun (x_27 : AV) => frzV 1 [Blk.mk BK.exact true [.lst 0 (ofBytes d) d.length 1, .int .u8 ky, .int .u16 fr, .int .u16 af, .int .u32 nu], Blk.mk BK.exact true [.int .u16 a, .int
 IntKind.u16 b], Blk.mk BK.exact true [.str n_1, .str k_2, .int .i64 f_3, .int .i64 u_4, .int .i64 m_5], Blk.mk BK.exact true x_11.2, Blk.mk BK.grow true (cellsSM x_11.1), Blk.mk BK.exact true [.str s_6], Blk.mk
 BK.exact true [], Blk.mk BK.grow true (cellsSM (l_16.take k_17 ++ s_6 :: l_16.drop k_17))] 8 x_27) (((cellsSM x_11.1).drop 0).take (x_11.1.length * 1)) = cellsSM l_26 ∧ x_11.1.length = l_26.length) ∧ l_26.length ≤ 100000) ∧ ∀ i_27 : Int,
 Lf (i_27 = idxLM l_26 s_6) → bif decide (i_27 ≥ 0) then bif e_23 != 0 then Q (.ret (.bool false)) [] {} else ckQ (Nat.beq (cellsSM x_11.1).length x_11.1.length && Nat.ble (0 + x_11.1.length * 1) x_11.1.length && true) (∃ l_28 : List (List
 UInt8), Lf ((List.map (fun (x_29 : AV) => frzV 1 [Blk.mk BK.exact true [.lst 0 (ofBytes d) d.length 1, .int .u8 ky, .int .u16 fr, .int .u16 af, .int .u32 nu], Blk.mk BK.exact true [.int .u16 a, .int
 IntKind.u16 b], Blk.mk BK.exact true [.str n_1, .str k_2, .int .i64 f_3, .int .i64 u_4, .int .i64 m_5], Blk.mk BK.exact true x_11.2, Blk.mk BK.grow true (cellsSM x_11.1), Blk.mk BK.exact true [.str s_6], Blk.mk
 BK.exact true [], Blk.mk BK.grow true (cellsSM (l_16.take k_17 ++ s_6 :: l_16.drop k_17))] 8 x_29) (((cellsSM x_11.1).drop 0).take (x_11.1.length * 1)) = cellsSM l_28 ∧ x_11.1.length = l_28.length) ∧ l_28.length ≤ 100000) ∧ ∀ i_29 : Int,
 Lf (i_29 = idxLM l_28 s_6) → bif i_22 != i_29 then Q (.ret (.bool false)) [] {} else tailLs a b k_17 l_16 s_6 d ky fr af nu n_1 k_2 f_3 u_4 m_5 x_11 Q) else bif e_23 != 4 then Q (.ret (.bool false)) [] {} else tailLs a b k_17 l_16 s_6 d ky
 fr af nu n_1 k_2 f_3 u_4 m_5 x_11 Q))))))))))))))))))))) := by kernel_rfl

end Go.Proofs.YtifjpcdpmimccaaGreatDoor

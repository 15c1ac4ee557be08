/-
  Chapter 18: the reference's Print, Match, Accept: residuals.
-/
import Derived.Test.YtifjpcdpmimccaaGreatDoorB18DO
import Derived.Test.YtifjpcdpmimccaaGreatDoorBmH
import Derived.Test.YtifjpcdpmimccaaGreatDoorBmB
import Derived.Test.YtifjpcdpmimccaaGreatDoorBnI
set_option linter.unusedSimpArgs false
set_option linter.unusedVariables false
set_option linter.unusedSectionVars false
namespace Go.Proofs.YtifjpcdpmimccaaGreatDoor
open Go.RowKit
set_option maxRecDepth 1000000

def smPr : SM := lookS [(59, cTable), (11, cOctB), (58, cSum58), (16, cShown)]
theorem smPr_ok : ∀ f g, smPr f = some g → ValidF Tryz.prog gl0 f g := lookS_ok _ (by simp only [List.mem_cons, List.not_mem_nil, or_false, forall_eq_or_imp, forall_eq]; exact ⟨table_ok, octB_ok, sum58_ok, shown16_ok⟩)
noncomputable def goal_26 (hv : Nat → Option Pa) (hb : Nat → Option Bool) (n k : List UInt8) (f u m : Int) (Q : Out → List Blk → Gh → Prop) : Prop :=
  callx (e18 smPr (fun _ => none) hv hb) (wpx (e18 smPr (fun _ => none) hv hb) 1000) 26 [.agg (bdg n k f u m)] [] {} Q
theorem vc_26 (n : List UInt8) (k : List UInt8) (f : Int) (u : Int) (m : Int) (Q : Out → List Blk → Gh → Prop) : goal_26 (lookV []) (lookB []) n k f u m Q = (
(bif ((eqAVL ((AV.str n) :: ((AV.str k) :: ((AV.int .i64 f) :: ((AV.int .i64 u) :: ((AV.int .i64 m) :: []))))) ((AV.str n) :: ((AV.str k) :: ((AV.int .i64 f) :: ((AV.int .i64 u) :: ((AV.int .i64 m) :: [])))))) && true) then ((Lf ((rightBM n k f u m) = true)) ∧
 (∀ s_0 : (List UInt8), ((Lf (s_0 = (octBM n k f u m))) →
((Lf (((cells6M startM) = (cells6M startM)) ∧
 (((cells6M kkM) = (cells6M kkM)) ∧
 ((List.length s_0) ≤ (100000 : Nat))))) ∧
 (∀ x_1 : (List UInt8), ((Lf (x_1 = (sumSM s_0))) →
((Lf ((List.length x_1) ≤ (1000000 : Nat))) ∧
 (∀ x_2 : (List UInt8), ((Lf (x_2 = (shownM x_1))) →
(Q (Out.ret (AV.str x_2)) [] (Gh.mk (0 : Nat) (0 : Nat) [])))))))))))
else False)) := by kernel_rfl

def cRPrint : Con
  | [.agg [.str n, .str k, .int .i64 f, .int .i64 u, .int .i64 m]], H, K => Lf (rightBM n k f u m = true) ∧ ∀ s, Lf (s = shB n k f u m) → K (.ret (.str s)) H
  | _, _, _ => False
def smMa : SM := lookS [(25, cRightB), (18, cVal18), (26, cRPrint)]
def inv_29a (l : List (List UInt8)) (s : S) : List (List LInv) := [[{ α := Nat, pre := fun i => Lf (i ≤ l.length ∧ ∀ j, j < i → fingM (l.getD j []) = true), st := fun i => ⟨mkT [(1, s.tm.get 1), (2, s.tm.get 2), (6, .int .i64 (i : Nat))], s.hp⟩, mu := fun i => l.length - i }]]
def inv_29b (l : List (List UInt8)) (s : S) : List (List LInv) := match s.tm.get 7 with
  | .str x => [[{ α := Nat, pre := fun i => Lf (i ≤ l.length ∧ ∀ j, j < i → eqB (l.getD j []) x = false), st := fun i => ⟨mkT [(1, s.tm.get 1), (7, .str x), (8, .int .i64 (i : Nat))], s.hp⟩, mu := fun i => l.length - i }]]
  | _ => []
noncomputable def env_29 (hv : Nat → Option Pa) (hb : Nat → Option Bool) (l : List (List UInt8)) : Env := e18 smMa (fun i => bif Nat.beq i 29000 then some (inv_29a l) else bif Nat.beq i 29002 then some (inv_29b l) else none) hv hb
noncomputable def goal_29 (hv : Nat → Option Pa) (hb : Nat → Option Bool) (tg : Nat) (l : List (List UInt8)) (n k : List UInt8) (f u m : Int) (Q : Out → List Blk → Gh → Prop) : Prop :=
  callx (env_29 hv hb l) (wpx (env_29 hv hb l) 1000) 29 [.agg (bdg n k f u m), .lst tg (cellsSM l) l.length 1] [] {} Q
theorem vc_29 (tg : Nat) (l : List (List UInt8)) (n : List UInt8) (k : List UInt8) (f : Int) (u : Int) (m : Int) (Q : Out → List Blk → Gh → Prop) : goal_29 (lookV [(118797, .int .i64), (118799, .int .i64), (118801, .int .i64), (118806, .int
 .i64), (118808, .str), (118803, .int .i64), (118804, .int .i64), (118813, .int .i64), (118815, .int .i64), (118820, .int .i64), (118822, .str), (118825, .int .i64), (118817, .int .i64), (118818, .int .i64)]) (lookB []) tg l n k f u m Q =
 (∀ b_0 : Bool, Lf (b_0 = rightBM n k f u m) → bif b_0 then exI .i64 (l.length : Int) fun n_1 => bif decide (n_1 > 8) then Q (.ret (.tup [.int .i64 0, .int .i64 3])) [] {} else (∃ x_2 : Nat, Lf (x_2 ≤ l.length ∧ ∀ j_3 : Nat, j_3 < x_2 →
 fingM (l.getD j_3 []) = true) ∧ eqqQ [AV.str n, .str k, .int .i64 f, .int .i64 u, .int .i64 m] ∧ eqqQ (AV.lst tg (cellsSM l) l.length 1) ∧ eqqQ (AV.ptr 0 5 0) ∧ AV.int .i64 0 = AV.int .i64 (x_2 : Int) ∧ True) ∧ ∀ x_2 : Nat, Lf (x_2 ≤
 l.length ∧ ∀ j_3 : Nat, j_3 < x_2 → fingM (l.getD j_3 []) = true) → exI .i64 (x_2 : Int) fun n_3 => exI .i64 (l.length : Int) fun n_4 => bif decide (n_3 < n_4) then exI .i64 (x_2 : Int) fun n_5 => ckQ (decide (0 ≤ n_5) && Nat.blt n_5.toNat
 l.length && true) (ckQ (Nat.blt (n_5.toNat * 1) (cellsSM l).length) (exS ((cellsSM l).getD (n_5.toNat * 1) AV.undef) fun s_6 => Lf (s_6.length ≤ 1000000) ∧ ∀ b_7 : Bool, Lf (b_7 = fingM s_6) → bif b_7 then exI .i64 (x_2 : Int) fun n_8 =>
 exW .i64 (n_8 + 1) fun n_9 => (True ∧ (0 : Nat) = (0 : Nat)) ∧ ∃ y_10 : Nat, Lf (y_10 ≤ l.length ∧ ∀ j_11 : Nat, j_11 < y_10 → fingM (l.getD j_11 []) = true) ∧ l.length - y_10 < l.length - x_2 ∧ eqqQ [AV.str n, .str k, .int .i64 f, .int
 .i64 u, .int .i64 m] ∧ eqqQ (AV.lst tg (cellsSM l) l.length 1) ∧ eqqQ (AV.ptr 0 5 0) ∧ AV.int .i64 n_9 = AV.int .i64 (y_10 : Int) ∧ True else Q (.ret (.tup [.int .i64 0, .int .i64 5])) [] {})) else Lf (rightBM n k f u m = true) ∧ ∀ s_5 :
 List UInt8, Lf (s_5 = shB n k f u m) → (∃ x_6 : Nat, Lf (x_6 ≤ l.length ∧ ∀ j_7 : Nat, j_7 < x_6 → eqB (l.getD j_7 []) s_5 = false) ∧ eqqQ [AV.str n, .str k, .int .i64 f, .int .i64 u, .int .i64 m] ∧ eqqQ (AV.lst tg (cellsSM l) l.length 1)
 ∧ eqqQ (AV.str s_5) ∧ AV.int .i64 0 = AV.int .i64 (x_6 : Int) ∧ True) ∧ ∀ x_6 : Nat, Lf (x_6 ≤ l.length ∧ ∀ j_7 : Nat, j_7 < x_6 → eqB (l.getD j_7 []) s_5 = false) → exI .i64 (x_6 : Int) fun n_7 => exI .i64 (l.length : Int) fun n_8 => bif
 decide (n_7 < n_8) then exI .i64 (x_6 : Int) fun n_9 => ckQ (decide (0 ≤ n_9) && Nat.blt n_9.toNat l.length && true) (ckQ (Nat.blt (n_9.toNat * 1) (cellsSM l).length) (exS ((cellsSM l).getD (n_9.toNat * 1) AV.undef) fun s_10 => bif eqB
 s_10 s_5 then exI .i64 (x_6 : Int) fun n_11 => Q (.ret (.tup [.int .i64 n_11, .int .i64 0])) [] {} else exI .i64 (x_6 : Int) fun n_11 => exW .i64 (n_11 + 1) fun n_12 => (True ∧ (0 : Nat) = (0 : Nat)) ∧ ∃ y_13 : Nat, Lf (y_13 ≤ l.length ∧ ∀
 j_14 : Nat, j_14 < y_13 → eqB (l.getD j_14 []) s_5 = false) ∧ l.length - y_13 < l.length - x_6 ∧ eqqQ [AV.str n, .str k, .int .i64 f, .int .i64 u, .int .i64 m] ∧ eqqQ (AV.lst tg (cellsSM l) l.length 1) ∧ eqqQ (AV.str s_5) ∧ AV.int .i64
 n_12 = AV.int .i64 (y_13 : Int) ∧ True)) else Q (.ret (.tup [.int .i64 0, .int .i64 4])) [] {} else Q (.ret (.tup [.int .i64 0, .int .i64 180])) [] {}) := by kernel_rfl

def cRMatch : Con
  | [.agg [.str n, .str k, .int .i64 f, .int .i64 u, .int .i64 m], .lst _ ss c 1], H, K => ∃ l : List (List UInt8), Lf ((ss = cellsSM l ∧ c = l.length) ∧ ∀ s ∈ l, s.length ≤ 1000000) ∧ ∀ i e, Lf (matchM n k f u m l = (i, e)) → K (.ret (.tup [.int .i64 i, .int .i64 e])) H
  | _, _, _ => False
def smRa : SM := lookS [(29, cRMatch)]
noncomputable def goal_31 (hv : Nat → Option Pa) (hb : Nat → Option Bool) (tg : Nat) (l : List (List UInt8)) (n k : List UInt8) (f u m t : Int) (Q : Out → List Blk → Gh → Prop) : Prop :=
  callx (e18 smRa (fun _ => none) hv hb) (wpx (e18 smRa (fun _ => none) hv hb) 1000) 31 [.agg (bdg n k f u m), .lst tg (cellsSM l) l.length 1, .int .i64 t] [] {} Q
theorem vc_31 (tg : Nat) (l : List (List UInt8)) (n : List UInt8) (k : List UInt8) (f : Int) (u : Int) (m : Int) (t : Int) (Q : Out → List Blk → Gh → Prop) : goal_31 (lookV []) (lookB []) tg l n k f u m t Q = (
(∃ l_0 : (List (List UInt8)), ((Lf ((((cellsSM l) = (cellsSM l_0)) ∧
 ((List.length l) = (List.length l_0))) ∧
 (∀ s_1 : (List UInt8), ((Membership.mem l_0 s_1) →
((List.length s_1) ≤ (1000000 : Nat)))))) ∧
 (∀ i_1 : Int, (∀ e_2 : Int, ((Lf ((matchM n k f u m l_0) = (Prod.mk i_1 e_2))) →
(bif (e_2 != (0 : Int)) then (Q (Out.ret (AV.int .i64 e_2)) [] (Gh.mk (0 : Nat) (0 : Nat) []))
else (bif (decide (t < (0 : Int))) then (Q (Out.ret (AV.int .i64 (2 : Int))) [] (Gh.mk (0 : Nat) (0 : Nat) []))
else (bif (decide (t > (1099511627776 : Int))) then (Q (Out.ret (AV.int .i64 (2 : Int))) [] (Gh.mk (0 : Nat) (0 : Nat) []))
else (bif (decide (t < f)) then (Q (Out.ret (AV.int .i64 (10 : Int))) [] (Gh.mk (0 : Nat) (0 : Nat) []))
else (bif (decide (t > u)) then (Q (Out.ret (AV.int .i64 (10 : Int))) [] (Gh.mk (0 : Nat) (0 : Nat) []))
else (Q (Out.ret (AV.int .i64 (0 : Int))) [] (Gh.mk (0 : Nat) (0 : Nat) []))))))))))))) := by kernel_rfl

end Go.Proofs.YtifjpcdpmimccaaGreatDoor

set_option linter.unusedSimpArgs false
set_option linter.unusedVariables false
set_option linter.unusedSectionVars false
namespace Go.Proofs.YtifjpcdpmimccaaGreatDoor
open Go.RowKit
set_option maxRecDepth 1000000

theorem eq_bdg (n k : List UInt8) (f u m : Int) : (eqAVL [AV.str n, .str k, .int .i64 f, .int .i64 u, .int .i64 m] [AV.str n, .str k, .int .i64 f, .int .i64 u, .int .i64 m] && true) = true := by
  simp [eqAVL, eqAV, eqB_refl]
theorem rprint_run (n k : List UInt8) (f u m : Int) (hr : rightBM n k f u m = true) (Q : Out → List Blk → Gh → Prop) (hq : Q (.ret (.str (shB n k f u m))) [] {}) : ∃ hv hb, goal_26 hv hb n k f u m Q := by
  obtain ⟨hv', hb', e'⟩ : ∃ hv hb, goal_26 hv hb n k f u m Q = _ := ⟨_, _, vc_26 n k f u m Q⟩
  refine ⟨hv', hb', e'.mpr ?_⟩
  clear e'
  have hn := ((name_iff n).1 ((right_iff _ _ _ _ _).1 hr).1).2.1
  have hk := ((right_iff _ _ _ _ _).1 hr).2.1
  refine ckI (eq_bdg _ _ _ _ _) ⟨⟨hr⟩, ?_⟩
  rintro s ⟨rfl⟩
  refine ⟨⟨rfl, rfl, by rw [octB_len]; omega⟩, ?_⟩
  rintro x ⟨rfl⟩
  refine ⟨⟨by rw [sumS_len]; decide⟩, ?_⟩
  rintro y ⟨rfl⟩
  exact hq
theorem rprint_ok : ValidF Tryz.prog gl0 26 cRPrint := by
  refine valid_flat (enters_of (by kernel_rfl)) gl0_noY fun args H Q hc => ?_
  unfold cRPrint at hc
  split at hc
  · rename_i n k f u m
    obtain ⟨⟨h1⟩, hq⟩ := hc
    obtain ⟨hv, hb', h⟩ := rprint_run n k f u m h1 (Q := fun o H' _ => H' = [] ∧ (∃ v, o = .ret v ∧ old 0 v = true ∧ noY v = true) ∧ Q o H) ⟨rfl, ⟨_, rfl, rfl, rfl⟩, hq _ ⟨rfl⟩⟩
    exact ⟨rfl, rfl, _, 1000, envFor18 smPr_ok _ _ _, rfl, h⟩
  · exact hc.elim
theorem smMa_ok : ∀ f g, smMa f = some g → ValidF Tryz.prog gl0 f g := lookS_ok _ (by simp only [List.mem_cons, List.not_mem_nil, or_false, forall_eq_or_imp, forall_eq]; exact ⟨right25_ok, valid18_ok, rprint_ok⟩)
theorem eqB_comm (a b : List UInt8) : eqB a b = eqB b a := by
  rw [Bool.eq_iff_iff, eqB_iff, eqB_iff, beq_iff_eq, beq_iff_eq]
  exact eq_comm
theorem rmatch_run (tg : Nat) (n k : List UInt8) (f u m : Int) (l : List (List UInt8)) (hl : ∀ s ∈ l, s.length ≤ 1000000) (Q : Out → List Blk → Gh → Prop) (hq : ∀ g, Q (.ret (.tup [.int .i64 (matchM n k f u m l).1, .int .i64 (matchM n k f u m l).2])) [] g) : ∃ hv hb, goal_29 hv hb tg l n k f u m Q := by
  obtain ⟨hv', hb', e'⟩ : ∃ hv hb, goal_29 hv hb tg l n k f u m Q = _ := ⟨_, _, vc_29 tg l n k f u m Q⟩
  refine ⟨hv', hb', e'.mpr ?_⟩
  clear e'
  rintro b ⟨hb⟩
  cases b with
  | false => have := hq {}; rwa [show matchM n k f u m l = (0, 180) by rw [matchM, ← hb]; rfl] at this
  | true =>
    have hr : rightBM n k f u m = true := hb.symm
    refine ⟨_, rfl, splitD (fun h1 => ?_) (fun h1 => ⟨⟨0, ⟨Nat.zero_le _, fun j hj => by omega⟩, rfl, rfl, rfl, rfl, trivial⟩, ?_⟩)⟩
    · have := hq {}
      rwa [show matchM n k f u m l = (0, 3) by rw [matchM, if_pos hr, if_pos (by omega)]] at this
    have h8 : ¬ 8 < l.length := by omega
    rintro i ⟨i1, i2⟩
    refine ⟨_, rfl, _, rfl, splitD (fun h3 => ?_) (fun h3 => ?_)⟩
    · have hi : i < l.length := by omega
      refine ⟨_, rfl, ckI (by rw [Bool.and_true]; exact idxOk (by omega) (by omega)) (ckI (by rw [cellsS_len, Nat.blt_eq]; omega) (getS (by omega) (by omega : (Int.toNat (i : Int)) * 1 = i) ?_))⟩
      refine ⟨⟨hl _ (List.getElem_mem hi)⟩, ?_⟩
      rintro b ⟨hb2⟩
      cases b with
      | true =>
        refine ⟨_, rfl, wrapI (by omega) (by omega) ⟨⟨trivial, rfl⟩, i + 1, ⟨by omega, fun j hj => ?_⟩, by omega, rfl, rfl, rfl, rfl, trivial⟩⟩
        rcases Nat.lt_or_ge j i with g | g
        · exact i2 j g
        · obtain rfl : j = i := by omega
          rw [getD_of hi]; exact hb2.symm
      | false =>
        have ha : ¬ l.all fingM = true := fun h => by
          rw [List.all_eq_true] at h
          have := h _ (List.getElem_mem hi)
          rw [← hb2] at this
          cases this
        have := hq {}
        rwa [show matchM n k f u m l = (0, 5) by rw [matchM, if_pos hr, if_neg h8, if_neg ha]] at this
    · have ha : l.all fingM = true := List.all_eq_true.2 fun s hs => by
        obtain ⟨j, hj, rfl⟩ := List.getElem_of_mem hs
        have := i2 j (by omega)
        rwa [getD_of hj] at this
      have hm : matchM n k f u m l = (match l.findIdx? (fun s => eqB (shB n k f u m) s) with | some i => ((i : Nat), 0) | none => (0, 4)) := by
        rw [matchM, if_pos hr, if_neg h8, if_pos ha]
        rfl
      refine ⟨⟨hr⟩, ?_⟩
      rintro x ⟨hx⟩
      rw [← hx] at hm
      refine ⟨⟨0, ⟨Nat.zero_le _, fun j hj => by omega⟩, rfl, rfl, rfl, rfl, trivial⟩, ?_⟩
      rintro i ⟨i1, i2⟩
      refine ⟨_, rfl, _, rfl, splitD (fun h3 => ?_) (fun h3 => ?_)⟩
      · have hi : i < l.length := by omega
        refine ⟨_, rfl, ckI (by rw [Bool.and_true]; exact idxOk (by omega) (by omega)) (ckI (by rw [cellsS_len, Nat.blt_eq]; omega) (getS (by omega) (by omega : (Int.toNat (i : Int)) * 1 = i) ?_))⟩
        show (bif eqB l[i] x then _ else _)
        cases he : eqB l[i] x with
        | true =>
          rw [cond_true]
          have hf : l.findIdx? (fun s => eqB x s) = some i := List.findIdx?_eq_some_iff_getElem.2 ⟨hi, by rw [eqB_comm]; exact he, fun j hj => by
            have := i2 j hj
            rw [getD_of (by omega)] at this
            exact fun h => by
              have h' : eqB x l[j] = true := h
              rw [eqB_comm, this] at h'
              cases h'⟩
          rw [hf] at hm
          refine ⟨_, rfl, ?_⟩
          have := hq {}
          rwa [hm] at this
        | false =>
          refine ⟨_, rfl, wrapI (by omega) (by omega) ⟨⟨trivial, rfl⟩, i + 1, ⟨by omega, fun j hj => ?_⟩, by omega, rfl, rfl, rfl, rfl, trivial⟩⟩
          rcases Nat.lt_or_ge j i with g | g
          · exact i2 j g
          · obtain rfl : j = i := by omega
            rw [getD_of hi]; exact he
      · have hf : l.findIdx? (fun s => eqB x s) = none := List.findIdx?_eq_none_iff.2 fun s hs => by
          obtain ⟨j, hj, rfl⟩ := List.getElem_of_mem hs
          have := i2 j (by omega)
          rw [getD_of hj] at this
          rw [eqB_comm]; exact this
        rw [hf] at hm
        have := hq {}
        rwa [hm] at this
theorem rmatch_ok : ValidF Tryz.prog gl0 29 cRMatch := by
  refine valid_flat (enters_of (by kernel_rfl)) gl0_noY fun args H Q hc => ?_
  unfold cRMatch at hc
  split at hc
  · rename_i n k f u m tg ss c
    obtain ⟨l, ⟨⟨rfl, rfl⟩, h2⟩, hq⟩ := hc
    obtain ⟨hv, hb', h⟩ := rmatch_run tg n k f u m l h2 (Q := fun o H' _ => H' = [] ∧ (∃ v, o = .ret v ∧ old 0 v = true ∧ noY v = true) ∧ Q o H) (fun _ => ⟨rfl, ⟨_, rfl, rfl, rfl⟩, hq _ _ ⟨rfl⟩⟩)
    exact ⟨by simp [oldL, old], by simp [noYL, noY], _, 1000, envFor18 smMa_ok _ _ _, rfl, h⟩
  · exact hc.elim
theorem smRa_ok : ∀ f g, smRa f = some g → ValidF Tryz.prog gl0 f g := lookS_ok _ (by simp only [List.mem_cons, List.not_mem_nil, or_false, forall_eq]; exact rmatch_ok)
theorem racc_run (tg : Nat) (l : List (List UInt8)) (n k : List UInt8) (f u m t : Int) (hl : ∀ s ∈ l, s.length ≤ 1000000) (Q : Out → List Blk → Gh → Prop) (hq : ∀ g, Q (.ret (.int .i64 (accM n k f u m l t))) [] g) : ∃ hv hb, goal_31 hv hb tg l n k f u m t Q := by
  obtain ⟨hv', hb', e'⟩ : ∃ hv hb, goal_31 hv hb tg l n k f u m t Q = _ := ⟨_, _, vc_31 tg l n k f u m t Q⟩
  refine ⟨hv', hb', e'.mpr ?_⟩
  clear e'
  refine ⟨l, ⟨⟨rfl, rfl⟩, hl⟩, ?_⟩
  rintro i e ⟨h⟩
  have hm : (matchM n k f u m l).2 = e := by rw [h]
  unfold accM at hq
  rw [hm] at hq
  refine splitNE (fun h1 => ?_) (fun h1 => splitD (fun h2 => ?_) (fun h2 => splitD (fun h3 => ?_) (fun h3 => splitD (fun h4 => ?_) (fun h4 => splitD (fun h5 => ?_) (fun h5 => ?_)))))
  · have := hq {}; rwa [if_pos h1] at this
  · have := hq {}; rwa [if_neg (by omega), if_pos (by omega)] at this
  · have := hq {}; rwa [if_neg (by omega), if_pos (by omega)] at this
  · have := hq {}; rwa [if_neg (by omega), if_neg (by omega), if_pos (by omega)] at this
  · have := hq {}; rwa [if_neg (by omega), if_neg (by omega), if_pos (by omega)] at this
  · have := hq {}; rwa [if_neg (by omega), if_neg (by omega), if_neg (by omega)] at this
def cRAcc : Con
  | [.agg [.str n, .str k, .int .i64 f, .int .i64 u, .int .i64 m], .lst _ ss c 1, .int .i64 t], H, K => ∃ l : List (List UInt8), Lf ((ss = cellsSM l ∧ c = l.length) ∧ ∀ s ∈ l, s.length ≤ 1000000) ∧ ∀ e, Lf (e = accM n k f u m l t) → K (.ret (.int .i64 e)) H
  | _, _, _ => False
theorem racc_ok : ValidF Tryz.prog gl0 31 cRAcc := by
  refine valid_flat (enters_of (by kernel_rfl)) gl0_noY fun args H Q hc => ?_
  unfold cRAcc at hc
  split at hc
  · rename_i n k f u m tg ss c t
    obtain ⟨l, ⟨⟨rfl, rfl⟩, h2⟩, hq⟩ := hc
    obtain ⟨hv, hb', h⟩ := racc_run tg l n k f u m t h2 (Q := fun o H' _ => H' = [] ∧ (∃ v, o = .ret v ∧ old 0 v = true ∧ noY v = true) ∧ Q o H) (fun _ => ⟨rfl, ⟨_, rfl, rfl, rfl⟩, hq _ ⟨rfl⟩⟩)
    exact ⟨by simp [oldL, old], by simp [noYL, noY], _, 1000, envFor18 smRa_ok _ _ _, rfl, h⟩
  · exact hc.elim
end Go.Proofs.YtifjpcdpmimccaaGreatDoor

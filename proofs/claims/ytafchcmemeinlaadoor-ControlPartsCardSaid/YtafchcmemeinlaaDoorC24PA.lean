/-
  Chapter 24: start, code, slices.Contains of numbers.
-/
import Derived.Test.YtafchcmemeinlaaDoorC24YD
import Derived.Test.YtafchcmemeinlaaDoorC24XY
import Derived.Test.YtafchcmemeinlaaDoorC24PP
set_option linter.unusedSimpArgs false
set_option linter.unusedVariables false
set_option linter.unusedSectionVars false
namespace Go.Proofs.YtafchcmemeinlaaDoor
open Go.RowKit
set_option maxRecDepth 1000000

def startM : Ctl := ⟨2, 1, 0, 0, 0, 0, 0, 0, [], [], 0, 0, []⟩
def stK : AV → AV
 | .agg l => .agg (nlL [0, 0, 0, 0, 0, 0, 0, 0, 7, 1, 0, 0, 1] l)
 | v => v
theorem wk_stK (a : AV) : wk a (stK a) := by
 unfold stK
 split
 ·exact wk_agg (wk_nlL _ _)
 ·exact wk_refl _
noncomputable def goal_27 (hv : Nat → Option Pa) (hb : Nat → Option Bool) (Q : Out → List Blk → Gh → Prop) : Prop :=
 callx (e24 sm0 (fun _ => none) hv hb) (wpx (e24 sm0 (fun _ => none) hv hb) 1000) 27 [] [] {} Q
theorem vc_27 (Q : Out → List Blk → Gh → Prop) : goal_27 (lookV []) (lookB []) Q = (
(Q (Out.ret (AV.agg ((AV.int .i64 (2 : Int)) :: ((AV.int .i64 (1 : Int)) :: ((AV.int .i64 (0 : Int)) :: ((AV.int .i64 (0 : Int)) :: ((AV.int .i64 (0 : Int)) :: ((AV.int .i64 (0 : Int)) :: ((AV.int .i64 (0 : Int)) :: ((AV.int .i64 (0 : Int)) :: (AV.nils :: (AV.nils :: ((AV.int .i64 (0 : Int)) :: ((AV.int .i64 (0 : Int)) :: (AV.nils :: []))))))))))))))) [] (Gh.mk (0 : Nat) (0 : Nat) []))) := by kernel_rfl

def cStart : Con
 | [], H, K => K (.ret (.agg (ctC startM))) H
 | _, _, _ => False
theorem start_ok : ValidF Tryd.prog glC 27 cStart := by
 refine valid_frz (enters_of (by kernel_rfl)) glC_noY 9 stK wk_stK fun args H Q hc => ?_
 unfold cStart at hc
 split at hc
 ·obtain ⟨hv, hb', h⟩ : ∃ hv hb, goal_27 hv hb (fun o H' _ => ∃ v, o = .ret v ∧ Q (.ret (stK (frzV 0 H' 9 v))) H) := by
   obtain ⟨hv, hb', e⟩ : ∃ hv hb, goal_27 hv hb (fun o H' _ => ∃ v, o = .ret v ∧ Q (.ret (stK (frzV 0 H' 9 v))) H) = _ := ⟨_, _, vc_27 _⟩
   refine ⟨hv, hb', e.mpr ?_⟩
   exact ⟨_, rfl, hc⟩
  exact ⟨rfl, rfl, _, 1000, envFor24 sm0_ok _ _ _, rfl, h⟩
 ·exact hc.elim
def sm28 : SM := lookS [(14, cDec)]
theorem sm28_ok : ∀ f g, sm28 f = some g → ValidF Tryd.prog glC f g := lookS_ok _ (by simp only [List.mem_cons, List.not_mem_nil, or_false, forall_eq]; exact dec_ok)
noncomputable def goal_28 (hv : Nat → Option Pa) (hb : Nat → Option Bool) (s : List UInt8) (Q : Out → List Blk → Gh → Prop) : Prop :=
 callx (e24 sm28 (fun _ => none) hv hb) (wpx (e24 sm28 (fun _ => none) hv hb) 1000) 28 [.str s] [] {} Q
theorem vc_28 (s : List UInt8) (Q : Out → List Blk → Gh → Prop) : goal_28 (lookV [(114702, .int .i64)]) (lookB []) s Q = (
(∀ l_0 : (List Ctl), (∀ e_1 : Int, ((Lf ((decRM s) = (Prod.mk l_0 e_1))) →
(bif (e_1 != (0 : Int)) then (∃ n_2 : Int, (((AV.int .i64 (Nat.cast (List.length l_0) : Int)) = (AV.int .i64 n_2)) ∧
 (bif (decide (n_2 > (0 : Int))) then (Q (Out.ret (AV.int .i64 (- (1 : Int)))) [] (Gh.mk (0 : Nat) (0 : Nat) []))
else (Q (Out.ret (AV.int .i64 e_1)) [] (Gh.mk (0 : Nat) (0 : Nat) [])))))
else (Q (Out.ret (AV.int .i64 e_1)) [] (Gh.mk (0 : Nat) (0 : Nat) []))))))) := by kernel_rfl

theorem code_run (s : List UInt8) (Q : Out → List Blk → Gh → Prop) (hq : Q (.ret (.int .i64 (decRM s).2)) [] {}) : ∃ hv hb, goal_28 hv hb s Q := by
 obtain ⟨hv, hb', e⟩ : ∃ hv hb, goal_28 hv hb s Q = _ := ⟨_, _, vc_28 s Q⟩
 refine ⟨hv, hb', e.mpr ?_⟩
 clear e
 rintro l e ⟨h⟩
 rw [h] at hq
 rcases dec_cases s with ⟨l', h1, _⟩ | ⟨e', h1, h2⟩
 ·rw [h1] at h
  cases h
  exact splitNE (fun hh => absurd rfl hh) fun _ => hq
 ·rw [h1] at h
  cases h
  refine splitNE (fun _ => ?_) (fun hh => ?_)
  ·exact ⟨_, rfl, splitD (fun hh => absurd hh (by decide)) fun _ => hq⟩
  ·exact hq
def cCode : Con
 | [.str s], H, K => K (.ret (.int .i64 (decRM s).2)) H
 | _, _, _ => False
theorem code_ok : ValidF Tryd.prog glC 28 cCode := by
 refine valid_flat (enters_of (by kernel_rfl)) glC_noY fun args H Q hc => ?_
 unfold cCode at hc
 split at hc
 ·rename_i s
  obtain ⟨hv, hb', h⟩ := code_run s (fun o H' _ => H' = [] ∧ (∃ v, o = .ret v ∧ old 0 v = true ∧ noY v = true) ∧ Q o H) ⟨rfl, ⟨_, rfl, rfl, rfl⟩, hc⟩
  exact ⟨rfl, rfl, _, 1000, envFor24 sm28_ok _ _ _, rfl, h⟩
 ·exact hc.elim
def inv_52 (t : Nat) (xs : List Int) (v : Int) : LInv where
 α := Nat
 pre i := Lf (i ≤ xs.length ∧ v ∉ xs.take i)
 st i := ⟨mkT [(0, .lst t (cellsI xs) xs.length 1), (1, .int .i64 v), (7, .int .i64 xs.length), (8, .int .i64 i)], []⟩
 mu i := xs.length - i
noncomputable def env_34 (hv : Nat → Option Pa) (hb : Nat → Option Bool) (t : Nat) (xs : List Int) (v : Int) : Env := e24 sm0 (fun i => bif Nat.beq i 52000 then some (fun _ => [[inv_52 t xs v]]) else none) hv hb
noncomputable def goal_34 (hv : Nat → Option Pa) (hb : Nat → Option Bool) (t : Nat) (xs : List Int) (v : Int) (Q : Out → List Blk → Gh → Prop) : Prop :=
 callx (env_34 hv hb t xs v) (wpx (env_34 hv hb t xs v) 1000) 34 [.lst t (cellsI xs) xs.length 1, .int .i64 v] [] {} Q
theorem vc_34 (t : Nat) (xs : List Int) (v : Int) (Q : Out → List Blk → Gh → Prop) : goal_34 (lookV [(212999, .int .i64), (213002, .int .i64), (213007, .int .i64), (213010, .int .i64)]) (lookB []) t xs v Q = (exI .i64 (xs.length : Int) fun
 n_0 => (∃ x_1 : Nat, Lf (x_1 ≤ xs.length ∧ ¬Membership.mem (xs.take x_1) v) ∧ eqqQ (AV.lst t (cellsI xs) xs.length 1) ∧ eqqQ (AV.int .i64 v) ∧ AV.int .i64 n_0 = AV.int .i64 (xs.length : Int) ∧ AV.int .i64 0 = AV.int .i64 (x_1 : Int) ∧
 True) ∧ ∀ x_1 : Nat, Lf (x_1 ≤ xs.length ∧ ¬Membership.mem (xs.take x_1) v) → bif decide ((x_1 : Int) < (xs.length : Int)) then exI .i64 (x_1 : Int) fun n_2 => ckQ (decide (0 ≤ n_2) && Nat.blt n_2.toNat xs.length && true) (ckQ (Nat.blt
 (n_2.toNat * 1) (cellsI xs).length) (exV .i64 ((cellsI xs).getD (n_2.toNat * 1) AV.undef) fun n_3 => bif v == n_3 then bif decide (n_2 ≥ 0) then Q (.ret (.bool true)) [] {} else Q (.ret (.bool false)) [] {} else exW .i64 ((x_1 : Int) + 1)
 fun n_4 => (True ∧ (0 : Nat) = (0 : Nat)) ∧ ∃ y_5 : Nat, Lf (y_5 ≤ xs.length ∧ ¬Membership.mem (xs.take y_5) v) ∧ xs.length - y_5 < xs.length - x_1 ∧ eqqQ (AV.lst t (cellsI xs) xs.length 1) ∧ eqqQ (AV.int .i64 v) ∧ eqqQ (AV.int .i64
 (xs.length : Int)) ∧ AV.int .i64 n_4 = AV.int .i64 (y_5 : Int) ∧ True)) else Q (.ret (.bool false)) [] {}) := by kernel_rfl

theorem cont_run (t : Nat) (xs : List Int) (v : Int) (Q : Out → List Blk → Gh → Prop) (hx : xs.length ≤ 1000000) (hq : Q (.ret (.bool (decide (v ∈ xs)))) [] {}) : ∃ hv hb, goal_34 hv hb t xs v Q := by
 obtain ⟨hv, hb', e⟩ : ∃ hv hb, goal_34 hv hb t xs v Q = _ := ⟨_, _, vc_34 t xs v Q⟩
 refine ⟨hv, hb', e.mpr ?_⟩
 clear e
 (repeat' (first | (with_reducible refine trivial) | ((guard_target = False); omega) | (((with_reducible refine wrapI ?_ ?_ ?_)); (focus (omega)); (focus (omega))) | ((fail_if_success (with_reducible refine wrapI ?_ ?_ ?_)); (with_reducible refine ⟨_, rfl, ?_⟩)) | (((with_reducible refine wrapU8 ?_ ?_ ?_)); (focus (omega)); (focus (omega))) | (((with_reducible refine ckI ?_ ?_)); (focus (first | (simp only [Bool.and_eq_true, Bool.and_true, Bool.true_and, decide_eq_true_eq, blt_iff, Nat.ble_eq, nbeq, cellsI_len,  List.length_append, List.length_cons, List.length_nil, Int.toNat_natCast, and_true, true_and, Bool.or_eq_true, Bool.not_eq_true', bne_iff_ne, ne_eq]; done) | (simp only [Bool.and_eq_true, Bool.and_true, Bool.true_and, decide_eq_true_eq, blt_iff, Nat.ble_eq, nbeq, cellsI_len,  List.length_append, List.length_cons, List.length_nil, Int.toNat_natCast, and_true, true_and, Bool.or_eq_true, Bool.not_eq_true', bne_iff_ne, ne_eq]; omega) | rfl | (simp; done) | (simp; omega)))) | (with_reducible refine splitD (fun _ => ?_) (fun _ => ?_) <;> (try (exfalso; omega))) | (with_reducible refine splitE (fun _ => ?_) (fun _ => ?_) <;> (try (exfalso; omega))) | (with_reducible refine splitNE (fun _ => ?_) (fun _ => ?_) <;> (try (exfalso; omega))) | (with_reducible refine splitNot ?_) | (with_reducible refine splitAnd ?_) | (with_reducible refine splitOr ?_)))
 refine ⟨⟨0, ⟨by omega, by simp⟩, by simp⟩, ?_⟩
 rintro i ⟨h1, h2⟩
 refine splitD (fun hlt => ?_) (fun hge => ?_)
 ·have hm : xs.getD i 0 ∈ xs := by
   rw [List.getD_eq_getElem?_getD, List.getElem?_eq_getElem (by omega)]; exact List.getElem_mem _
  have ht : xs.take (i + 1) = xs.take i ++ [xs.getD i 0] := by
   rw [List.take_add_one]; simp [(show i < xs.length by omega)]
  refine ⟨_, rfl, ckI (by simp; omega) (ckI (by simp [cellsI_len]; omega) (getI (i := i) (by omega) (by omega) (splitE (fun he => ?_) (fun hne => ?_))))⟩
  ·refine splitD (fun _ => ?_) (fun hh => absurd hh (by omega))
   subst he
   rw [decide_eq_true hm] at hq
   exact hq
  ·refine wrapI (by omega) (by omega) ⟨⟨trivial, rfl⟩, i + 1, ⟨by omega, ?_⟩, by omega, by simp⟩
   rw [ht]
   intro hh
   rcases List.mem_append.1 hh with hh | hh
   ·exact h2 hh
   ·exact hne (List.mem_singleton.1 hh)
 ·rw [List.take_of_length_le (by omega)] at h2
  rw [decide_eq_false h2] at hq
  exact hq
def memM (v : Int) (xs : List Int) : Bool := decide (v ∈ xs)
def cCont : Con
 | [.lst _ l n 1, .int .i64 v], H, K => ∃ xs : List Int, Lf (l = cellsI xs ∧ n = xs.length ∧ xs.length ≤ 1000000) ∧ K (.ret (.bool (memM v xs))) H
 | _, _, _ => False
theorem cont_raw : ValidF Tryd.prog glC 34 cCont := by
 refine valid_flat (enters_of (by kernel_rfl)) glC_noY fun args H Q hc => ?_
 unfold cCont at hc
 split at hc
 ·rename_i t l n v
  obtain ⟨xs, ⟨rfl, rfl, hl⟩, hq⟩ := hc
  obtain ⟨hv, hb', h⟩ := cont_run t xs v (hx := hl) (Q := fun o H' _ => H' = [] ∧ (∃ v, o = .ret v ∧ old 0 v = true ∧ noY v = true) ∧ Q o H) ⟨rfl, ⟨_, rfl, rfl, rfl⟩, hq⟩
  exact ⟨rfl, rfl, _, 1000, envFor24 sm0_ok _ _ _, rfl, h⟩
 ·exact hc.elim
def cContV : Con := fun args H Q => lendL [1] H args fun a => cCont a H Q
theorem cont_ok : ValidF Tryd.prog glC 34 cContV := valid_view cont_raw glC_noY [1] fun args H Q hc => by
 unfold cCont at hc
 split at hc
 ·obtain ⟨xs, h, hq⟩ := hc
  exact ⟨xs, h, rfl, ⟨_, rfl, rfl⟩, hq⟩
 ·exact hc.elim
end Go.Proofs.YtafchcmemeinlaaDoor

/-
  Chapter 18: the reference's Print, Match, Accept: residuals.
-/
import Derived.Test.YtifjpcdpmimccaaGreatDoorB18DO
import Derived.Test.YtifjpcdpmimccaaGreatDoorBmH
import Derived.Test.YtifjpcdpmimccaaGreatDoorBmB
import Derived.Test.YtifjpcdpmimccaaGreatDoorBnI
set_option linter.unusedSimpArgs false
set_option linter.unusedVariables false
set_option linter.unusedSectionVars false
namespace Go.Proofs.YtifjpcdpmimccaaGreatDoor
open Go.RowKit
set_option maxRecDepth 1000000

def smPr : SM := lookS [(59, cTable), (11, cOctB), (58, cSum58), (16, cShown)]
theorem smPr_ok : ∀ f g, smPr f = some g → ValidF Tryz.prog gl0 f g := lookS_ok _ (by simp only [List.mem_cons, List.not_mem_nil, or_false, forall_eq_or_imp, forall_eq]; exact ⟨table_ok, octB_ok, sum58_ok, shown16_ok⟩)
noncomputable def goal_26 (hv : Nat → Option Pa) (hb : Nat → Option Bool) (n k : List UInt8) (f u m : Int) (Q : Out → List Blk → Gh → Prop) : Prop :=
  callx (e18 smPr (fun _ => none) hv hb) (wpx (e18 smPr (fun _ => none) hv hb) 1000) 26 [.agg (bdg n k f u m)] [] {} Q
theorem vc_26 (n : List UInt8) (k : List UInt8) (f : Int) (u : Int) (m : Int) (Q : Out → List Blk → Gh → Prop) : goal_26 (lookV []) (lookB []) n k f u m Q = (
(bif ((eqAVL ((AV.str n) :: ((AV.str k) :: ((AV.int .i64 f) :: ((AV.int .i64 u) :: ((AV.int .i64 m) :: []))))) ((AV.str n) :: ((AV.str k) :: ((AV.int .i64 f) :: ((AV.int .i64 u) :: ((AV.int .i64 m) :: [])))))) && true) then ((Lf ((rightBM n k f u m) = true)) ∧
 (∀ s_0 : (List UInt8), ((Lf (s_0 = (octBM n k f u m))) →
((Lf (((cells6M startM) = (cells6M startM)) ∧
 (((cells6M kkM) = (cells6M kkM)) ∧
 ((List.length s_0) ≤ (100000 : Nat))))) ∧
 (∀ x_1 : (List UInt8), ((Lf (x_1 = (sumSM s_0))) →
((Lf ((List.length x_1) ≤ (1000000 : Nat))) ∧
 (∀ x_2 : (List UInt8), ((Lf (x_2 = (shownM x_1))) →
(Q (Out.ret (AV.str x_2)) [] (Gh.mk (0 : Nat) (0 : Nat) [])))))))))))
else False)) := by kernel_rfl

def cRPrint : Con
  | [.agg [.str n, .str k, .int .i64 f, .int .i64 u, .int .i64 m]], H, K => Lf (rightBM n k f u m = true) ∧ ∀ s, Lf (s = shB n k f u m) → K (.ret (.str s)) H
  | _, _, _ => False
end Go.Proofs.YtifjpcdpmimccaaGreatDoor

set_option linter.unusedSimpArgs false
set_option linter.unusedVariables false
set_option linter.unusedSectionVars false
namespace Go.Proofs.YtifjpcdpmimccaaGreatDoor
open Go.RowKit
set_option maxRecDepth 1000000

theorem eq_bdg (n k : List UInt8) (f u m : Int) : (eqAVL [AV.str n, .str k, .int .i64 f, .int .i64 u, .int .i64 m] [AV.str n, .str k, .int .i64 f, .int .i64 u, .int .i64 m] && true) = true := by
  simp [eqAVL, eqAV, eqB_refl]
theorem rprint_run (n k : List UInt8) (f u m : Int) (hr : rightBM n k f u m = true) (Q : Out → List Blk → Gh → Prop) (hq : Q (.ret (.str (shB n k f u m))) [] {}) : ∃ hv hb, goal_26 hv hb n k f u m Q := by
  obtain ⟨hv', hb', e'⟩ : ∃ hv hb, goal_26 hv hb n k f u m Q = _ := ⟨_, _, vc_26 n k f u m Q⟩
  refine ⟨hv', hb', e'.mpr ?_⟩
  clear e'
  have hn := ((name_iff n).1 ((right_iff _ _ _ _ _).1 hr).1).2.1
  have hk := ((right_iff _ _ _ _ _).1 hr).2.1
  refine ckI (eq_bdg _ _ _ _ _) ⟨⟨hr⟩, ?_⟩
  rintro s ⟨rfl⟩
  refine ⟨⟨rfl, rfl, by rw [octB_len]; omega⟩, ?_⟩
  rintro x ⟨rfl⟩
  refine ⟨⟨by rw [sumS_len]; decide⟩, ?_⟩
  rintro y ⟨rfl⟩
  exact hq
theorem rprint_ok : ValidF Tryz.prog gl0 26 cRPrint := by
  refine valid_flat (enters_of (by kernel_rfl)) gl0_noY fun args H Q hc => ?_
  unfold cRPrint at hc
  split at hc
  · rename_i n k f u m
    obtain ⟨⟨h1⟩, hq⟩ := hc
    obtain ⟨hv, hb', h⟩ := rprint_run n k f u m h1 (Q := fun o H' _ => H' = [] ∧ (∃ v, o = .ret v ∧ old 0 v = true ∧ noY v = true) ∧ Q o H) ⟨rfl, ⟨_, rfl, rfl, rfl⟩, hq _ ⟨rfl⟩⟩
    exact ⟨rfl, rfl, _, 1000, envFor18 smPr_ok _ _ _, rfl, h⟩
  · exact hc.elim
end Go.Proofs.YtifjpcdpmimccaaGreatDoor

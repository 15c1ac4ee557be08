/-
  Chapter 24: Draft: reception.
-/
import Derived.Test.YtafchcmemeinlaaDoorC24XS
set_option linter.unusedSimpArgs false
set_option linter.unusedVariables false
set_option linter.unusedSectionVars false
namespace Go.Proofs.YtafchcmemeinlaaDoor
open Go.RowKit
set_option maxRecDepth 1000000

def recM (n : Int) : Rc := (n, n % 256, n % 16777216 - 8388608, n / 3, n % 1000, n / 7, n % 65536)
theorem recM_ok {n : Int} (h : 0 ≤ n ∧ n < 4294967296) : rcOkM (recM n) = true := by
 rw [rcOkM, decide_eq_true_eq]
 dsimp only [recM]
 refine ⟨?_, ?_, ?_, ?_, ?_, ?_, ?_⟩ <;> omega
noncomputable def goal_56 (hv : Nat → Option Pa) (hb : Nat → Option Bool) (n : Int) (Q : Out → List Blk → Gh → Prop) : Prop :=
 callx (e24 sm0 (fun _ => none) hv hb) (wpx (e24 sm0 (fun _ => none) hv hb) 1000) 56 [.int .u32 n] [] {} Q
theorem vc_56 (n : Int) (Q : Out → List Blk → Gh → Prop) : goal_56 (lookV [(229381, .int .i64), (229384, .int .i64), (229386, .int .i64), (229387, .int .i64), (229389, .int .i64), (229391, .int .i64), (229393, .int .i64), (229395, .int .i64)]) (lookB []) n Q = (
(∃ n_0 : Int, (((AV.int .i64 (IntKind.wrap .i64 n)) = (AV.int .i64 n_0)) ∧
 (∃ n_1 : Int, (((AV.int .i64 (Int.tmod n_0 (256 : Int))) = (AV.int .i64 n_1)) ∧
 (∃ n_2 : Int, (((AV.int .i64 (Int.tmod n_0 (16777216 : Int))) = (AV.int .i64 n_2)) ∧
 (∃ n_3 : Int, (((AV.int .i64 (IntKind.wrap .i64 (n_2 - (8388608 : Int)))) = (AV.int .i64 n_3)) ∧
 (∃ n_4 : Int, (((AV.int .i64 (IntKind.wrap .i64 (Int.tdiv n_0 (3 : Int)))) = (AV.int .i64 n_4)) ∧
 (∃ n_5 : Int, (((AV.int .i64 (Int.tmod n_0 (1000 : Int))) = (AV.int .i64 n_5)) ∧
 (∃ n_6 : Int, (((AV.int .i64 (IntKind.wrap .i64 (Int.tdiv n_0 (7 : Int)))) = (AV.int .i64 n_6)) ∧
 (∃ n_7 : Int, (((AV.int .i64 (Int.tmod n_0 (65536 : Int))) = (AV.int .i64 n_7)) ∧
 (Q (Out.ret (AV.agg ((AV.int .i64 n_0) :: ((AV.int .i64 n_1) :: ((AV.int .i64 n_3) :: ((AV.int .i64 n_4) :: ((AV.int .i64 n_5) :: ((AV.int .i64 n_6) :: ((AV.int .i64 n_7) :: []))))))))) [] (Gh.mk (0 : Nat) (0 : Nat) []))))))))))))))))))) := by kernel_rfl

theorem rec_run (n : Int) (hn : 0 ≤ n ∧ n < 4294967296) (Q : Out → List Blk → Gh → Prop) (hq : Q (.ret (.agg (rcCM (recM n)))) [] {}) : ∃ hv hb, goal_56 hv hb n Q := by
 obtain ⟨hv, hb', e⟩ : ∃ hv hb, goal_56 hv hb n Q = _ := ⟨_, _, vc_56 n Q⟩
 refine ⟨hv, hb', e.mpr ?_⟩
 clear e
 have t1 : n.tmod 256 = n % 256 := Int.tmod_eq_emod_of_nonneg hn.1
 have t2 : n.tmod 16777216 = n % 16777216 := Int.tmod_eq_emod_of_nonneg hn.1
 have t3 : n.tdiv 3 = n / 3 := Int.tdiv_eq_ediv_of_nonneg hn.1
 have t4 : n.tmod 1000 = n % 1000 := Int.tmod_eq_emod_of_nonneg hn.1
 have t5 : n.tdiv 7 = n / 7 := Int.tdiv_eq_ediv_of_nonneg hn.1
 have t6 : n.tmod 65536 = n % 65536 := Int.tmod_eq_emod_of_nonneg hn.1
 refine wrapI (by omega) (by omega) ?_
 rw [t1, t2, t3, t4, t5, t6]
 exact ⟨_, rfl, _, rfl, wrapI (by omega) (by omega) (wrapI (by omega) (by omega) ⟨_, rfl, wrapI (by omega) (by omega) ⟨_, rfl, hq⟩⟩)⟩
def cRec : Con
 | [.int .u32 n], H, K => Lf (0 ≤ n ∧ n < 4294967296) ∧ K (.ret (.agg (rcCM (recM n)))) H
 | _, _, _ => False
theorem rec_okV : ValidF Tryd.prog glC 56 cRec := by
 refine valid_flat (enters_of (by kernel_rfl)) glC_noY fun args H Q hc => ?_
 unfold cRec at hc
 split at hc
 ·rename_i n
  obtain ⟨⟨h1⟩, hq⟩ := hc
  obtain ⟨hv, hb', h⟩ := rec_run n h1 (fun o H' _ => H' = [] ∧ (∃ v, o = .ret v ∧ old 0 v = true ∧ noY v = true) ∧ Q o H) ⟨rfl, ⟨_, rfl, rfl, rfl⟩, hq⟩
  exact ⟨rfl, rfl, _, 1000, envFor24 sm0_ok _ _ _, rfl, h⟩
 ·exact hc.elim
end Go.Proofs.YtafchcmemeinlaaDoor

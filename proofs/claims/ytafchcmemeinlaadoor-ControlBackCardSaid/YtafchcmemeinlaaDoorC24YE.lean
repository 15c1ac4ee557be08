/-
  Chapter 24: ControlBack.
-/
import Derived.Test.YtafchcmemeinlaaDoorC24YD
import Derived.Test.YtafchcmemeinlaaDoorC24XW
import Derived.Test.YtafchcmemeinlaaDoorC24XY
set_option linter.unusedSimpArgs false
set_option linter.unusedVariables false
set_option linter.unusedSectionVars false
namespace Go.Proofs.YtafchcmemeinlaaDoor
open Go.RowKit
set_option maxRecDepth 1000000

theorem valid_okC {c : Ctl} (h : validM c = true) : okC c := by
 have h8 := rcsOk_len ((valid_iff c).1 h).2.2.2.2.2.2.2.2.2.2.2.2.2.2.2.2.1
 rcases valid_cases h with ⟨f, s1, s2, s3, s4, s5, rs, rfl, hrs⟩ | ⟨f, rs, rfl, hrs⟩ | ⟨f, rfl⟩ | ⟨f, a, lo, rfl, hlo⟩ | ⟨f, a, rfl⟩ | ⟨f, a, ba, ro, ti, rfl, hti⟩
 ·exact ⟨by dsimp only; omega, Nat.zero_le _, Nat.zero_le _⟩
 ·exact ⟨by dsimp only; omega, Nat.zero_le _, Nat.zero_le _⟩
 ·exact ⟨Nat.zero_le _, Nat.zero_le _, Nat.zero_le _⟩
 ·have := (nacks_parts hlo).2.1
  exact ⟨Nat.zero_le _, by dsimp only; omega, Nat.zero_le _⟩
 ·exact ⟨Nat.zero_le _, Nat.zero_le _, Nat.zero_le _⟩
 ·obtain ⟨ref, l, h1, h2, h3⟩ := stepsR_some hti
  exact ⟨Nat.zero_le _, Nat.zero_le _, by dsimp only; omega⟩
theorem check_okC {l : List Ctl} (h : checkM l = true) : (1 ≤ l.length ∧ l.length ≤ 8) ∧ ∀ c ∈ l, okC c := by
 have hc := (check_iff l).1 h
 exact ⟨hc.1, fun c hm => valid_okC (hc.2.2 c hm)⟩
def sm5 : SM := lookS [(12, cComp), (13, cEdit), (14, cDec), (16, cSame), (17, cTrue), (24, cEncV), (25, cCheckV)]
theorem sm5_ok : ∀ f g, sm5 f = some g → ValidF Tryd.prog glC f g := lookS_ok _ (by simp only [List.mem_cons, List.not_mem_nil, or_false, forall_eq_or_imp, forall_eq]; exact ⟨comp_ok, edit_ok, dec_ok, same_ok, works_ok, enc_ok, check_ok⟩)
noncomputable def goal_5 (hv : Nat → Option Pa) (hb : Nat → Option Bool) (b : Bool) (t : Nat) (ps : List Pc) (at' less : Int) (text : List UInt8) (Q : Out → List Blk → Gh → Prop) : Prop :=
 callx (e24 sm5 (fun _ => none) hv hb) (wpx (e24 sm5 (fun _ => none) hv hb) 1000) 5 [.agg [.bool b, .lst t (cellsPcM ps) ps.length 10], .agg [.int .u16 at', .int .u8 less, .str text]] [] {} Q
theorem vc_5 (b : Bool) (t : Nat) (ps : List Pc) (at' : Int) (less : Int) (text : List UInt8) (Q : Out → List Blk → Gh → Prop) : goal_5 (lookV [(20543, .int .i64)]) (lookB []) b t ps at' less text Q = (∃ ps_0 : List Pc, Lf (cellsPcM ps =
 cellsPcM ps_0 ∧ ps.length = ps_0.length ∧ ∀ p_1 : Pc, Membership.mem ps_0 p_1 → okP p_1) ∧ ∀ l_1 : List Ctl, Lf (checkM l_1 = true ∧ (encCM l_1).length ≤ 1200) → ∃ l_2 : List Ctl, Lf (cellsCM l_1 = cellsCM l_2 ∧ l_1.length = l_2.length ∧
 l_2.length ≤ 1000000 ∧ ∀ c_3 : Ctl, Membership.mem l_2 c_3 → okC c_3) ∧ ∀ s_3 : List UInt8, ∀ e_4 : Int, Lf (encRM l_2 = Prod.mk s_3 e_4) → ∀ l_5 : List Ctl, ∀ e_6 : Int, Lf (decRM s_3 = Prod.mk l_5 e_6) → bif e_4 != 0 then Q (.ret (.bool
 false)) [] {} else bif e_6 != 0 then Q (.ret (.bool false)) [] {} else ∃ l_7 : List Ctl, Lf (cellsCM l_1 = cellsCM l_7 ∧ cellsCM l_5 = cellsCM l_7 ∧ l_1.length = l_7.length ∧ l_5.length = l_7.length ∧ l_7.length ≤ 1000000 ∧ ∀ c_8 : Ctl,
 Membership.mem l_7 c_8 → okC c_8) ∧ Lf ((0 ≤ at' ∧ at' ≤ 65535) ∧ (0 ≤ less ∧ less ≤ 255) ∧ s_3.length ≤ 1000000) ∧ ∀ t_8 : List UInt8, Lf (t_8.length ≤ s_3.length + 20) → ∀ l_9 : List Ctl, ∀ e_10 : Int, Lf (decRM t_8 = Prod.mk l_9 e_10) →
 bif e_10 != 0 then bif e_10 == 7 then exI .i64 (l_9.length : Int) fun n_11 => bif n_11 == 0 then Q (.ret (.bool true)) [] {} else Q (.ret (.bool false)) [] {} else bif e_10 == 5 then exI .i64 (l_9.length : Int) fun n_11 => bif n_11 == 0
 then Q (.ret (.bool true)) [] {} else Q (.ret (.bool false)) [] {} else bif e_10 == 3 then exI .i64 (l_9.length : Int) fun n_11 => bif n_11 == 0 then Q (.ret (.bool true)) [] {} else Q (.ret (.bool false)) [] {} else Q (.ret (.bool false))
 [] {} else ∃ l_11 : List Ctl, Lf (cellsCM l_9 = cellsCM l_11 ∧ l_9.length = l_11.length ∧ l_11.length ≤ 1000000 ∧ ∀ c_12 : Ctl, Membership.mem l_11 c_12 → okC c_12) ∧ ∀ s_12 : List UInt8, ∀ e_13 : Int, Lf (encRM l_11 = Prod.mk s_12 e_13) →
 bif e_13 == 0 then bif eqB s_12 t_8 then ∃ l_14 : List Ctl, Lf (cellsCM l_9 = cellsCM l_14 ∧ l_9.length = l_14.length ∧ l_14.length ≤ 1000000 ∧ ∀ c_15 : Ctl, Membership.mem l_14 c_15 → okC c_15) ∧ ∀ e_15 : Int, Lf (e_15 = ite (checkM l_14
 = true) 0 240) → bif e_15 == 0 then Q (.ret (.bool true)) [] {} else Q (.ret (.bool false)) [] {} else Q (.ret (.bool false)) [] {} else Q (.ret (.bool false)) [] {}) := by kernel_rfl

theorem back_run (b : Bool) (t : Nat) (ps : List Pc) (at' less : Int) (text : List UInt8) (hps : ∀ p ∈ ps, okP p) (ha : 0 ≤ at' ∧ at' ≤ 65535) (hl : 0 ≤ less ∧ less ≤ 255) (Q : Out → List Blk → Gh → Prop) (hq : Q (.ret (.bool true)) [] {}) : ∃ hv hb, goal_5 hv hb b t ps at' less text Q := by
 obtain ⟨hv, hb', e⟩ : ∃ hv hb, goal_5 hv hb b t ps at' less text Q = _ := ⟨_, _, vc_5 b t ps at' less text Q⟩
 refine ⟨hv, hb', e.mpr ?_⟩
 clear e
 refine ⟨ps, ⟨rfl, rfl, hps⟩, ?_⟩
 rintro l ⟨hck, hlen⟩
 have hcl := check_okC hck
 have he : encRM l = (encCM l, 0) := by rw [encRM, if_pos hck, if_pos hlen]
 refine ⟨l, ⟨rfl, rfl, by omega, hcl.2⟩, ?_⟩
 rintro s e ⟨h1⟩
 rw [he] at h1
 cases h1
 rintro l5 e6 ⟨h2⟩
 rw [dec_enc hck hlen] at h2
 cases h2
 refine splitNE (fun h => absurd rfl h) (fun _ => splitNE (fun h => absurd rfl h) (fun _ => ⟨l, ⟨rfl, rfl, rfl, rfl, by omega, hcl.2⟩, ⟨ha, hl, by omega⟩, ?_⟩))
 rintro tt ⟨ht⟩ r g ⟨hd⟩
 rcases dec_cases tt with ⟨m, k1, k2, k3, k4⟩ | ⟨e, k1, k2⟩
 ·rw [k1] at hd
  cases hd
  have hm := check_okC k2
  refine splitNE (fun h => absurd rfl h) (fun _ => ⟨r, ⟨rfl, rfl, by omega, hm.2⟩, ?_⟩)
  rintro s2 e2 ⟨h3⟩
  have he2 : encRM r = (tt, 0) := by rw [encRM, if_pos k2, k3, if_pos k4]
  rw [he2] at h3
  cases h3
  refine splitE (fun _ => ?_) (fun h => absurd rfl h)
  rw [eqB_refl, cond_true]
  refine ⟨r, ⟨rfl, rfl, by omega, hm.2⟩, ?_⟩
  rintro e ⟨h4⟩
  rw [if_pos k2] at h4
  subst h4
  exact hq
 ·rw [k1] at hd
  cases hd
  rcases k2 with rfl | rfl | rfl <;> exact ⟨_, rfl, hq⟩
end Go.Proofs.YtafchcmemeinlaaDoor

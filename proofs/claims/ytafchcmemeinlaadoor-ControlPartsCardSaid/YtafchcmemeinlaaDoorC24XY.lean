/-
  Chapter 24: Demux, Edit.Of (turned from chapter 23).
-/
import Derived.Test.YtafchcmemeinlaaDoorC24XS
set_option linter.unusedSimpArgs false
set_option linter.unusedVariables false
set_option linter.unusedSectionVars false
namespace Go.Proofs.YtafchcmemeinlaaDoor
open Go.RowKit
set_option maxRecDepth 1000000

theorem bltQ_iff {a b : Nat} : Nat.blt a b = true ↔ a < b := iff_of_eq blt_iff
def demuxM : List UInt8 → Int
 | [] => 0
 | c :: l => if c.toNat < 4 then 1 else if 20 ≤ c.toNat ∧ c.toNat < 64 then 2 else if 64 ≤ c.toNat ∧ c.toNat < 80 then 3 else if 128 ≤ c.toNat ∧ c.toNat < 192 then (match l with | [] => 4 | d :: _ => if 192 ≤ d.toNat ∧ d.toNat < 224 then 5 else 4) else 0
noncomputable def goal_33 (hv : Nat → Option Pa) (hb : Nat → Option Bool) (s : List UInt8) (Q : Out → List Blk → Gh → Prop) : Prop :=
 callx (e24 sm0 (fun _ => none) hv hb) (wpx (e24 sm0 (fun _ => none) hv hb) 1000) 33 [.str s] [] {} Q
theorem vc_33 (s : List UInt8) (Q : Out → List Blk → Gh → Prop) : goal_33 (lookV [(135175, .int .u8), (135195, .int .u8), (135199, .int .i64), (135204, .int .u8), (135205, .int .u8), (135210, .int .u8)]) (lookB []) s Q = (bif eqB s [] then
 Q (.ret (.int .i64 0)) [] {} else ckQ (Nat.blt 0 s.length) (exI .u8 (UInt8.toNat (s.getD 0 (UInt8.ofNat 0)) : Int) fun n_0 => bif decide (n_0 < 4) then Q (.ret (.int .i64 1)) [] {} else bif decide (n_0 ≥ 20) then bif decide (n_0 < 64) then
 Q (.ret (.int .i64 2)) [] {} else bif decide (n_0 ≥ 64) then bif decide (n_0 < 80) then Q (.ret (.int .i64 3)) [] {} else exI .u8 (Int.fdiv n_0 64) fun n_1 => bif n_1 == 2 then exI .i64 (s.length : Int) fun n_2 => bif decide (n_2 > 1) then
 ckQ (Nat.blt 1 s.length) (exI .u8 (UInt8.toNat (s.getD 1 (UInt8.ofNat 0)) : Int) fun n_3 => exI .u8 (Int.fdiv n_3 32) fun n_4 => bif n_4 == 6 then Q (.ret (.int .i64 5)) [] {} else exI .u8 (Int.fdiv n_0 64) fun n_5 => bif n_5 == 2 then Q
 (.ret (.int .i64 4)) [] {} else Q (.ret (.int .i64 0)) [] {}) else exI .u8 (Int.fdiv n_0 64) fun n_3 => bif n_3 == 2 then Q (.ret (.int .i64 4)) [] {} else Q (.ret (.int .i64 0)) [] {} else exI .u8 (Int.fdiv n_0 64) fun n_2 => bif n_2 == 2
 then Q (.ret (.int .i64 4)) [] {} else Q (.ret (.int .i64 0)) [] {} else exI .u8 (Int.fdiv n_0 64) fun n_1 => bif n_1 == 2 then exI .i64 (s.length : Int) fun n_2 => bif decide (n_2 > 1) then ckQ (Nat.blt 1 s.length) (exI .u8 (UInt8.toNat
 (s.getD 1 (UInt8.ofNat 0)) : Int) fun n_3 => exI .u8 (Int.fdiv n_3 32) fun n_4 => bif n_4 == 6 then Q (.ret (.int .i64 5)) [] {} else exI .u8 (Int.fdiv n_0 64) fun n_5 => bif n_5 == 2 then Q (.ret (.int .i64 4)) [] {} else Q (.ret (.int
 .i64 0)) [] {}) else exI .u8 (Int.fdiv n_0 64) fun n_3 => bif n_3 == 2 then Q (.ret (.int .i64 4)) [] {} else Q (.ret (.int .i64 0)) [] {} else exI .u8 (Int.fdiv n_0 64) fun n_2 => bif n_2 == 2 then Q (.ret (.int .i64 4)) [] {} else Q
 (.ret (.int .i64 0)) [] {} else bif decide (n_0 ≥ 64) then bif decide (n_0 < 80) then Q (.ret (.int .i64 3)) [] {} else exI .u8 (Int.fdiv n_0 64) fun n_1 => bif n_1 == 2 then exI .i64 (s.length : Int) fun n_2 => bif decide (n_2 > 1) then
 ckQ (Nat.blt 1 s.length) (exI .u8 (UInt8.toNat (s.getD 1 (UInt8.ofNat 0)) : Int) fun n_3 => exI .u8 (Int.fdiv n_3 32) fun n_4 => bif n_4 == 6 then Q (.ret (.int .i64 5)) [] {} else exI .u8 (Int.fdiv n_0 64) fun n_5 => bif n_5 == 2 then Q
 (.ret (.int .i64 4)) [] {} else Q (.ret (.int .i64 0)) [] {}) else exI .u8 (Int.fdiv n_0 64) fun n_3 => bif n_3 == 2 then Q (.ret (.int .i64 4)) [] {} else Q (.ret (.int .i64 0)) [] {} else exI .u8 (Int.fdiv n_0 64) fun n_2 => bif n_2 == 2
 then Q (.ret (.int .i64 4)) [] {} else Q (.ret (.int .i64 0)) [] {} else exI .u8 (Int.fdiv n_0 64) fun n_1 => bif n_1 == 2 then exI .i64 (s.length : Int) fun n_2 => bif decide (n_2 > 1) then ckQ (Nat.blt 1 s.length) (exI .u8 (UInt8.toNat
 (s.getD 1 (UInt8.ofNat 0)) : Int) fun n_3 => exI .u8 (Int.fdiv n_3 32) fun n_4 => bif n_4 == 6 then Q (.ret (.int .i64 5)) [] {} else exI .u8 (Int.fdiv n_0 64) fun n_5 => bif n_5 == 2 then Q (.ret (.int .i64 4)) [] {} else Q (.ret (.int
 .i64 0)) [] {}) else exI .u8 (Int.fdiv n_0 64) fun n_3 => bif n_3 == 2 then Q (.ret (.int .i64 4)) [] {} else Q (.ret (.int .i64 0)) [] {} else exI .u8 (Int.fdiv n_0 64) fun n_2 => bif n_2 == 2 then Q (.ret (.int .i64 4)) [] {} else Q
 (.ret (.int .i64 0)) [] {})) := by kernel_rfl

theorem fdN {m d : Nat} : Int.fdiv (m : Int) (d : Int) = ((m / d : Nat) : Int) := by
 rw [Int.fdiv_eq_ediv_of_nonneg _ (Int.natCast_nonneg _)]; exact (Int.natCast_ediv _ _).symm
theorem demux_1 (c : UInt8) (Q : Out → List Blk → Gh → Prop) (hq : ∀ r, r = demuxM [c] → Q (.ret (.int .i64 r)) [] {}) : ∃ hv hb, goal_33 hv hb [c] Q := by
 obtain ⟨hv, hb', e⟩ : ∃ hv hb, goal_33 hv hb [c] Q = _ := ⟨_, _, vc_33 [c] Q⟩
 refine ⟨hv, hb', e.mpr ?_⟩
 clear e
 have hM : demuxM [c] = if c.toNat < 4 then 1 else if 20 ≤ c.toNat ∧ c.toNat < 64 then 2 else if 64 ≤ c.toNat ∧ c.toNat < 80 then 3 else if 128 ≤ c.toNat ∧ c.toNat < 192 then 4 else 0 := rfl
 rw [hM] at hq
 clear hM
 refine splitI (fun h => by simp [eqB] at h) (fun _ => ckI (bltQ_iff.2 (by simp)) ⟨(c.toNat : Int), rfl, ?_⟩)
 have hc := c.toNat_lt
 have f6 : Int.fdiv (c.toNat : Int) 64 = ((c.toNat / 64 : Nat) : Int) := fdN
 rw [show ([c] : List UInt8).length = 1 from rfl]
 simp only [f6]
 repeat' (first | (with_reducible refine splitD (fun _ => ?_) (fun _ => ?_)) | (with_reducible refine splitE (fun _ => ?_) (fun _ => ?_)) | (with_reducible refine ⟨_, rfl, ?_⟩) | (with_reducible refine ckI ?_ ?_))
 all_goals first
  | (refine hq _ ?_ <;> (repeat' split) <;> first | rfl | (exfalso; omega) | omega)
  | (exfalso; omega)
theorem demux_2 (c d : UInt8) (l : List UInt8) (hs : l.length ≤ 9223372036854775807) (Q : Out → List Blk → Gh → Prop) (hq : ∀ r, r = demuxM (c :: d :: l) → Q (.ret (.int .i64 r)) [] {}) : ∃ hv hb, goal_33 hv hb (c :: d :: l) Q := by
 obtain ⟨hv, hb', e⟩ : ∃ hv hb, goal_33 hv hb (c :: d :: l) Q = _ := ⟨_, _, vc_33 (c :: d :: l) Q⟩
 refine ⟨hv, hb', e.mpr ?_⟩
 clear e
 have hM : demuxM (c :: d :: l) = if c.toNat < 4 then 1 else if 20 ≤ c.toNat ∧ c.toNat < 64 then 2 else if 64 ≤ c.toNat ∧ c.toNat < 80 then 3 else if 128 ≤ c.toNat ∧ c.toNat < 192 then (if 192 ≤ d.toNat ∧ d.toNat < 224 then 5 else 4) else 0 := rfl
 rw [hM] at hq
 clear hM
 refine splitI (fun h => by simp [eqB] at h) (fun _ => ckI (bltQ_iff.2 (by simp)) ⟨(c.toNat : Int), rfl, ?_⟩)
 have hc := c.toNat_lt
 have hd := d.toNat_lt
 have f6 : Int.fdiv (c.toNat : Int) 64 = ((c.toNat / 64 : Nat) : Int) := fdN
 have f5 : Int.fdiv (d.toNat : Int) 32 = ((d.toNat / 32 : Nat) : Int) := fdN
 have hl : (c :: d :: l).length = l.length + 2 := rfl
 rw [hl]
 simp only [List.getD_cons_succ, List.getD_cons_zero, f5, f6]
 generalize l.length = n at *
 generalize c.toNat = x at *
 generalize d.toNat = y at *
 repeat' (first | (with_reducible refine splitD (fun _ => ?_) (fun _ => ?_)) | (with_reducible refine splitE (fun _ => ?_) (fun _ => ?_)) | (with_reducible refine ⟨_, rfl, ?_⟩) | (with_reducible refine ckI ?_ ?_))
 all_goals first
  | exact bltQ_iff.2 (by omega)
  | (refine hq _ ?_ <;> (repeat' split) <;> first | rfl | (exfalso; omega) | omega)
  | (exfalso; omega)
theorem demux_run (s : List UInt8) (hs : s.length ≤ 9223372036854775807) (Q : Out → List Blk → Gh → Prop) (hq : ∀ r, r = demuxM s → Q (.ret (.int .i64 r)) [] {}) : ∃ hv hb, goal_33 hv hb s Q := by
 match s, hs, hq with
 | [], _, hq =>
  obtain ⟨hv, hb', e⟩ : ∃ hv hb, goal_33 hv hb [] Q = _ := ⟨_, _, vc_33 [] Q⟩
  exact ⟨hv, hb', e.mpr (hq 0 rfl)⟩
 | [c], _, hq => exact demux_1 c Q hq
 | c :: d :: l, hs, hq => exact demux_2 c d l (by simp at hs; omega) Q hq
def cDemux : Con
 | [.str s], H, K => Lf (s.length ≤ 9223372036854775807) ∧ ∀ r : Int, Lf (r = demuxM s) → K (.ret (.int .i64 r)) H
 | _, _, _ => False
theorem demux_ok : ValidF Tryd.prog glC 33 cDemux := by
 refine valid_flat (enters_of (by kernel_rfl)) glC_noY fun args H Q hc => ?_
 unfold cDemux at hc
 split at hc
 ·rename_i s
  obtain ⟨⟨hl⟩, hq⟩ := hc
  obtain ⟨hv, hb', h⟩ := demux_run s hl (fun o H' _ => H' = [] ∧ (∃ v, o = .ret v ∧ old 0 v = true ∧ noY v = true) ∧ Q o H) (fun r hr => ⟨rfl, ⟨_, rfl, rfl, rfl⟩, hq r ⟨hr⟩⟩)
  refine ⟨rfl, rfl, _, 1000, ?_, rfl, h⟩
  exact envFor24 sm0_ok _ _ _
 ·exact hc.elim
end Go.Proofs.YtafchcmemeinlaaDoor

/-
  Chapter 18: Decode of badges, proved.
-/
import Derived.Test.YtifjpcdpmimccaaGreatDoorB18U
set_option linter.unusedSimpArgs false
set_option linter.unusedVariables false
set_option linter.unusedSectionVars false
namespace Go.Proofs.YtifjpcdpmimccaaGreatDoor
open Go.RowKit
set_option maxRecDepth 1000000

def lenB (s : List UInt8) : Int := beM ((s.drop 21).take 1)
def nmB (s : List UInt8) : List UInt8 := (s.drop 22).take (lenB s).toNat
def keB (s : List UInt8) : List UInt8 := (s.drop (22 + lenB s).toNat).take 32
def nuB (s : List UInt8) : Int := beM ((s.drop 3).take 6)
def frB (s : List UInt8) : Int := beM ((s.drop 9).take 6)
def unB (s : List UInt8) : Int := beM ((s.drop 15).take 6)
abbrev okB (s : List UInt8) : Prop := s.take 3 = [102, 100, 1] ∧ (s.length : Int) = 22 + lenB s + 32 ∧ rightBM (nmB s) (keB s) (frB s) (unB s) (nuB s) = true
def decBM (s : List UInt8) : List UInt8 × List UInt8 × Int × Int × Int × Int := if okB s then (nmB s, keB s, frB s, unB s, nuB s, 0) else ([], [], 0, 0, 0, 5)
theorem be_nn (s : List UInt8) : 0 ≤ beM s := by unfold beM; omega
theorem be_one {s : List UInt8} (h : s.length ≤ 1) : beM s ≤ 255 := by
  match s, h with
  | [], _ => decide
  | [c], _ =>
    have := c.toNat_lt
    show ((0 * 256 + c.toNat : Nat) : Int) ≤ 255
    omega
theorem dec14_run (s : List UInt8) (hs : s.length ≤ 1000000) (Q : Out → List Blk → Gh → Prop) (h0 : ¬ okB s → Q (.ret (.tup [.agg [.str [], .str [], .int .i64 0, .int .i64 0, .int .i64 0], .int .i64 5])) [] {})
    (h1 : okB s → Q (.ret (.tup [.agg [.str (nmB s), .str (keB s), .int .i64 (frB s), .int .i64 (unB s), .int .i64 (nuB s)], .int .i64 0])) [] {}) : ∃ hv hb, goal_14 hv hb s Q := by
  obtain ⟨hv', hb', e'⟩ : ∃ hv hb, goal_14 hv hb s Q = _ := ⟨_, _, vc_14 s Q⟩
  refine ⟨hv', hb', e'.mpr ?_⟩
  clear e'
  have ln := be_nn ((s.drop 21).take 1)
  have lx := be_one (s := (s.drop 21).take 1) (by rw [List.length_take]; omega)
  have bad : ¬ okB s → vc_14_1 Q := fun h => by
    unfold vc_14_1
    exact ⟨_, rfl, _, _, rfl, h0 h⟩
  refine ⟨⟨by omega, by omega, hs, by omega, by omega⟩, splitD (fun g3 => ⟨s.take 3, rfl, _, _, rfl, ?_⟩) (fun g3 => ⟨_, rfl, _, _, rfl, h0 (fun h => by have := h.2.1; unfold lenB at this; omega)⟩)⟩
  cases he : eqB (s.take 3) [UInt8.ofNat 102, UInt8.ofNat 100, UInt8.ofNat 1] with
  | false =>
    refine h0 (fun h => ?_)
    rw [h.1] at he
    cases he
  | true =>
    rw [eqB_iff, beq_iff_eq] at he
    refine ⟨⟨by omega, by omega, hs, by omega, by omega⟩, splitD (fun g9 => ⟨_, rfl, _, _, rfl, ⟨by omega, by omega, hs, by omega, by omega⟩, splitD (fun g15 => ⟨_, rfl, _, _, rfl, ⟨by omega, by omega, hs, by omega, by omega⟩, splitD (fun g21 => ⟨_, rfl, _, _, rfl, ⟨by omega, by omega, hs, by omega, by omega⟩, splitD (fun g22 => ?_) (fun g => bad (fun h => by have := h.2.1; unfold lenB at this; omega))⟩) (fun g => bad (fun h => by have := h.2.1; unfold lenB at this; omega))⟩) (fun g => bad (fun h => by have := h.2.1; unfold lenB at this; omega))⟩) (fun g => bad (fun h => by have := h.2.1; unfold lenB at this; omega))⟩
    refine ⟨lenB s, rfl, _, _, rfl, ⟨by omega, by omega, hs, ln, by unfold lenB; omega⟩, splitD (fun gn => ⟨nmB s, rfl, _, _, rfl, ⟨by unfold lenB; omega, by omega, hs, by omega, by omega⟩, splitD (fun gk => ⟨keB s, rfl, _, _, rfl, _, rfl, ?_⟩) (fun g => ⟨_, rfl, _, _, rfl, h0 (fun h => by have := h.2.1; omega)⟩)⟩) (fun g => ⟨_, rfl, _, _, rfl, h0 (fun h => by have := h.2.1; omega)⟩)⟩
    refine splitNE (fun g => h0 (fun h => by have := h.2.1; omega)) (fun g => ⟨⟨by unfold nmB; rw [List.length_take, List.length_drop]; omega⟩, ?_⟩)
    rintro b ⟨hb⟩
    have hr : rightBM (nmB s) (keB s) (frB s) (unB s) (nuB s) = b := hb.symm
    cases b with
    | true => exact h1 ⟨he, by omega, hr⟩
    | false => exact h0 (fun h => by have := h.2.2; rw [hr] at this; cases this)
def cDecB : Con
  | [.str s], H, K => Lf (s.length ≤ 1000000) ∧ ∀ (n k : List UInt8) (f u m e : Int), Lf (decBM s = (n, k, f, u, m, e)) → K (.ret (.tup [.agg [.str n, .str k, .int .i64 f, .int .i64 u, .int .i64 m], .int .i64 e])) H
  | _, _, _ => False
theorem decB_ok : ValidF Tryz.prog gl0 14 cDecB := valid_frzD dfn14_ok (enters_of (by kernel_rfl)) gl0_noY 9 (nlR []) (wk_nlR _) fun args H Q hc => by
  unfold cDecB at hc
  split at hc
  · rename_i s
    obtain ⟨⟨h1⟩, hq⟩ := hc
    obtain ⟨hv, hb', h⟩ := dec14_run s h1 (Q := fun o H' _ => ∃ v, o = .ret v ∧ Q (.ret (nlR [] (frzV 0 H' 9 v))) H) (fun h => ⟨_, rfl, hq [] [] 0 0 0 5 ⟨by rw [decBM, if_neg h]⟩⟩) (fun h => ⟨_, rfl, hq _ _ _ _ _ 0 ⟨by rw [decBM, if_pos h]⟩⟩)
    exact ⟨rfl, rfl, _, 1000, envFor18 smD14_ok _ _ _, rfl, h⟩
  · exact hc.elim
end Go.Proofs.YtifjpcdpmimccaaGreatDoor

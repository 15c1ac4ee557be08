/-
  Chapter 18: is a text a shown badge? proved.
-/
import Derived.Test.YtifjpcdpmimccaaGreatDoorB18Z
set_option linter.unusedSimpArgs false
set_option linter.unusedVariables false
set_option linter.unusedSectionVars false
namespace Go.Proofs.YtifjpcdpmimccaaGreatDoor
open Go.RowKit
set_option maxRecDepth 1000000

theorem ok_step {r : List UInt8} {i : Nat} (h : okTo r i) (h1 : chOk i (r.getD i 0) = true) : okTo r (i + 1) := fun j hj => by
  rcases Nat.lt_or_ge j i with g | g
  · exact h j g
  · obtain rfl : j = i := by omega
    exact h1
theorem fing_iff (s : List UInt8) : fingM s = true ↔ 8 ≤ s.length ∧ eqB (s.take 8) preM = true ∧ (s.drop 8).length = 95 ∧ okTo (s.drop 8) 95 := by
  simp only [fingM, Bool.and_eq_true, Nat.ble_eq, Nat.beq_eq, List.all_eq_true, List.mem_range]
  exact Iff.rfl
theorem fing_run (s : List UInt8) (hs : s.length ≤ 9223372036854775807) (Q : Out → List Blk → Gh → Prop) (hq : ∀ g, Q (.ret (.bool (fingM s))) [] g) : ∃ hv hb, goal_53 hv hb s Q := by
  obtain ⟨hv', hb', e'⟩ : ∃ hv hb, goal_53 hv hb s Q = _ := ⟨_, _, vc_53 s Q⟩
  refine ⟨hv', hb', e'.mpr ?_⟩
  clear e'
  have no : ¬ (8 ≤ s.length ∧ eqB (s.take 8) preM = true ∧ (s.drop 8).length = 95 ∧ okTo (s.drop 8) 95) → ∀ g, Q (.ret (.bool false)) [] g := fun h g => by
    have := hq g
    rwa [show fingM s = false by rw [← Bool.not_eq_true, fing_iff]; exact h] at this
  have hl : (s.drop 8).length = s.length - 8 := List.length_drop ..
  refine ⟨_, rfl, splitD (fun h1 => ckI (by rw [Nat.ble_eq]; omega) ⟨_, rfl, ?_⟩) (fun h1 => no (fun h => by omega) _)⟩
  cases he : eqB (s.take 8) preM with
  | false => 
    have e0 : eqB ((s.drop 0).take 8) preM = false := he
    show (bif eqB ((s.drop 0).take 8) preM then _ else _)
    rw [e0]
    exact no (fun h => by rw [he] at h; cases h.2.1) _
  | true =>
    have e0 : eqB ((s.drop 0).take 8) preM = true := he
    show (bif eqB ((s.drop 0).take 8) preM then _ else _)
    rw [e0]
    refine ckI (by rw [Bool.and_eq_true, Nat.ble_eq, Nat.ble_eq]; omega) ⟨s.drop 8, congrArg AV.str (List.take_of_length_le (by omega)), _, rfl, splitNE (fun h2 => no (fun h => by omega) _) (fun h2 => ?_)⟩
    have h95 : (s.drop 8).length = 95 := by omega
    refine ⟨⟨0, ⟨by omega, h95, fun j hj => by omega⟩, rfl, rfl, rfl, rfl, rfl, rfl, trivial⟩, ?_⟩
    rintro i ⟨i1, _, io⟩
    have yes : okTo (s.drop 8) 95 → ∀ g, Q (.ret (.bool true)) [] g := fun h g => by
      have := hq g
      rwa [(fing_iff s).2 ⟨by omega, he, h95, h⟩] at this
    have ht : Int.tmod (i : Int) 3 = ((i % 3 : Nat) : Int) := by
      rw [Int.tmod_eq_emod_of_nonneg (by omega)]; omega
    refine ⟨_, rfl, _, rfl, splitD (fun h3 => ?_) (fun h3 => ?_)⟩
    · have bad : chOk i ((s.drop 8).getD i 0) = false → ∀ g, Q (.ret (.bool false)) [] g := fun h => no (fun h4 => by
        have := h4.2.2.2 i (by omega)
        rw [h] at this
        cases this)
      have c1 : i % 3 = 2 → (chOk i ((s.drop 8).getD i 0) = true ↔ ((s.drop 8).getD i 0).toNat = 58) := fun h => by
        rw [chOk, if_pos h, beq_iff_eq]
        exact ⟨fun h => by rw [h]; rfl, fun h => UInt8.toNat_inj.1 h⟩
      have c2 : i % 3 ≠ 2 → (chOk i ((s.drop 8).getD i 0) = true ↔ 0 ≤ idxM hexL (((s.drop 8).getD i 0).toNat : Int)) := fun h => by
        rw [chOk, if_neg h, decide_eq_true_eq]
      refine ⟨_, rfl, ckI (idxOk (by omega) (by omega)) ⟨_, rfl, _, rfl, _, rfl, ?_⟩⟩
      rw [ht]
      have go : chOk i ((s.drop 8).getD i 0) = true → i + 1 ≤ (s.drop 8).length ∧ (s.drop 8).length = 95 ∧ okTo (s.drop 8) (i + 1) := fun h => ⟨by omega, h95, ok_step io h⟩
      refine splitE (fun h4 => splitNE (fun h5 => bad (by rw [← Bool.not_eq_true, c1 (by omega)]; intro h6; exact h5 (congrArg Nat.cast h6)) _) (fun h5 => ⟨_, rfl, _, rfl, splitD (fun h6 => by omega) (fun h6 => ?_)⟩)) (fun h4 => ⟨_, rfl, _, rfl, splitD (fun h6 => ?_) (fun h6 => by omega)⟩)
      · exact ⟨_, rfl, wrapI (by omega) (by omega) ⟨_, rfl, wrapI (by omega) (by omega) ⟨⟨rfl, rfl⟩, i + 1, ⟨go ((c1 (by omega)).2 (by exact Int.ofNat.inj h5))⟩, by omega, rfl, rfl, rfl, rfl, rfl, rfl, trivial⟩⟩⟩
      · rintro x ⟨hx0⟩
        refine splitD (fun h7 => bad (by rw [← Bool.not_eq_true, c2 (by omega)]; have : x = idxM hexL (((s.drop 8).getD i 0).toNat : Int) := hx0; omega) _) (fun h7 => ?_)
        exact ⟨_, rfl, wrapI (by omega) (by omega) ⟨_, rfl, wrapI (by omega) (by omega) ⟨⟨rfl, rfl⟩, i + 1, ⟨go ((c2 (by omega)).2 (by have : x = idxM hexL (((s.drop 8).getD i 0).toNat : Int) := hx0; omega))⟩, by omega, rfl, rfl, rfl, rfl, rfl, rfl, trivial⟩⟩⟩
    · obtain rfl : i = 95 := by omega
      exact yes io _
def cFing : Con
  | [.str s], H, K => Lf (s.length ≤ 9223372036854775807) ∧ ∀ b, Lf (b = fingM s) → K (.ret (.bool b)) H
  | _, _, _ => False
theorem fing_ok : ValidF Tryz.prog gl0 53 cFing := by
  refine valid_flat (enters_of (by kernel_rfl)) gl0_noY fun args H Q hc => ?_
  unfold cFing at hc
  split at hc
  · rename_i s
    obtain ⟨⟨h1⟩, hq⟩ := hc
    obtain ⟨hv, hb', h⟩ := fing_run s h1 (Q := fun o H' _ => H' = [] ∧ (∃ v, o = .ret v ∧ old 0 v = true ∧ noY v = true) ∧ Q o H) (fun _ => ⟨rfl, ⟨_, rfl, rfl, rfl⟩, hq _ ⟨rfl⟩⟩)
    exact ⟨rfl, rfl, _, 1000, envFor18 smFg_ok _ _ _, rfl, h⟩
  · exact hc.elim
end Go.Proofs.YtifjpcdpmimccaaGreatDoor

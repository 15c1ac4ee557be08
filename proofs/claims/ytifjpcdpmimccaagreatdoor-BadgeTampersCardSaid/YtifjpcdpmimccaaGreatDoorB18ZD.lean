/-
  Chapter 18: Match proved.
-/
import Derived.Test.YtifjpcdpmimccaaGreatDoorB18ZC
set_option linter.unusedSimpArgs false
set_option linter.unusedVariables false
set_option linter.unusedSectionVars false
namespace Go.Proofs.YtifjpcdpmimccaaGreatDoor
open Go.RowKit
set_option maxRecDepth 1000000

def shB (n k : List UInt8) (f u m : Int) : List UInt8 := shownM (sumSM (octBM n k f u m))
def matchM (n k : List UInt8) (f u m : Int) (l : List (List UInt8)) : Int × Int :=
  if rightBM n k f u m = true then (if 8 < l.length then (0, 3) else if l.all fingM = true then (match l.findIdx? (fun s => eqB (shB n k f u m) s) with | some i => ((i : Nat), 0) | none => (0, 4)) else (0, 5)) else (0, 180)
theorem getD_of {l : List (List UInt8)} {i : Nat} (hi : i < l.length) : l.getD i [] = l[i] := by
  rw [List.getD_eq_getElem?_getD, List.getElem?_eq_getElem hi]; rfl
theorem match_run (tg : Nat) (n k : List UInt8) (f u m : Int) (l : List (List UInt8)) (hn : n.length ≤ 9223372036854775807) (hl : ∀ s ∈ l, s.length ≤ 9223372036854775807) (Q : Out → List Blk → Gh → Prop) (hq : ∀ g, Q (.ret (.tup [.int .i64 (matchM n k f u m l).1, .int .i64 (matchM n k f u m l).2])) [] g) : ∃ hv hb, goal_28 hv hb tg l n k f u m Q := by
  obtain ⟨hv', hb', e'⟩ : ∃ hv hb, goal_28 hv hb tg l n k f u m Q = _ := ⟨_, _, vc_28 tg l n k f u m Q⟩
  refine ⟨hv', hb', e'.mpr ?_⟩
  clear e'
  refine ⟨⟨hn⟩, ?_⟩
  rintro b ⟨hb⟩
  cases b with
  | false => have := hq {}; rwa [show matchM n k f u m l = (0, 180) by rw [matchM, ← hb]; rfl] at this
  | true =>
    have hr : rightBM n k f u m = true := hb.symm
    refine ⟨_, rfl, splitD (fun h1 => ?_) (fun h1 => ⟨_, rfl, ⟨0, ⟨by omega, fun j hj => by omega⟩, rfl, rfl, rfl, rfl, rfl, trivial⟩, ?_⟩)⟩
    · have := hq {}
      rwa [show matchM n k f u m l = (0, 3) by rw [matchM, if_pos hr, if_pos (by omega)]] at this
    have h8 : ¬ 8 < l.length := by omega
    have p2 : l.all fingM = true → vc_28_1 tg l n k f u m Q := fun ha => by
      unfold vc_28_1
      have hm : matchM n k f u m l = (match l.findIdx? (fun s => eqB (shB n k f u m) s) with | some i => ((i : Nat), 0) | none => (0, 4)) := by rw [matchM, if_pos hr, if_neg h8, if_pos ha]
      refine ⟨⟨hn⟩, ?_⟩
      rintro x ⟨hx0⟩
      have hx1 : shB n k f u m = x := by rw [hx0, shB, encBM, if_pos hr]
      rw [hx1] at hm
      refine ⟨_, rfl, ⟨0, ⟨by omega, fun j hj => by omega⟩, rfl, rfl, rfl, rfl, rfl, trivial⟩, ?_⟩
      rintro i ⟨i1, i2⟩
      refine splitD (fun h3 => ⟨_, rfl, ckI (by rw [Bool.and_true]; exact idxOk (by omega) (by omega)) (ckI (by rw [cellsS_len, Nat.blt_eq]; omega) (getS (by omega) (by omega : (Int.toNat (i : Int)) * 1 = i) ?_))⟩) (fun h3 => ?_)
      · have hi : i < l.length := by omega
        show (bif eqB x l[i] then _ else _)
        cases he : eqB x l[i] with
        | true =>
          rw [cond_true]
          have hf : l.findIdx? (fun s => eqB x s) = some i := List.findIdx?_eq_some_iff_getElem.2 ⟨hi, he, fun j hj => by
            have := i2 j hj
            rw [getD_of (by omega)] at this
            exact fun h => by
              have h' : eqB x l[j] = true := h
              rw [this] at h'
              cases h'⟩
          rw [hf] at hm
          refine splitD (fun h => by omega) (fun _ => ?_)
          have := hq (Gh.mk 0 0 [])
          rwa [hm] at this
        | false =>
          refine wrapI (by omega) (by omega) ⟨⟨trivial, rfl⟩, i + 1, ⟨by omega, fun j hj => ?_⟩, by omega, rfl, rfl, rfl, rfl, rfl, trivial⟩
          rcases Nat.lt_or_ge j i with g | g
          · exact i2 j g
          · obtain rfl : j = i := by omega
            rw [getD_of hi]; exact he
      · have hf : l.findIdx? (fun s => eqB x s) = none := List.findIdx?_eq_none_iff.2 fun s hs => by
          obtain ⟨j, hj, rfl⟩ := List.getElem_of_mem hs
          have := i2 j (by omega)
          rwa [getD_of hj] at this
        rw [hf] at hm
        have := hq (Gh.mk 0 0 [])
        rwa [hm] at this
    rintro i ⟨i1, i2⟩
    refine splitD (fun h3 => ⟨_, rfl, ckI (by rw [Bool.and_true]; exact idxOk (by omega) (by omega)) (ckI (by rw [cellsS_len, Nat.blt_eq]; omega) (getS (by omega) (by omega : (Int.toNat (i : Int)) * 1 = i) ?_))⟩) (fun h3 => ?_)
    · have hi : i < l.length := by omega
      refine ⟨⟨hl _ (List.getElem_mem hi)⟩, ?_⟩
      rintro b ⟨hb2⟩
      cases b with
      | true =>
        refine wrapI (by omega) (by omega) ⟨⟨trivial, rfl⟩, i + 1, ⟨by omega, fun j hj => ?_⟩, by omega, rfl, rfl, rfl, rfl, rfl, trivial⟩
        rcases Nat.lt_or_ge j i with g | g
        · exact i2 j g
        · obtain rfl : j = i := by omega
          rw [getD_of hi]; exact hb2.symm
      | false =>
        rw [cond_false]
        refine splitD (fun _ => ?_) (fun h => absurd (show (0 : Int) ≤ (i : Int) by omega) h)
        have ha : ¬ l.all fingM = true := fun h => by
          rw [List.all_eq_true] at h
          have := h _ (List.getElem_mem hi)
          rw [← hb2] at this
          cases this
        have := hq {}
        rwa [show matchM n k f u m l = (0, 5) by rw [matchM, if_pos hr, if_neg h8, if_neg ha]] at this
    · refine p2 (List.all_eq_true.2 fun s hs => ?_)
      obtain ⟨j, hj, rfl⟩ := List.getElem_of_mem hs
      have := i2 j (by omega)
      rwa [getD_of hj] at this
def cMatch : Con
  | [.agg [.str n, .str k, .int .i64 f, .int .i64 u, .int .i64 m], .lst _ ss c 1], H, K => ∃ l : List (List UInt8), Lf ((ss = cellsSM l ∧ c = l.length) ∧ n.length ≤ 9223372036854775807 ∧ ∀ s ∈ l, s.length ≤ 9223372036854775807) ∧ ∀ i e, Lf (matchM n k f u m l = (i, e)) → K (.ret (.tup [.int .i64 i, .int .i64 e])) H
  | _, _, _ => False
theorem match_ok : ValidF Tryz.prog gl0 28 cMatch := by
  refine valid_flat (enters_of (by kernel_rfl)) gl0_noY fun args H Q hc => ?_
  unfold cMatch at hc
  split at hc
  · rename_i n k f u m tg ss c
    obtain ⟨l, ⟨⟨rfl, rfl⟩, h1, h2⟩, hq⟩ := hc
    obtain ⟨hv, hb', h⟩ := match_run tg n k f u m l h1 h2 (Q := fun o H' _ => H' = [] ∧ (∃ v, o = .ret v ∧ old 0 v = true ∧ noY v = true) ∧ Q o H) (fun _ => ⟨rfl, ⟨_, rfl, rfl, rfl⟩, hq _ _ ⟨rfl⟩⟩)
    exact ⟨by simp [oldL, old], by simp [noYL, noY], _, 1000, envFor18 smCk_ok _ _ _, rfl, h⟩
  · exact hc.elim
end Go.Proofs.YtifjpcdpmimccaaGreatDoor

/-
  Chapter 18: Encode; the reference's Right and Octets, proved.
-/
import Derived.Test.YtifjpcdpmimccaaGreatDoorB18Q
set_option linter.unusedSimpArgs false
set_option linter.unusedVariables false
set_option linter.unusedSectionVars false
namespace Go.Proofs.YtifjpcdpmimccaaGreatDoor
open Go.RowKit
set_option maxRecDepth 1000000

theorem asI {α : Type} {p : Prop} {x : α} {K : α → Prop} (h : p) (hk : K x) : Lf p ∧ ∀ s, Lf (s = x) → K s := ⟨⟨h⟩, fun s hs => by rw [hs.h]; exact hk⟩
def octBM (n k : List UInt8) (f u m : Int) : List UInt8 := ((((([UInt8.ofNat 102, UInt8.ofNat 100, UInt8.ofNat 1] ++ beBM 6 m.toNat) ++ beBM 6 f.toNat) ++ beBM 6 u.toNat) ++ beBM 1 n.length) ++ n) ++ k
def encBM (n k : List UInt8) (f u m : Int) : List UInt8 × Int := if rightBM n k f u m = true then (octBM n k f u m, 0) else ([], 180)
theorem be_len : ∀ n v, (beBM n v).length = n
  | 0, _ => rfl
  | n + 1, v => by rw [beBM, List.length_cons, be_len n]
theorem octB_len (n k : List UInt8) (f u m : Int) : (octBM n k f u m).length = 22 + n.length + k.length := by
  simp only [octBM, List.length_append, be_len]
  simp
theorem enc22_run (n k : List UInt8) (f u m : Int) (hn : n.length ≤ 9223372036854775807) (Q : Out → List Blk → Gh → Prop) (hq : Q (.ret (.tup [.str (encBM n k f u m).1, .int .i64 (encBM n k f u m).2])) [] {}) : ∃ hv hb, goal_22 hv hb n k f u m Q := by
  obtain ⟨hv', hb', e'⟩ : ∃ hv hb, goal_22 hv hb n k f u m Q = _ := ⟨_, _, vc_22 n k f u m Q⟩
  refine ⟨hv', hb', e'.mpr ?_⟩
  clear e'
  refine asI hn ?_
  cases hr : rightBM n k f u m with
  | false =>
    rw [encBM, hr] at hq
    exact hq
  | true =>
    rw [encBM, hr] at hq
    obtain ⟨h1, h2, h3, h4, h5, h6, h7⟩ := (right_iff n k f u m).1 hr
    have h8 := ((name_iff n).1 h1).2.1
    have hl : ∀ v, (beBM (Int.toNat 6) v).length = 6 := fun v => be_len 6 v
    have hl1 : ∀ v, (beBM (Int.toNat 1) v).length = 1 := fun v => be_len 1 v
    refine ⟨_, rfl, ?_⟩
    repeat (first
      | ((with_reducible refine ckI ?_ ?_); (focus (first | (simp [eqAVL, eqAV, eqB_refl]; done) | (simp [be_len]; done) | (simp [be_len]; omega))))
      | ((with_reducible refine asI ?_ ?_); (focus (first | exact ⟨by omega, .inr (.inr ⟨rfl, by omega⟩)⟩ | exact ⟨by omega, .inl ⟨rfl, by omega⟩⟩)))
      | with_reducible refine ⟨_, rfl, ?_⟩)
    exact hq
def cEncB : Con
  | [.agg [.str n, .str k, .int .i64 f, .int .i64 u, .int .i64 m]], H, K => Lf (n.length ≤ 9223372036854775807) ∧ ∀ s e, Lf (encBM n k f u m = (s, e)) → K (.ret (.tup [.str s, .int .i64 e])) H
  | _, _, _ => False
theorem encB_ok : ValidF Tryz.prog gl0 22 cEncB := by
  refine valid_flat (enters_of (by kernel_rfl)) gl0_noY fun args H Q hc => ?_
  unfold cEncB at hc
  split at hc
  · rename_i n k f u m
    obtain ⟨⟨h1⟩, hq⟩ := hc
    obtain ⟨hv, hb', h⟩ := enc22_run n k f u m h1 (Q := fun o H' _ => H' = [] ∧ (∃ v, o = .ret v ∧ old 0 v = true ∧ noY v = true) ∧ Q o H) ⟨rfl, ⟨_, rfl, rfl, rfl⟩, hq _ _ ⟨rfl⟩⟩
    exact ⟨rfl, rfl, _, 1000, envFor18 smE_ok _ hv hb', rfl, h⟩
  · exact hc.elim
theorem oct11_run (n k : List UInt8) (f u m : Int) (hr : rightBM n k f u m = true) (Q : Out → List Blk → Gh → Prop) (hq : Q (.ret (.str (octBM n k f u m))) [] {}) : ∃ hv hb, goal_11 hv hb n k f u m Q := by
  obtain ⟨hv', hb', e'⟩ : ∃ hv hb, goal_11 hv hb n k f u m Q = _ := ⟨_, _, vc_11 n k f u m Q⟩
  refine ⟨hv', hb', e'.mpr ?_⟩
  clear e'
  obtain ⟨h1, h2, h3, h4, h5, h6, h7⟩ := (right_iff n k f u m).1 hr
  have h8 := ((name_iff n).1 h1).2.1
  have hl : ∀ v, (beBM (Int.toNat 6) v).length = 6 := fun v => be_len 6 v
  have hl1 : ∀ v, (beBM (Int.toNat 1) v).length = 1 := fun v => be_len 1 v
  repeat (first
    | ((with_reducible refine ckI ?_ ?_); (focus (first | (simp [eqAVL, eqAV, eqB_refl]; done) | (simp [be_len]; done) | (simp [be_len]; omega))))
    | ((with_reducible refine asI ?_ ?_); (focus (first | exact ⟨by omega, .inr (.inr ⟨rfl, by omega⟩)⟩ | exact ⟨by omega, .inl ⟨rfl, by omega⟩⟩)))
    | with_reducible refine ⟨_, rfl, ?_⟩)
  exact hq
def cOctB : Con
  | [.agg [.str n, .str k, .int .i64 f, .int .i64 u, .int .i64 m]], H, K => Lf (rightBM n k f u m = true) ∧ ∀ s, Lf (s = octBM n k f u m) → K (.ret (.str s)) H
  | _, _, _ => False
theorem octB_ok : ValidF Tryz.prog gl0 11 cOctB := by
  refine valid_flat (enters_of (by kernel_rfl)) gl0_noY fun args H Q hc => ?_
  unfold cOctB at hc
  split at hc
  · rename_i n k f u m
    obtain ⟨⟨h1⟩, hq⟩ := hc
    obtain ⟨hv, hb', h⟩ := oct11_run n k f u m h1 (Q := fun o H' _ => H' = [] ∧ (∃ v, o = .ret v ∧ old 0 v = true ∧ noY v = true) ∧ Q o H) ⟨rfl, ⟨_, rfl, rfl, rfl⟩, hq _ ⟨rfl⟩⟩
    exact ⟨rfl, rfl, _, 1000, envFor18 smE_ok _ hv hb', rfl, h⟩
  · exact hc.elim
theorem inner_letter (c : UInt8) : letterM (c.toNat : Int) = (innerM (c.toNat : Int) || isDot c) := by
  have : (isDot c) = (decide ((c.toNat : Int) = 46) || decide ((c.toNat : Int) = 45)) := by
    rw [isDot, dotM, Bool.eq_iff_iff]
    simp [Nat.beq_eq]
    omega
  rw [this, letterM, innerM, Bool.or_assoc]
theorem inner_dot (c : UInt8) (h : innerM (c.toNat : Int) = true) : isDot c = false := by
  rw [← Bool.not_eq_true]
  intro h2
  simp [isDot, dotM, Nat.beq_eq] at h2
  simp [innerM] at h
  omega
theorem right25_run (n k : List UInt8) (f u m : Int) (Q : Out → List Blk → Gh → Prop) (hq : Q (.ret (.bool (rightBM n k f u m))) [] {}) : ∃ hv hb, goal_25 hv hb n k f u m Q := by
  obtain ⟨hv', hb', e'⟩ : ∃ hv hb, goal_25 hv hb n k f u m Q = _ := ⟨_, _, vc_25 n k f u m Q⟩
  refine ⟨hv', hb', e'.mpr ?_⟩
  clear e'
  have no : ¬ (nameM n = true ∧ k.length = 32 ∧ 0 ≤ f ∧ f ≤ u ∧ u ≤ 1099511627776 ∧ 0 ≤ m ∧ m ≤ 281474976710655) → Q (.ret (.bool false)) [] {} := fun h => by
    rwa [show rightBM n k f u m = false by rw [← Bool.not_eq_true, right_iff]; exact h] at hq
  refine ⟨_, rfl, splitD (fun h1 => no (fun h => by have := ((name_iff n).1 h.1).1; omega)) (fun h1 => splitD (fun h2 => no (fun h => by have := ((name_iff n).1 h.1).2.1; omega)) (fun h2 => ckI (by simp; omega) ⟨_, rfl, ?_⟩))⟩
  have dl : ∀ j, j < n.length → n.all (fun c => letterM (c.toNat : Int)) = true → letterM ((n.getD j 0).toNat : Int) = true := fun j hj ha => by
    rw [List.all_eq_true] at ha
    exact ha _ (by rw [List.getD_eq_getElem?_getD, List.getElem?_eq_getElem hj]; exact List.getElem_mem hj)
  rintro b ⟨hb⟩
  rw [show n.getD 0 (UInt8.ofNat 0) = n.getD 0 0 from rfl] at hb
  cases b with
  | false =>
    refine no (fun h => ?_)
    have h3 := (name_iff n).1 h.1
    have h4 := dl 0 (by omega) h3.2.2.2.2
    rw [inner_letter, ← hb, h3.2.2.1] at h4
    cases h4
  | true =>
    have e1 : ((n.length : Int) - 1).toNat = n.length - 1 := by omega
    refine wrapI (by omega) (by omega) (ckI (by simp; omega) ⟨_, rfl, ?_⟩)
    rw [e1]
    rintro b ⟨hb2⟩
    rw [show n.getD (n.length - 1) (UInt8.ofNat 0) = n.getD (n.length - 1) 0 from rfl] at hb2
    cases b with
    | false =>
      refine no (fun h => ?_)
      have h3 := (name_iff n).1 h.1
      have h4 := dl (n.length - 1) (by omega) h3.2.2.2.2
      rw [inner_letter, ← hb2, h3.2.2.2.1] at h4
      cases h4
    | true =>
      have d1 := inner_dot _ hb.symm
      have d2 := inner_dot _ hb2.symm
      refine ⟨⟨0, ⟨by omega, rfl⟩, rfl, rfl, rfl, rfl, trivial⟩, ?_⟩
      rintro i ⟨hi, ha⟩
      refine ⟨_, rfl, splitD (fun h3 => ?_) (fun h3 => ?_)⟩
      · have hlt : i < n.length := by omega
        have hc := (n.getD i 0).toNat_lt
        refine ⟨_, rfl, ckI (by simp; omega) ⟨_, rfl, ?_⟩⟩
        rw [Int.toNat_natCast]
        have hgo : letterM ((n.getD i 0).toNat : Int) = true → (List.take (i + 1) n).all (fun c => letterM (c.toNat : Int)) = true := all_take1 hlt ha
        rintro b ⟨hb3⟩
        have h0 : n.getD i (UInt8.ofNat 0) = n.getD i 0 := rfl
        rw [h0] at hb3
        have fin : letterM ((n.getD i 0).toNat : Int) = true → exI IntKind.i64 (i : Int) fun n_11 => exW IntKind.i64 (n_11 + 1) fun n_12 => (True ∧ (0 : Nat) = (0 : Nat)) ∧ ∃ y_13 : Nat, Lf (y_13 ≤ n.length ∧ List.all (n.take y_13) (fun (c_14 : UInt8) => letterM (UInt8.toNat c_14 : Int)) = Bool.true) ∧ n.length - y_13 < n.length - i ∧ eqqQ [AV.str n, .str k, .int IntKind.i64 f, .int IntKind.i64 u, .int IntKind.i64 m] ∧ eqqQ (AV.ptr 0 5 0) ∧ eqqQ (AV.int IntKind.i64 (n.length : Int)) ∧ AV.int IntKind.i64 n_12 = AV.int IntKind.i64 (y_13 : Int) ∧ True := fun h => ⟨_, rfl, wrapI (by omega) (by omega) ⟨⟨trivial, rfl⟩, i + 1, ⟨by omega, hgo h⟩, by omega, rfl, rfl, rfl, rfl, trivial⟩⟩
        cases b with
        | true => exact fin (by rw [inner_letter, ← hb3]; rfl)
        | false =>
          refine ⟨_, rfl, ckI (by simp; omega) ⟨_, rfl, ?_⟩⟩
          rw [Int.toNat_natCast, h0]
          refine splitNE (fun h5 => ⟨_, rfl, ckI (by simp; omega) ⟨_, rfl, ?_⟩⟩) (fun h5 => fin ?_)
          · rw [Int.toNat_natCast, h0]
            refine splitNE (fun h6 => no (fun h => ?_)) (fun h6 => fin ?_)
            · have h7 := dl i hlt ((name_iff n).1 h.1).2.2.2.2
              rw [inner_letter, ← hb3, Bool.false_or, isDot, dotM] at h7
              simp [Nat.beq_eq] at h7 h5 h6
              omega
            · rw [inner_letter, isDot, dotM, show (n.getD i 0).toNat = 45 by omega]
              simp
          · rw [inner_letter, isDot, dotM, show (n.getD i 0).toNat = 46 by omega]
            simp
      · have hi2 : i = n.length := by omega
        subst hi2
        rw [List.take_of_length_le (Nat.le_refl _)] at ha
        have hnm : nameM n = true := (name_iff n).2 ⟨by omega, by omega, d1, d2, ha⟩
        have yes : k.length = 32 ∧ 0 ≤ f ∧ f ≤ u ∧ u ≤ 1099511627776 ∧ 0 ≤ m ∧ m ≤ 281474976710655 → Q (.ret (.bool true)) [] {} := fun h => by
          rwa [(right_iff n k f u m).2 ⟨hnm, h⟩] at hq
        exact ⟨_, rfl, splitE (fun a1 => splitD (fun a2 => splitD (fun a3 => splitD (fun a4 => splitD (fun a5 => splitD (fun a6 => yes ⟨by omega, a2, a3, a4, a5, by omega⟩) (fun a => no (fun h => a (by omega)))) (fun a => no (fun h => a h.2.2.2.2.2.1))) (fun a => no (fun h => a h.2.2.2.2.1))) (fun a => no (fun h => a h.2.2.2.1))) (fun a => no (fun h => a h.2.2.1))) (fun a => no (fun h => a (by omega)))⟩
def cRightB : Con
  | [.agg [.str n, .str k, .int .i64 f, .int .i64 u, .int .i64 m]], H, K => ∀ b, Lf (b = rightBM n k f u m) → K (.ret (.bool b)) H
  | _, _, _ => False
theorem right25_ok : ValidF Tryz.prog gl0 25 cRightB := by
  refine valid_flat (enters_of (by kernel_rfl)) gl0_noY fun args H Q hc => ?_
  unfold cRightB at hc
  split at hc
  · rename_i n k f u m
    obtain ⟨hv, hb', h⟩ := right25_run n k f u m (Q := fun o H' _ => H' = [] ∧ (∃ v, o = .ret v ∧ old 0 v = true ∧ noY v = true) ∧ Q o H) ⟨rfl, ⟨_, rfl, rfl, rfl⟩, hc _ ⟨rfl⟩⟩
    exact ⟨rfl, rfl, _, 1000, envFor18 smR25_ok _ hv hb', rfl, h⟩
  · exact hc.elim
end Go.Proofs.YtifjpcdpmimccaaGreatDoor

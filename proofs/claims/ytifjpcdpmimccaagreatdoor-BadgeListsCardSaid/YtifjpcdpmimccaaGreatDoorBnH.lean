/-
  Chapter 18: valid badges, proved; Encode; the reference's Right and Octets.
-/
import Derived.Test.YtifjpcdpmimccaaGreatDoorB18O
set_option linter.unusedSimpArgs false
set_option linter.unusedVariables false
set_option linter.unusedSectionVars false
namespace Go.Proofs.YtifjpcdpmimccaaGreatDoor
open Go.RowKit
set_option maxRecDepth 1000000

theorem eqB_refl (s : List UInt8) : eqB s s = true := by
 rw [eqB_iff, beq_iff_eq]
theorem dw_len (l : List UInt8) : (l.dropWhile isDot).length ≤ l.length := (List.dropWhile_sublist isDot).length_le
theorem rightT_len (l : List UInt8) : (rightT l).length ≤ l.length := by
 have := dw_len l.reverse
 rw [rightT, List.length_reverse]
 rwa [List.length_reverse] at this
theorem trim_eq {n : List UInt8} (h : 0 < n.length) : trimM n = n ↔ isDot (n.getD 0 0) = false ∧ isDot (n.getD (n.length - 1) 0) = false := by
 have hsp := last_split h
 constructor
 ·intro e
  have h1 := dw_len (rightT n)
  have h2 := rightT_len n
  have h3 : (rightT n).length = n.length := by
   rw [trimM] at e
   have := congrArg List.length e
   omega
  have hl : isDot (n.getD (n.length - 1) 0) = false := by
   cases hd : isDot (n.getD (n.length - 1) 0) with
   | false => rfl
   | true =>
    have e2 : rightT n = rightT (n.take (n.length - 1)) := by
     conv => lhs; rw [hsp]
     exact rightT_yes hd
    have h5 := rightT_len (n.take (n.length - 1))
    rw [← e2, h3, List.length_take] at h5
    omega
  have h4 : rightT n = n := by
   conv => lhs; rw [hsp]
   rw [rightT_no hl]
   exact hsp.symm
  rw [trimM, h4] at e
  refine ⟨?_, hl⟩
  cases n with
  | nil => simp at h
  | cons c t =>
   cases hd : isDot c with
   | false => exact hd
   | true =>
    rw [List.dropWhile_cons, hd, if_pos rfl] at e
    have := dw_len t
    rw [e, List.length_cons] at this
    omega
 ·rintro ⟨h1, h2⟩
  have h4 : rightT n = n := by
   conv => lhs; rw [hsp]
   rw [rightT_no h2]
   exact hsp.symm
  rw [trimM, h4]
  cases n with
  | nil => rfl
  | cons c t =>
   rw [List.dropWhile_cons, show isDot c = false from h1]
   rfl
theorem name_iff (n : List UInt8) : nameM n = true ↔ 1 ≤ n.length ∧ n.length ≤ 32 ∧ isDot (n.getD 0 0) = false ∧ isDot (n.getD (n.length - 1) 0) = false ∧ n.all (fun c => letterM (c.toNat : Int)) = true := by
 simp only [nameM, Bool.and_eq_true, Nat.ble_eq, Bool.not_eq_true']
theorem right_iff (n k : List UInt8) (f u m : Int) : rightBM n k f u m = true ↔ nameM n = true ∧ k.length = 32 ∧ 0 ≤ f ∧ f ≤ u ∧ u ≤ 1099511627776 ∧ 0 ≤ m ∧ m ≤ 281474976710655 := by
 simp only [rightBM, Bool.and_eq_true, Nat.beq_eq, decide_eq_true_eq]
theorem all_bad {n : List UInt8} {i : Nat} {p : UInt8 → Bool} (hi : i < n.length) (h : p (n.getD i 0) = false) : n.all p = false := by
 rw [← Bool.not_eq_true, List.all_eq_true]
 intro hx
 have := hx (n.getD i 0) (by rw [List.getD_eq_getElem?_getD, List.getElem?_eq_getElem hi]; exact List.getElem_mem hi)
 rw [h] at this
 cases this
theorem all_take1 {n : List UInt8} {i : Nat} {p : UInt8 → Bool} (hi : i < n.length) (ht : (n.take i).all p = true) (h : p (n.getD i 0) = true) : (n.take (i + 1)).all p = true := by
 rw [List.take_add_one, List.getElem?_eq_getElem hi, List.all_append, ht]
 rw [List.getD_eq_getElem?_getD, List.getElem?_eq_getElem hi] at h
 simpa using h
theorem valid50_run (n k : List UInt8) (f u m : Int) (hn : n.length ≤ 9223372036854775807) (Q : Out → List Blk → Gh → Prop) (hq : ∀ g, Q (.ret (.bool (rightBM n k f u m))) [] g) : ∃ hv hb, goal_50 hv hb n k f u m Q := by
 obtain ⟨hv', hb', e'⟩ : ∃ hv hb, goal_50 hv hb n k f u m Q = _ := ⟨_, _, vc_50 n k f u m Q⟩
 refine ⟨hv', hb', e'.mpr ?_⟩
 clear e'
 have no : ¬ (nameM n = true ∧ k.length = 32 ∧ 0 ≤ f ∧ f ≤ u ∧ u ≤ 1099511627776 ∧ 0 ≤ m ∧ m ≤ 281474976710655) → ∀ g, Q (.ret (.bool false)) [] g := fun h g => by
  have := hq g
  rwa [show rightBM n k f u m = false by rw [← Bool.not_eq_true, right_iff]; exact h] at this
 refine ⟨_, rfl, splitD (fun h1 => no (fun h => by have := ((name_iff n).1 h.1).1; omega) _) (fun h1 => ⟨_, rfl, splitD (fun h2 => no (fun h => by have := ((name_iff n).1 h.1).2.1; omega) _) (fun h2 => ⟨⟨hn⟩, ?_⟩)⟩)⟩
 rintro x ⟨rfl⟩
 refine ckI (by simp [eqAVL, eqAV, eqB_refl]) ?_
 cases he : eqB (trimM n) n with
 | false =>
  refine no (fun h => ?_) _
  have h3 := (name_iff n).1 h.1
  have := (trim_eq (n := n) (by omega)).2 ⟨h3.2.2.1, h3.2.2.2.1⟩
  rw [← Bool.not_eq_true, eqB_iff, beq_iff_eq] at he
  exact he this
 | true =>
  rw [eqB_iff, beq_iff_eq] at he
  obtain ⟨d1, d2⟩ := (trim_eq (n := n) (by omega)).1 he
  refine ⟨⟨0, ⟨by omega, rfl⟩, rfl, rfl, rfl, rfl, rfl, rfl, trivial⟩, ?_⟩
  rintro i ⟨hi, ha⟩
  refine ⟨_, rfl, _, rfl, splitD (fun h3 => ?_) (fun h3 => ?_)⟩
  ·refine ⟨_, rfl, ckI (by simp; omega) ⟨_, rfl, ?_⟩⟩
   rintro b ⟨hb⟩
   rw [Int.toNat_natCast] at hb
   cases b with
   | true => exact ⟨_, rfl, wrapI (by omega) (by omega) ⟨⟨rfl, rfl⟩, i + 1, ⟨by omega, all_take1 (by omega) ha hb.symm⟩, by omega, rfl, rfl, rfl, rfl, rfl, rfl, trivial⟩⟩
   | false =>
    refine no (fun h => ?_) _
    have h4 := ((name_iff n).1 h.1).2.2.2.2
    rw [all_bad (by omega) hb.symm] at h4
    cases h4
  ·have hi2 : i = n.length := by omega
   subst hi2
   rw [List.take_of_length_le (Nat.le_refl _)] at ha
   have hnm : nameM n = true := (name_iff n).2 ⟨by omega, by omega, d1, d2, ha⟩
   have yes : k.length = 32 ∧ 0 ≤ f ∧ f ≤ u ∧ u ≤ 1099511627776 ∧ 0 ≤ m ∧ m ≤ 281474976710655 → ∀ g, Q (.ret (.bool true)) [] g := fun h g => by
    have := hq g
    rwa [(right_iff n k f u m).2 ⟨hnm, h⟩] at this
   exact ⟨_, rfl, splitE (fun a1 => splitD (fun a2 => splitD (fun a3 => splitD (fun a4 => splitD (fun a5 => splitD (fun a6 => yes ⟨by omega, a2, a3, a4, a5, a6⟩ _) (fun a => no (fun h => a h.2.2.2.2.2.2) _)) (fun a => no (fun h => a h.2.2.2.2.2.1) _)) (fun a => no (fun h => a h.2.2.2.2.1) _)) (fun a => no (fun h => a h.2.2.2.1) _)) (fun a => no (fun h => a h.2.2.1) _)) (fun a => no (fun h => a (by omega)) _)⟩
def cValid : Con
 | [.agg [.str n, .str k, .int .i64 f, .int .i64 u, .int .i64 m]], H, K => Lf (n.length ≤ 9223372036854775807) ∧ ∀ b, Lf (b = rightBM n k f u m) → K (.ret (.bool b)) H
 | _, _, _ => False
theorem valid50_ok : ValidF Tryz.prog gl0 50 cValid := by
 refine valid_flat (enters_of (by kernel_rfl)) gl0_noY fun args H Q hc => ?_
 unfold cValid at hc
 split at hc
 ·rename_i n k f u m
  obtain ⟨⟨h1⟩, hq⟩ := hc
  obtain ⟨hv, hb', h⟩ := valid50_run n k f u m h1 (Q := fun o H' _ => H' = [] ∧ (∃ v, o = .ret v ∧ old 0 v = true ∧ noY v = true) ∧ Q o H) (fun _ => ⟨rfl, ⟨_, rfl, rfl, rfl⟩, hq _ ⟨rfl⟩⟩)
  exact ⟨rfl, rfl, _, 1000, envFor18 smV_ok _ hv hb', rfl, h⟩
 ·exact hc.elim
def smE : SM := lookS [(42, cPut), (50, cValid), (55, cPut)]
theorem smE_ok : ∀ f g, smE f = some g → ValidF Tryz.prog gl0 f g := lookS_ok _ (by simp only [List.mem_cons, List.not_mem_nil, or_false, forall_eq_or_imp, forall_eq]; exact ⟨rput_ok, valid50_ok, put_ok⟩)
noncomputable def goal_22 (hv : Nat → Option Pa) (hb : Nat → Option Bool) (n k : List UInt8) (f u m : Int) (Q : Out → List Blk → Gh → Prop) : Prop :=
 callx (e18 smE (fun _ => none) hv hb) (wpx (e18 smE (fun _ => none) hv hb) 1000) 22 [.agg (bdg n k f u m)] [] {} Q
theorem vc_22 (n : List UInt8) (k : List UInt8) (f : Int) (u : Int) (m : Int) (Q : Out → List Blk → Gh → Prop) : goal_22 (lookV [(90133, .int .i64), (90122, .str), (90126, .str), (90130, .str), (90135, .str), (90138, .str), (90141, .str)])
 (lookB []) n k f u m Q = (Lf (n.length ≤ 9223372036854775807) ∧ ∀ b_0 : Bool, Lf (b_0 = rightBM n k f u m) → bif b_0 then exI .i64 (n.length : Int) fun n_1 => Lf (0 ≤ m ∧ ((6 : Int) = (1 : Int) ∧ m ≤ 255 ∨ (6 : Int) = (2 : Int) ∧ m ≤ 65535
 ∨ (6 : Int) = (6 : Int) ∧ m ≤ 281474976710655)) ∧ ∀ s_2 : List UInt8, Lf (s_2 = beBM (Int.toNat 6) m.toNat) → ckQ (eqAVL [.str k] [.str k] && true) (ckQ (eqAVL [.str n] [.str n] && true) (ckQ (eqAVL [.str n] [.str n] && true) (ckQ (eqAVL
 [.int .i64 u] [.int .i64 u] && true) (ckQ (eqAVL [.int .i64 f] [.int .i64 f] && true) (ckQ (decide (3 + s_2.length ≤ 9223372036854775807) && true) (exS (.str ([UInt8.ofNat 102, UInt8.ofNat 100, UInt8.ofNat 1] ++ s_2)) fun s_3 => Lf (0 ≤ f
 ∧ ((6 : Int) = (1 : Int) ∧ f ≤ 255 ∨ (6 : Int) = (2 : Int) ∧ f ≤ 65535 ∨ (6 : Int) = (6 : Int) ∧ f ≤ 281474976710655)) ∧ ∀ s_4 : List UInt8, Lf (s_4 = beBM (Int.toNat 6) f.toNat) → ckQ (eqAVL [.str k] [.str k] && true) (ckQ (eqAVL [.str n]
 [.str n] && true) (ckQ (eqAVL [.str n] [.str n] && true) (ckQ (eqAVL [.int .i64 u] [.int .i64 u] && true) (ckQ (decide (s_3.length + s_4.length ≤ 9223372036854775807) && true) (exS (.str (s_3 ++ s_4)) fun s_5 => Lf (0 ≤ u ∧ ((6 : Int) = (1
 : Int) ∧ u ≤ 255 ∨ (6 : Int) = (2 : Int) ∧ u ≤ 65535 ∨ (6 : Int) = (6 : Int) ∧ u ≤ 281474976710655)) ∧ ∀ s_6 : List UInt8, Lf (s_6 = beBM (Int.toNat 6) u.toNat) → ckQ (eqAVL [.str k] [.str k] && true) (ckQ (eqAVL [.str n] [.str n] && true)
 (ckQ (eqAVL [.str n] [.str n] && true) (ckQ (decide (s_5.length + s_6.length ≤ 9223372036854775807) && true) (exS (.str (s_5 ++ s_6)) fun s_7 => Lf (0 ≤ n_1 ∧ ((1 : Int) = (1 : Int) ∧ n_1 ≤ 255 ∨ (1 : Int) = (2 : Int) ∧ n_1 ≤ 65535 ∨ (1 :
 Int) = (6 : Int) ∧ n_1 ≤ 281474976710655)) ∧ ∀ s_8 : List UInt8, Lf (s_8 = beBM (Int.toNat 1) n_1.toNat) → ckQ (eqAVL [.str k] [.str k] && true) (ckQ (eqAVL [.str n] [.str n] && true) (ckQ (decide (s_7.length + s_8.length ≤
 9223372036854775807) && true) (exS (.str (s_7 ++ s_8)) fun s_9 => ckQ (decide (s_9.length + n.length ≤ 9223372036854775807) && true) (exS (.str (s_9 ++ n)) fun s_10 => ckQ (decide (s_10.length + k.length ≤ 9223372036854775807) && true)
 (exS (.str (s_10 ++ k)) fun s_11 => Q (.ret (.tup [.str s_11, .int .i64 0])) [] {})))))))))))))))))))) else Q (.ret (.tup [.str [], .int .i64 180])) [] {}) := by kernel_rfl

end Go.Proofs.YtifjpcdpmimccaaGreatDoor

set_option linter.unusedSimpArgs false
set_option linter.unusedVariables false
set_option linter.unusedSectionVars false
namespace Go.Proofs.YtifjpcdpmimccaaGreatDoor
open Go.RowKit
set_option maxRecDepth 1000000

theorem asI {α : Type} {p : Prop} {x : α} {K : α → Prop} (h : p) (hk : K x) : Lf p ∧ ∀ s, Lf (s = x) → K s := ⟨⟨h⟩, fun s hs => by rw [hs.h]; exact hk⟩
def octBM (n k : List UInt8) (f u m : Int) : List UInt8 := ((((([UInt8.ofNat 102, UInt8.ofNat 100, UInt8.ofNat 1] ++ beBM 6 m.toNat) ++ beBM 6 f.toNat) ++ beBM 6 u.toNat) ++ beBM 1 n.length) ++ n) ++ k
def encBM (n k : List UInt8) (f u m : Int) : List UInt8 × Int := if rightBM n k f u m = true then (octBM n k f u m, 0) else ([], 180)
theorem be_len : ∀ n v, (beBM n v).length = n
 | 0, _ => rfl
 | n + 1, v => by rw [beBM, List.length_cons, be_len n]
theorem octB_len (n k : List UInt8) (f u m : Int) : (octBM n k f u m).length = 22 + n.length + k.length := by
 simp only [octBM, List.length_append, be_len]
 simp
theorem enc22_run (n k : List UInt8) (f u m : Int) (hn : n.length ≤ 9223372036854775807) (Q : Out → List Blk → Gh → Prop) (hq : Q (.ret (.tup [.str (encBM n k f u m).1, .int .i64 (encBM n k f u m).2])) [] {}) : ∃ hv hb, goal_22 hv hb n k f u m Q := by
 obtain ⟨hv', hb', e'⟩ : ∃ hv hb, goal_22 hv hb n k f u m Q = _ := ⟨_, _, vc_22 n k f u m Q⟩
 refine ⟨hv', hb', e'.mpr ?_⟩
 clear e'
 refine asI hn ?_
 cases hr : rightBM n k f u m with
 | false =>
  rw [encBM, hr] at hq
  exact hq
 | true =>
  rw [encBM, hr] at hq
  obtain ⟨h1, h2, h3, h4, h5, h6, h7⟩ := (right_iff n k f u m).1 hr
  have h8 := ((name_iff n).1 h1).2.1
  have hl : ∀ v, (beBM (Int.toNat 6) v).length = 6 := fun v => be_len 6 v
  have hl1 : ∀ v, (beBM (Int.toNat 1) v).length = 1 := fun v => be_len 1 v
  refine ⟨_, rfl, ?_⟩
  repeat (first
   | ((with_reducible refine ckI ?_ ?_); (focus (first | (simp [eqAVL, eqAV, eqB_refl]; done) | (simp [be_len]; done) | (simp [be_len]; omega))))
   | ((with_reducible refine asI ?_ ?_); (focus (first | exact ⟨by omega, .inr (.inr ⟨rfl, by omega⟩)⟩ | exact ⟨by omega, .inl ⟨rfl, by omega⟩⟩)))
   | with_reducible refine ⟨_, rfl, ?_⟩)
  exact hq
def cEncB : Con
 | [.agg [.str n, .str k, .int .i64 f, .int .i64 u, .int .i64 m]], H, K => Lf (n.length ≤ 9223372036854775807) ∧ ∀ s e, Lf (encBM n k f u m = (s, e)) → K (.ret (.tup [.str s, .int .i64 e])) H
 | _, _, _ => False
theorem encB_ok : ValidF Tryz.prog gl0 22 cEncB := by
 refine valid_flat (enters_of (by kernel_rfl)) gl0_noY fun args H Q hc => ?_
 unfold cEncB at hc
 split at hc
 ·rename_i n k f u m
  obtain ⟨⟨h1⟩, hq⟩ := hc
  obtain ⟨hv, hb', h⟩ := enc22_run n k f u m h1 (Q := fun o H' _ => H' = [] ∧ (∃ v, o = .ret v ∧ old 0 v = true ∧ noY v = true) ∧ Q o H) ⟨rfl, ⟨_, rfl, rfl, rfl⟩, hq _ _ ⟨rfl⟩⟩
  exact ⟨rfl, rfl, _, 1000, envFor18 smE_ok _ hv hb', rfl, h⟩
 ·exact hc.elim
end Go.Proofs.YtifjpcdpmimccaaGreatDoor

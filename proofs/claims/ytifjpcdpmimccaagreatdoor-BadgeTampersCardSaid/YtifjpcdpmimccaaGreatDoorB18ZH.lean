/-
  Chapter 18: Bend.Of and Draft.Badge proved.
-/
import Derived.Test.YtifjpcdpmimccaaGreatDoorB18ZG
set_option linter.unusedSimpArgs false
set_option linter.unusedVariables false
set_option linter.unusedSectionVars false
namespace Go.Proofs.YtifjpcdpmimccaaGreatDoor
open Go.RowKit
set_option maxRecDepth 1000000

abbrev Bd := List UInt8 × List UInt8 × Int × Int × Int
def bendM (w v : Int) (s n k : List UInt8) (f u m : Int) : Bd :=
  if w.tmod 5 = 0 then (s, k, f, u, m) else if w.tmod 5 = 1 then (n, s, f, u, m) else if w.tmod 5 = 2 then (n, k, v, u, m) else if w.tmod 5 = 3 then (n, k, f, v, m) else (n, k, f, u, v)
theorem bend_run (w v : Int) (s n k : List UInt8) (f u m : Int) (Q : Out → List Blk → Gh → Prop) (hq : ∀ n' k' f' u' m', bendM w v s n k f u m = (n', k', f', u', m') → Q (.ret (.agg [.str n', .str k', .int .i64 f', .int .i64 u', .int .i64 m'])) [] {}) : ∃ hv hb, goal_20 hv hb w v s n k f u m Q := by
  obtain ⟨hv', hb', e'⟩ : ∃ hv hb, goal_20 hv hb w v s n k f u m Q = _ := ⟨_, _, vc_20 w v s n k f u m Q⟩
  refine ⟨hv', hb', e'.mpr ?_⟩
  clear e'
  unfold bendM at hq
  refine ⟨_, rfl, splitE (fun h1 => ?_) (fun h1 => splitE (fun h2 => ?_) (fun h2 => splitE (fun h3 => ?_) (fun h3 => splitE (fun h4 => ?_) (fun h4 => ?_))))⟩
  · exact hq _ _ _ _ _ (by rw [if_pos h1])
  · exact hq _ _ _ _ _ (by rw [if_neg h1, if_pos h2])
  · exact hq _ _ _ _ _ (by rw [if_neg h1, if_neg h2, if_pos h3])
  · exact hq _ _ _ _ _ (by rw [if_neg h1, if_neg h2, if_neg h3, if_pos h4])
  · exact hq _ _ _ _ _ (by rw [if_neg h1, if_neg h2, if_neg h3, if_neg h4])
def cBend : Con
  | [.agg [.int .u8 w, .int .i64 v, .str s], .agg [.str n, .str k, .int .i64 f, .int .i64 u, .int .i64 m]], H, K => ∀ n' k' f' u' m', Lf (bendM w v s n k f u m = (n', k', f', u', m')) → K (.ret (.agg [.str n', .str k', .int .i64 f', .int .i64 u', .int .i64 m'])) H
  | _, _, _ => False
theorem bend_ok : ValidF Tryz.prog gl0 20 cBend := by
  refine valid_flat (enters_of (by kernel_rfl)) gl0_noY fun args H Q hc => ?_
  unfold cBend at hc
  split at hc
  · rename_i w v s n k f u m
    obtain ⟨hv, hb', h⟩ := bend_run w v s n k f u m (Q := fun o H' _ => H' = [] ∧ (∃ v, o = .ret v ∧ old 0 v = true ∧ noY v = true) ∧ Q o H) (fun _ _ _ _ _ h => ⟨rfl, ⟨_, rfl, rfl, rfl⟩, hc _ _ _ _ _ ⟨h⟩⟩)
    exact ⟨rfl, rfl, _, 1000, envFor18 sm0_ok _ _ _, rfl, h⟩
  · exact hc.elim
def letL : List UInt8 := [UInt8.ofNat 97, UInt8.ofNat 98, UInt8.ofNat 99, UInt8.ofNat 100, UInt8.ofNat 101, UInt8.ofNat 102, UInt8.ofNat 103, UInt8.ofNat 104, UInt8.ofNat 105, UInt8.ofNat 106, UInt8.ofNat 107, UInt8.ofNat 108, UInt8.ofNat 109, UInt8.ofNat 110, UInt8.ofNat 111, UInt8.ofNat 112, UInt8.ofNat 113, UInt8.ofNat 114, UInt8.ofNat 115, UInt8.ofNat 116, UInt8.ofNat 117, UInt8.ofNat 118, UInt8.ofNat 119, UInt8.ofNat 120, UInt8.ofNat 121, UInt8.ofNat 122, UInt8.ofNat 65, UInt8.ofNat 66, UInt8.ofNat 67, UInt8.ofNat 68, UInt8.ofNat 69, UInt8.ofNat 70, UInt8.ofNat 71, UInt8.ofNat 72, UInt8.ofNat 73, UInt8.ofNat 74, UInt8.ofNat 75, UInt8.ofNat 76, UInt8.ofNat 77, UInt8.ofNat 78, UInt8.ofNat 79, UInt8.ofNat 80, UInt8.ofNat 81, UInt8.ofNat 82, UInt8.ofNat 83, UInt8.ofNat 84, UInt8.ofNat 85, UInt8.ofNat 86, UInt8.ofNat 87, UInt8.ofNat 88, UInt8.ofNat 89, UInt8.ofNat 90, UInt8.ofNat 48, UInt8.ofNat 49, UInt8.ofNat 50, UInt8.ofNat 51, UInt8.ofNat 52, UInt8.ofNat 53, UInt8.ofNat 54, UInt8.ofNat 55, UInt8.ofNat 56, UInt8.ofNat 57, UInt8.ofNat 46, UInt8.ofNat 45]
theorem letL_ok (q : Nat) (h : q < 64) : ((letL.drop q).take 1).length = 1 ∧ ((letL.drop q).take 1).all ltM = true := by
  have : ∀ j : Fin 64, ((letL.drop j).take 1).length = 1 ∧ ((letL.drop j).take 1).all ltM = true := by decide
  exact this ⟨q, h⟩
theorem getU {d : List UInt8} {i m : Nat} (hi : i < d.length) (hm : m = i) {K : Int → Prop} (hk : K (d[i].toNat : Int)) : ∃ n : Int, (ofBytes d).getD m AV.undef = AV.int .u8 n ∧ K n := by
  subst hm
  refine ⟨_, ?_, hk⟩
  simp [ofBytes, List.getD_eq_getElem?_getD, hi]
theorem bytes_len (d : List UInt8) : (ofBytes d).length = d.length := by simp [ofBytes]
theorem name_mid {p : List UInt8} (h1 : p.length ≤ 30) (h2 : p.all ltM = true) : nameM ((97 :: p) ++ [122]) = true := by
  rw [name_iff]
  refine ⟨by simp, by simp; omega, (by decide : isDot 97 = false), ?_, ?_⟩
  · have e : ((97 :: p) ++ [122]).getD (((97 :: p) ++ [122]).length - 1) 0 = (122 : UInt8) := by
      rw [List.getD_eq_getElem?_getD, List.length_append, List.length_singleton, Nat.add_sub_cancel, List.getElem?_concat_length]
      rfl
    rw [e]; decide
  · rw [List.all_append, List.all_cons]
    have : p.all (fun c => letterM (c.toNat : Int)) = true := h2
    rw [this]; decide
theorem name_a : nameM [97] = true := by decide
theorem draft_run (tg : Nat) (d : List UInt8) (ky fr af nu : Int) (hd : d.length ≤ 9223372036854775807) (hf : 0 ≤ fr ∧ fr ≤ 65535) (ha : 0 ≤ af ∧ af ≤ 65535) (hn : 0 ≤ nu ∧ nu ≤ 4294967295) (Q : Out → List Blk → Gh → Prop) (hq : ∀ n k f u m g, rightBM n k f u m = true → Q (.ret (.agg [.str n, .str k, .int .i64 f, .int .i64 u, .int .i64 m])) [] g) : ∃ hv hb, goal_12 hv hb tg d ky fr af nu Q := by
  obtain ⟨hv', hb', e'⟩ : ∃ hv hb, goal_12 hv hb tg d ky fr af nu Q = _ := ⟨_, _, vc_12 tg d ky fr af nu Q⟩
  refine ⟨hv', hb', e'.mpr ?_⟩
  clear e'
  refine ⟨⟨([], 0), ⟨rfl, by omega, by omega, rfl⟩, rfl, rfl, rfl, rfl, rfl, rfl, trivial⟩, ?_⟩
  rintro ⟨p, i⟩ ⟨p1, p2, p3, p4⟩
  simp only at p1 p2 p3 p4
  have nz := name_mid (p := p) (by omega) p4
  refine ⟨_, rfl, _, rfl, splitD (fun h1 => ⟨_, rfl, splitD (fun h2 => ?_) (fun h2 => ?_)⟩) (fun h1 => ?_)⟩
  · have hi : i < d.length := by have h1' : (i : Int) < (d.length : Int) := h1; omega
    have h2' : (i : Int) < 30 := h2
    obtain ⟨q, hq0, hq1⟩ : ∃ q : Nat, Int.tmod (d[i].toNat : Int) 64 = (q : Int) ∧ q < 64 := ⟨d[i].toNat % 64, by rw [Int.tmod_eq_emod_of_nonneg (by omega)]; omega, by omega⟩
    have hl := letL_ok q hq1
    refine ⟨_, rfl, _, rfl, ckI (by rw [Bool.and_true]; exact idxOk (by show (0 : Int) ≤ (i : Int); omega) h1) (ckI (by rw [bytes_len, Nat.blt_eq]; show (Int.toNat (i : Int)) * 1 < _; omega) (getU hi (by show (Int.toNat (i : Int)) * 1 = _; omega) ⟨(q : Int), congrArg _ hq0, _, rfl, ckI (by rw [Bool.and_true]; exact idxOk (by show (0 : Int) ≤ (i : Int); omega) h1) (ckI (by rw [bytes_len, Nat.blt_eq]; show (Int.toNat (i : Int)) * 1 < _; omega) (getU hi (by show (Int.toNat (i : Int)) * 1 = _; omega) ⟨(q : Int), congrArg _ hq0, wrapU8 (by omega) (by omega) (ckI ?_ ⟨_, rfl, ckI ?_ ⟨_, rfl, _, rfl, wrapI (by show _ ≤ (i : Int) + 1; omega) (by show (i : Int) + 1 ≤ _; omega) ⟨⟨trivial, rfl⟩, (p ++ (letL.drop q).take 1, i + 1), ⟨?_⟩, by show 30 - (i + 1) < 30 - i; omega, rfl, rfl, rfl, ?_, rfl, rfl, trivial⟩⟩⟩)⟩))⟩))⟩
    have e : ((q : Int) + 1).toNat - (Int.toNat (q : Int)) = 1 := by omega
    have e2 : (letL.drop (Int.toNat (q : Int))).take (((q : Int) + 1).toNat - (Int.toNat (q : Int))) = (letL.drop q).take 1 := by rw [e]; rfl
    · simp only [Bool.and_eq_true, decide_eq_true_eq, Nat.ble_eq]; omega
    · rw [Bool.and_true, decide_eq_true_eq]
      show (97 :: p).length + ((letL.drop (Int.toNat (q : Int))).take (((q : Int) + 1).toNat - (Int.toNat (q : Int)))).length ≤ _
      have e2 : (letL.drop (Int.toNat (q : Int))).take (((q : Int) + 1).toNat - (Int.toNat (q : Int))) = (letL.drop q).take 1 := by rw [show ((q : Int) + 1).toNat - (Int.toNat (q : Int)) = 1 by omega]; rfl
      rw [e2, hl.1, List.length_cons]; omega
    · refine ⟨by show (p ++ (letL.drop q).take 1).length = i + 1; rw [List.length_append, hl.1, p1], by show i + 1 ≤ 30; omega, by show i + 1 ≤ d.length; omega, ?_⟩
      show (p ++ (letL.drop q).take 1).all ltM = true
      rw [List.all_append, p4, hl.2]; rfl
    · have e2 : (letL.drop (Int.toNat (q : Int))).take (((q : Int) + 1).toNat - (Int.toNat (q : Int))) = (letL.drop q).take 1 := by rw [show ((q : Int) + 1).toNat - (Int.toNat (q : Int)) = 1 by omega]; rfl
      exact congrArg (fun z => AV.str ((97 :: p) ++ z)) e2
  all_goals
    refine ⟨_, rfl, ckI (by rw [Bool.and_true, decide_eq_true_eq]; show (97 :: p).length + 1 ≤ _; rw [List.length_cons]; omega) ⟨_, rfl, _, rfl, _, rfl, splitE (fun _ => ckI (by rw [Nat.ble_eq]; simp) ⟨_, rfl, ?_⟩) (fun _ => ?_)⟩⟩
  all_goals
    refine ⟨⟨([], 0), ⟨rfl, by omega⟩, rfl, rfl, rfl, rfl, rfl, rfl, rfl, trivial⟩, ?_⟩
    rintro ⟨t, j⟩ ⟨t1, t2⟩
    simp only at t1 t2
    refine ⟨_, rfl, splitD (fun h5 => ?_) (fun h5 => ?_)⟩
    focus
      have h5' : (j : Int) < 32 := h5
      exact ⟨_, rfl, _, rfl, _, rfl, _, rfl, _, rfl, _, rfl, ckI (by rw [Bool.and_true, decide_eq_true_eq]; show t.length + 1 ≤ _; omega) ⟨_, rfl, _, rfl, wrapI (by show _ ≤ (j : Int) + 1; omega) (by show (j : Int) + 1 ≤ _; omega) ⟨⟨trivial, rfl⟩, (t ++ [_], j + 1), ⟨by show (t ++ [_]).length = j + 1; rw [List.length_append, t1]; rfl, by show j + 1 ≤ 32; omega⟩, by show 32 - (j + 1) < 32 - j; omega, rfl, rfl, rfl, rfl, rfl, rfl, rfl, trivial⟩⟩⟩
    focus
      have h5' : ¬ (j : Int) < 32 := h5
      exact wrapI (by omega) (by omega) (wrapI (by omega) (by omega) (wrapI (by omega) (by omega) (wrapI (by omega) (by omega) (wrapI (by omega) (by omega) (hq _ _ _ _ _ _ ((right_iff _ _ _ _ _).2 ⟨by first | exact nz | exact name_a, by show t.length = 32; omega, by omega, by omega, by omega, by omega, by omega⟩))))))
def cDraft : Con
  | [.agg [.lst _ ds c 1, .int .u8 ky, .int .u16 fr, .int .u16 af, .int .u32 nu]], H, K => ∃ d : List UInt8, Lf ((ds = ofBytes d ∧ c = d.length) ∧ d.length ≤ 9223372036854775807 ∧ (0 ≤ fr ∧ fr ≤ 65535) ∧ (0 ≤ af ∧ af ≤ 65535) ∧ (0 ≤ nu ∧ nu ≤ 4294967295)) ∧ ∀ n k f u m, Lf (rightBM n k f u m = true) → K (.ret (.agg [.str n, .str k, .int .i64 f, .int .i64 u, .int .i64 m])) H
  | _, _, _ => False
theorem draft_ok : ValidF Tryz.prog gl0 12 cDraft := by
  refine valid_flat (enters_of (by kernel_rfl)) gl0_noY fun args H Q hc => ?_
  unfold cDraft at hc
  split at hc
  · rename_i tg ds c ky fr af nu
    obtain ⟨d, ⟨⟨rfl, rfl⟩, h1, h2, h3, h4⟩, hq⟩ := hc
    obtain ⟨hv, hb', h⟩ := draft_run tg d ky fr af nu h1 h2 h3 h4 (Q := fun o H' _ => H' = [] ∧ (∃ v, o = .ret v ∧ old 0 v = true ∧ noY v = true) ∧ Q o H) (fun _ _ _ _ _ _ h => ⟨rfl, ⟨_, rfl, rfl, rfl⟩, hq _ _ _ _ _ ⟨h⟩⟩)
    exact ⟨by simp [oldL, old], by simp [noYL, noY], _, 1000, envFor18 sm0_ok _ _ _, rfl, h⟩
  · exact hc.elim
end Go.Proofs.YtifjpcdpmimccaaGreatDoor

/-
  Chapter 18: contracts of the reference's helpers; residuals of its Decode, Shown, Valid.
-/
import Derived.Test.YtifjpcdpmimccaaGreatDoorBmH
set_option linter.unusedSimpArgs false
set_option linter.unusedVariables false
set_option linter.unusedSectionVars false
namespace Go.Proofs.YtifjpcdpmimccaaGreatDoor
open Go.RowKit
set_option maxRecDepth 1000000

def cNum51 : Con
  | [.str s], H, K => Lf (s.length ≤ 7) ∧ ∀ x, Lf (x = beM s) → K (.ret (.int .i64 x)) H
  | _, _, _ => False
theorem num51_ok : ValidF Tryz.prog gl0 51 cNum51 := by
  refine valid_flat (enters_of (by kernel_rfl)) gl0_noY fun args H Q hc => ?_
  unfold cNum51 at hc
  split at hc
  · rename_i s
    obtain ⟨⟨h1⟩, hq⟩ := hc
    obtain ⟨hv, hb', h⟩ := num51_run s h1 (Q := fun o H' _ => H' = [] ∧ (∃ v, o = .ret v ∧ old 0 v = true ∧ noY v = true) ∧ Q o H) ⟨rfl, ⟨_, rfl, rfl, rfl⟩, hq _ ⟨rfl⟩⟩
    exact ⟨rfl, rfl, _, 1000, envFor18 sm0_ok _ _ _, rfl, h⟩
  · exact hc.elim
def cPair52 : Con
  | [.int .u8 c], H, K => Lf (0 ≤ c ∧ c ≤ 255) ∧ ∀ x, Lf (x = hex2M (UInt8.ofNat c.toNat)) → K (.ret (.str x)) H
  | _, _, _ => False
theorem pair52_ok : ValidF Tryz.prog gl0 52 cPair52 := by
  refine valid_flat (enters_of (by kernel_rfl)) gl0_noY fun args H Q hc => ?_
  unfold cPair52 at hc
  split at hc
  · rename_i c
    obtain ⟨⟨h1, h2⟩, hq⟩ := hc
    obtain ⟨hv, hb', h⟩ := pair52_run (UInt8.ofNat c.toNat) (Q := fun o H' _ => H' = [] ∧ (∃ v, o = .ret v ∧ old 0 v = true ∧ noY v = true) ∧ Q o H) ⟨rfl, ⟨_, rfl, rfl, rfl⟩, hq _ ⟨rfl⟩⟩
    rw [show ((UInt8.ofNat c.toNat).toNat : Int) = c by rw [UInt8.toNat_ofNat']; omega] at h
    exact ⟨rfl, rfl, _, 1000, envFor18 sm0_ok _ _ _, rfl, h⟩
  · exact hc.elim
def cDig54 : Con
  | [.int .u8 c], H, K => Lf (0 ≤ c ∧ c ≤ 255) ∧ ∀ x : Int, Lf ((∃ q : Nat, x = q ∧ q < 16 ∧ hexL.getD q 0 = UInt8.ofNat c.toNat) ∨ (x = -1 ∧ ∀ j, j < 16 → hexL.getD j 0 ≠ UInt8.ofNat c.toNat)) → K (.ret (.int .i64 x)) H
  | _, _, _ => False
theorem dig54_ok : ValidF Tryz.prog gl0 54 cDig54 := by
  refine valid_flat (enters_of (by kernel_rfl)) gl0_noY fun args H Q hc => ?_
  unfold cDig54 at hc
  split at hc
  · rename_i c
    obtain ⟨⟨h1, h2⟩, hq⟩ := hc
    obtain ⟨hv, hb', h⟩ := dig54_run (UInt8.ofNat c.toNat) (Q := fun o H' _ => H' = [] ∧ (∃ v, o = .ret v ∧ old 0 v = true ∧ noY v = true) ∧ Q o H) (fun x hx => ⟨rfl, ⟨_, rfl, rfl, rfl⟩, hq x ⟨hx⟩⟩)
    rw [show ((UInt8.ofNat c.toNat).toNat : Int) = c by rw [UInt8.toNat_ofNat']; omega] at h
    exact ⟨rfl, rfl, _, 1000, envFor18 sm0_ok _ _ _, rfl, h⟩
  · exact hc.elim
def smRd : SM := lookS [(51, cNum51), (25, cRightB), (11, cOctB), (52, cPair52), (54, cDig54)]
theorem smRd_ok : ∀ f g, smRd f = some g → ValidF Tryz.prog gl0 f g := lookS_ok _ (by simp only [List.mem_cons, List.not_mem_nil, or_false, forall_eq_or_imp, forall_eq]; exact ⟨num51_ok, right25_ok, octB_ok, pair52_ok, dig54_ok⟩)
noncomputable def goal_15 (hv : Nat → Option Pa) (hb : Nat → Option Bool) (s : List UInt8) (Q : Out → List Blk → Gh → Prop) : Prop :=
  callx (e18 smRd (fun _ => none) hv hb) (wpx (e18 smRd (fun _ => none) hv hb) 1000) 15 [.str s] [] {} Q
theorem vc_15 (s : List UInt8) (Q : Out → List Blk → Gh → Prop) : goal_15 (lookV [(61446, .int .i64), (61450, .int .i64), (61455, .str), (61458, .str), (61461, .str), (61465, .int .i64), (61466, .int .i64), (61467, .str), (61470, .int
 .i64), (61471, .int .i64), (61472, .str)]) (lookB []) s Q = (exI .i64 (s.length : Int) fun n_0 => bif decide (n_0 < 55) then Q (.ret (.tup [.agg [.str [], .str [], .int .i64 0, .int .i64 0, .int .i64 0], .int .i64 5])) [] {} else exI .i64
 (s.length : Int) fun n_1 => bif decide (n_1 > 86) then Q (.ret (.tup [.agg [.str [], .str [], .int .i64 0, .int .i64 0, .int .i64 0], .int .i64 5])) [] {} else ckQ (Nat.ble 9 s.length) (exS (.str ((s.drop 3).take 6)) fun s_2 => ckQ
 (Nat.ble 15 s.length) (exS (.str ((s.drop 9).take 6)) fun s_3 => ckQ (Nat.ble 21 s.length) (exS (.str ((s.drop 15).take 6)) fun s_4 => exI .i64 (s.length : Int) fun n_5 => exW .i64 (n_5 - 32) fun n_6 => ckQ (decide (0 ≤ n_6) && Nat.ble 22
 n_6.toNat && Nat.ble n_6.toNat s.length) (exS (.str ((s.drop 22).take (n_6.toNat - 22))) fun s_7 => exI .i64 (s.length : Int) fun n_8 => exW .i64 (n_8 - 32) fun n_9 => ckQ (decide (0 ≤ n_9) && true && Nat.ble n_9.toNat s.length && Nat.ble
 s.length s.length) (exS (.str ((s.drop n_9.toNat).take (s.length - n_9.toNat))) fun s_10 => Lf (s_2.length ≤ 7) ∧ ∀ x_11 : Int, Lf (x_11 = beM s_2) → Lf (s_3.length ≤ 7) ∧ ∀ x_12 : Int, Lf (x_12 = beM s_3) → Lf (s_4.length ≤ 7) ∧ ∀ x_13 :
 Int, Lf (x_13 = beM s_4) → ∀ b_14 : Bool, Lf (b_14 = rightBM s_7 s_10 x_12 x_13 x_11) → bif b_14 then Lf (rightBM s_7 s_10 x_12 x_13 x_11 = true) ∧ ∀ s_15 : List UInt8, Lf (s_15 = octBM s_7 s_10 x_12 x_13 x_11) → bif !eqB s_15 s then Q
 (.ret (.tup [.agg [.str [], .str [], .int .i64 0, .int .i64 0, .int .i64 0], .int .i64 5])) [] {} else Q (.ret (.tup [.agg [.str s_7, .str s_10, .int .i64 x_12, .int .i64 x_13, .int .i64 x_11], .int .i64 0])) [] {} else Q (.ret (.tup [.agg
 [.str [], .str [], .int .i64 0, .int .i64 0, .int .i64 0], .int .i64 5])) [] {})))))) := by kernel_rfl

def inv_16 (s : List UInt8) (_ : S) : List (List LInv) := [[{ α := Nat, pre := fun i => Lf (i ≤ s.length), st := fun i => ⟨mkT [(0, .str s), (3, .str (shownM (s.take i))), (4, .int .i64 (i : Nat))], []⟩, mu := fun i => s.length - i }]]
noncomputable def env_16 (hv : Nat → Option Pa) (hb : Nat → Option Bool) (s : List UInt8) : Env := e18 smRd (fun i => bif Nat.beq i 16000 then some (inv_16 s) else none) hv hb
noncomputable def goal_16 (hv : Nat → Option Pa) (hb : Nat → Option Bool) (s : List UInt8) (Q : Out → List Blk → Gh → Prop) : Prop :=
  callx (env_16 hv hb s) (wpx (env_16 hv hb s) 1000) 16 [.str s] [] {} Q
theorem vc_16 (s : List UInt8) (Q : Out → List Blk → Gh → Prop) : goal_16 (lookV [(65541, .int .i64), (65543, .int .i64), (65547, .int .i64), (65549, .str), (65550, .str), (65553, .int .i64), (65554, .int .u8), (65556, .str), (65545, .int
 .i64), (65546, .int .i64), (65551, .str), (65557, .str)]) (lookB []) s Q = ((∃ x_0 : Nat, Lf (x_0 ≤ s.length) ∧ eqqQ (AV.str s) ∧ AV.str [UInt8.ofNat 115, UInt8.ofNat 104, UInt8.ofNat 97, UInt8.ofNat 45, UInt8.ofNat 50, UInt8.ofNat 53,
 UInt8.ofNat 54, UInt8.ofNat 32] = AV.str (shownM (s.take x_0)) ∧ AV.int .i64 0 = AV.int .i64 (x_0 : Int) ∧ True) ∧ ∀ x_0 : Nat, Lf (x_0 ≤ s.length) → exI .i64 (x_0 : Int) fun n_1 => exI .i64 (s.length : Int) fun n_2 => bif decide (n_1 <
 n_2) then exI .i64 (x_0 : Int) fun n_3 => bif decide (n_3 > 0) then exS (.str (shownM (s.take x_0))) fun s_4 => ckQ (decide (s_4.length + 1 ≤ 9223372036854775807) && true) (exS (.str (s_4 ++ [UInt8.ofNat 58])) fun s_5 => exS (.str s_5) fun
 s_6 => exI .i64 (x_0 : Int) fun n_7 => ckQ (decide (0 ≤ n_7) && Nat.blt n_7.toNat s.length) (exI .u8 (UInt8.toNat (s.getD n_7.toNat (UInt8.ofNat 0)) : Int) fun n_8 => Lf (0 ≤ n_8 ∧ n_8 ≤ 255) ∧ ∀ x_9 : List UInt8, Lf (x_9 = hex2M
 (UInt8.ofNat n_8.toNat)) → ckQ (decide (s_6.length + x_9.length ≤ 9223372036854775807) && true) (exS (.str (s_6 ++ x_9)) fun s_10 => exI .i64 (x_0 : Int) fun n_11 => exW .i64 (n_11 + 1) fun n_12 => (True ∧ (0 : Nat) = (0 : Nat)) ∧ ∃ y_13 :
 Nat, Lf (y_13 ≤ s.length) ∧ s.length - y_13 < s.length - x_0 ∧ eqqQ (AV.str s) ∧ AV.str s_10 = AV.str (shownM (s.take y_13)) ∧ AV.int .i64 n_12 = AV.int .i64 (y_13 : Int) ∧ True))) else exS (.str (shownM (s.take x_0))) fun s_4 => exI .i64
 (x_0 : Int) fun n_5 => ckQ (decide (0 ≤ n_5) && Nat.blt n_5.toNat s.length) (exI .u8 (UInt8.toNat (s.getD n_5.toNat (UInt8.ofNat 0)) : Int) fun n_6 => Lf (0 ≤ n_6 ∧ n_6 ≤ 255) ∧ ∀ x_7 : List UInt8, Lf (x_7 = hex2M (UInt8.ofNat n_6.toNat))
 → ckQ (decide (s_4.length + x_7.length ≤ 9223372036854775807) && true) (exS (.str (s_4 ++ x_7)) fun s_8 => exI .i64 (x_0 : Int) fun n_9 => exW .i64 (n_9 + 1) fun n_10 => (True ∧ (0 : Nat) = (0 : Nat)) ∧ ∃ y_11 : Nat, Lf (y_11 ≤ s.length) ∧
 s.length - y_11 < s.length - x_0 ∧ eqqQ (AV.str s) ∧ AV.str s_8 = AV.str (shownM (s.take y_11)) ∧ AV.int .i64 n_10 = AV.int .i64 (y_11 : Int) ∧ True)) else exS (.str (shownM (s.take x_0))) fun s_3 => Q (.ret (.str s_3)) [] {}) := by
 kernel_rfl

end Go.Proofs.YtifjpcdpmimccaaGreatDoor

set_option linter.unusedSimpArgs false
set_option linter.unusedVariables false
set_option linter.unusedSectionVars false
namespace Go.Proofs.YtifjpcdpmimccaaGreatDoor
open Go.RowKit
set_option maxRecDepth 1000000

theorem shown_snoc (t : List UInt8) (c : UInt8) (h : 0 < t.length) : shownM (t ++ [c]) = (shownM t ++ [58]) ++ hex2M c := by
  match t, h with
  | a :: r, _ =>
    have e1 : joinM (hx (a :: r)) [58] = hex2M a ++ Lib.joinTail [58] (hx r) := Lib.join_cons _ _ _
    have e2 : joinM (hx (a :: (r ++ [c]))) [58] = hex2M a ++ Lib.joinTail [58] (hx (r ++ [c])) := Lib.join_cons _ _ _
    have e3 : Lib.joinTail [58] (hx (r ++ [c])) = Lib.joinTail [58] (hx r) ++ ([58] ++ hex2M c) := by
      simp [Lib.joinTail, hx]
    show preM ++ joinM (hx (a :: (r ++ [c]))) [58] = (preM ++ joinM (hx (a :: r)) [58] ++ [58]) ++ hex2M c
    rw [e1, e2, e3]
    simp only [List.append_assoc]
theorem take_snoc {s : List UInt8} {i : Nat} (hi : i < s.length) : s.take (i + 1) = s.take i ++ [s.getD i 0] := by
  rw [List.take_add_one, List.getElem?_eq_getElem hi, List.getD_eq_getElem?_getD, List.getElem?_eq_getElem hi]; rfl
theorem shown_le (s : List UInt8) : (shownM s).length ≤ 8 + 3 * s.length := by
  have := join_len [58] (Nat.le_refl _) s
  show (preM ++ joinM (hx s) [58]).length ≤ _
  rw [List.length_append, show preM.length = 8 from rfl]; omega
theorem shown16_run (s : List UInt8) (hs : s.length ≤ 1000000) (Q : Out → List Blk → Gh → Prop) (hq : Q (.ret (.str (shownM s))) [] {}) : ∃ hv hb, goal_16 hv hb s Q := by
  obtain ⟨hv', hb', e'⟩ : ∃ hv hb, goal_16 hv hb s Q = _ := ⟨_, _, vc_16 s Q⟩
  refine ⟨hv', hb', e'.mpr ?_⟩
  clear e'
  refine ⟨⟨0, ⟨by omega⟩, rfl, rfl, rfl, trivial⟩, ?_⟩
  rintro i ⟨hi⟩
  have hl := shown_le (s.take i)
  have hl2 : (s.take i).length ≤ 1000000 := by rw [List.length_take]; omega
  have ec : UInt8.ofNat ((s.getD i 0).toNat : Int).toNat = s.getD i 0 := by rw [Int.toNat_natCast, UInt8.ofNat_toNat]
  have hc := (s.getD i 0).toNat_lt
  refine ⟨_, rfl, _, rfl, splitD (fun h => ⟨_, rfl, splitD (fun h1 => ?_) (fun h1 => ?_)⟩) (fun h => ?_)⟩
  · refine ⟨_, rfl, ckI (by rw [Bool.and_true, decide_eq_true_eq]; omega) ⟨_, rfl, _, rfl, _, rfl, ckI (idxOk (by omega) (by omega)) ⟨_, rfl, ⟨by show (0 : Int) ≤ ((s.getD i 0).toNat : Int); omega, by show ((s.getD i 0).toNat : Int) ≤ 255; omega⟩, ?_⟩⟩⟩
    rintro x ⟨hx0⟩
    have hx1 : x = hex2M (s.getD i 0) := by rw [hx0]; exact congrArg hex2M ec
    refine ckI (by rw [Bool.and_true, decide_eq_true_eq, List.length_append, hx1, show (hex2M (s.getD i 0)).length = 2 from rfl]; show (shownM (s.take i)).length + 1 + 2 ≤ _; omega) ⟨_, rfl, _, rfl, wrapI (by omega) (by omega) ⟨⟨trivial, rfl⟩, i + 1, ⟨by omega⟩, by omega, rfl, ?_, rfl, trivial⟩⟩
    rw [take_snoc (by omega), shown_snoc _ _ (by rw [List.length_take]; omega), hx1]
    rfl
  · have : i = 0 := by omega
    subst this
    refine ⟨_, rfl, _, rfl, ckI (idxOk (by omega) (by omega)) ⟨_, rfl, ⟨by show (0 : Int) ≤ ((s.getD 0 0).toNat : Int); omega, by show ((s.getD 0 0).toNat : Int) ≤ 255; omega⟩, ?_⟩⟩
    rintro x ⟨hx0⟩
    have hx1 : x = hex2M (s.getD 0 0) := by rw [hx0]; exact congrArg hex2M ec
    refine ckI (by rw [Bool.and_true, decide_eq_true_eq, hx1, show (hex2M (s.getD 0 0)).length = 2 from rfl]; omega) ⟨_, rfl, _, rfl, wrapI (by omega) (by omega) ⟨⟨trivial, rfl⟩, 1, ⟨by omega⟩, by omega, rfl, ?_, rfl, trivial⟩⟩
    rw [take_snoc (i := 0) (by omega), hx1]
    rfl
  · have : i = s.length := by omega
    subst this
    rw [List.take_of_length_le (Nat.le_refl _)]
    exact ⟨_, rfl, hq⟩
end Go.Proofs.YtifjpcdpmimccaaGreatDoor

set_option linter.unusedSimpArgs false
set_option linter.unusedVariables false
set_option linter.unusedSectionVars false
namespace Go.Proofs.YtifjpcdpmimccaaGreatDoor
open Go.RowKit
set_option maxRecDepth 1000000

theorem dec15_run (s : List UInt8) (hs : s.length ≤ 1000000) (Q : Out → List Blk → Gh → Prop) (hq : ∀ n k f u m e, decBM s = (n, k, f, u, m, e) → Q (.ret (.tup [.agg [.str n, .str k, .int .i64 f, .int .i64 u, .int .i64 m], .int .i64 e])) [] {}) : ∃ hv hb, goal_15 hv hb s Q := by
  obtain ⟨hv', hb', e'⟩ : ∃ hv hb, goal_15 hv hb s Q = _ := ⟨_, _, vc_15 s Q⟩
  refine ⟨hv', hb', e'.mpr ?_⟩
  clear e'
  have no : ¬ okB s → Q (.ret (.tup [.agg [.str [], .str [], .int .i64 0, .int .i64 0, .int .i64 0], .int .i64 5])) [] {} := fun h => hq _ _ _ _ _ _ (by rw [decBM, if_neg h])
  have len : okB s → 55 ≤ s.length ∧ s.length ≤ 86 ∧ nmB s = (s.drop 22).take (s.length - 32 - 22) ∧ keB s = s.drop (s.length - 32) := fun h => by
    have h2 := oct_dec h
    have h3 := congrArg List.length h2
    have hr := (right_iff _ _ _ _ _).1 h.2.2
    have hn := (name_iff _).1 hr.1
    rw [octB_len] at h3
    have l0 : 0 ≤ lenB s := be_nn _
    have l1 := h.2.1
    have e1 : (lenB s).toNat = s.length - 32 - 22 := by omega
    have e2 : (22 + lenB s).toNat = s.length - 32 := by omega
    refine ⟨by omega, by omega, by rw [nmB, e1], ?_⟩
    rw [keB, e2, List.take_of_length_le (by rw [List.length_drop]; omega)]
  refine ⟨_, rfl, splitD (fun h => no (fun g => by have := len g; omega)) (fun h => ⟨_, rfl, splitD (fun h1 => no (fun g => by have := len g; omega)) (fun h1 => ?_)⟩)⟩
  have eK : (s.drop ((s.length : Int) - 32).toNat).take (s.length - ((s.length : Int) - 32).toNat) = s.drop (s.length - 32) := by
    rw [show ((s.length : Int) - 32).toNat = s.length - 32 by omega, List.take_of_length_le (by rw [List.length_drop]; omega)]
  have eN : (s.drop 22).take (((s.length : Int) - 32).toNat - 22) = (s.drop 22).take (s.length - 32 - 22) := by
    rw [show ((s.length : Int) - 32).toNat = s.length - 32 by omega]
  refine ckI (by rw [Nat.ble_eq]; omega) ⟨_, rfl, ckI (by rw [Nat.ble_eq]; omega) ⟨_, rfl, ckI (by rw [Nat.ble_eq]; omega) ⟨_, rfl, _, rfl, wrapI (by omega) (by omega) (ckI (by simp only [Bool.and_eq_true, decide_eq_true_eq, Nat.ble_eq]; omega) ⟨(s.drop 22).take (s.length - 32 - 22), congrArg AV.str eN, _, rfl, wrapI (by omega) (by omega) (ckI (by simp only [Bool.and_true, Bool.and_eq_true, decide_eq_true_eq, Nat.ble_eq]; omega) ⟨s.drop (s.length - 32), congrArg AV.str eK, ?_⟩)⟩)⟩⟩⟩
  refine ⟨⟨by rw [List.length_take]; omega⟩, ?_⟩
  rintro x11 ⟨hx11⟩
  refine ⟨⟨by rw [List.length_take]; omega⟩, ?_⟩
  rintro x12 ⟨hx12⟩
  refine ⟨⟨by rw [List.length_take]; omega⟩, ?_⟩
  rintro x13 ⟨hx13⟩
  have y1 : nuB s = x11 := hx11.symm
  have y2 : frB s = x12 := hx12.symm
  have y3 : unB s = x13 := hx13.symm
  rintro b ⟨hb⟩
  cases b with
  | false => exact no (fun g => by
      have h2 := g.2.2
      rw [(len g).2.2.1, (len g).2.2.2, y1, y2, y3, ← hb] at h2
      cases h2)
  | true =>
    refine ⟨⟨hb.symm⟩, ?_⟩
    rintro s15 ⟨rfl⟩
    cases he : eqB (octBM ((s.drop 22).take (s.length - 32 - 22)) (s.drop (s.length - 32)) x12 x13 x11) s with
    | false => exact no (fun g => by
        have h2 := oct_dec g
        rw [(len g).2.2.1, (len g).2.2.2, y1, y2, y3] at h2
        rw [h2, eqB_refl] at he
        cases he)
    | true =>
      rw [eqB_iff, beq_iff_eq] at he
      exact hq _ _ _ _ _ _ (by have := dec_oct hb.symm; rwa [he] at this)
end Go.Proofs.YtifjpcdpmimccaaGreatDoor

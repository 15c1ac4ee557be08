/-
  Chapter 18: the reference's Number, pair, digit: residuals.
-/
import Derived.Test.YtifjpcdpmimccaaGreatDoorBmG
import Derived.Test.YtifjpcdpmimccaaGreatDoorBmE
set_option linter.unusedSimpArgs false
set_option linter.unusedVariables false
set_option linter.unusedSectionVars false
namespace Go.Proofs.YtifjpcdpmimccaaGreatDoor
open Go.RowKit
set_option maxRecDepth 1000000

def inv_51 (s : List UInt8) (_ : S) : List (List LInv) := [[{ α := Nat, pre := fun i => Lf (i ≤ s.length), st := fun i => ⟨mkT [(0, .str s), (3, .int .i64 (natM (s.take i) : Nat)), (4, .int .i64 (i : Nat))], []⟩, mu := fun i => s.length - i }]]
noncomputable def env_51 (hv : Nat → Option Pa) (hb : Nat → Option Bool) (s : List UInt8) : Env := e18 sm0 (fun i => bif Nat.beq i 51000 then some (inv_51 s) else none) hv hb
noncomputable def goal_51 (hv : Nat → Option Pa) (hb : Nat → Option Bool) (s : List UInt8) (Q : Out → List Blk → Gh → Prop) : Prop :=
  callx (env_51 hv hb s) (wpx (env_51 hv hb s) 1000) 51 [.str s] [] {} Q
theorem vc_51 (s : List UInt8) (Q : Out → List Blk → Gh → Prop) : goal_51 (lookV [(208901, .int .i64), (208903, .int .i64), (208907, .int .i64), (208908, .int .i64), (208910, .int .i64), (208911, .int .u8), (208912, .int .i64), (208913,
 .int .i64), (208905, .int .i64), (208906, .int .i64), (208914, .int .i64)]) (lookB []) s Q = ((∃ x_0 : Nat, Lf (x_0 ≤ s.length) ∧ eqqQ (AV.str s) ∧ AV.int .i64 0 = AV.int .i64 (natM (s.take x_0) : Int) ∧ AV.int .i64 0 = AV.int .i64 (x_0 :
 Int) ∧ True) ∧ ∀ x_0 : Nat, Lf (x_0 ≤ s.length) → exI .i64 (x_0 : Int) fun n_1 => exI .i64 (s.length : Int) fun n_2 => bif decide (n_1 < n_2) then exI .i64 (natM (s.take x_0) : Int) fun n_3 => exW .i64 (256 * n_3) fun n_4 => exI .i64 (x_0
 : Int) fun n_5 => ckQ (decide (0 ≤ n_5) && Nat.blt n_5.toNat s.length) (exI .u8 (UInt8.toNat (s.getD n_5.toNat (UInt8.ofNat 0)) : Int) fun n_6 => exW .i64 n_6 fun n_7 => exW .i64 (n_4 + n_7) fun n_8 => exI .i64 (x_0 : Int) fun n_9 => exW
 .i64 (n_9 + 1) fun n_10 => (True ∧ (0 : Nat) = (0 : Nat)) ∧ ∃ y_11 : Nat, Lf (y_11 ≤ s.length) ∧ s.length - y_11 < s.length - x_0 ∧ eqqQ (AV.str s) ∧ AV.int .i64 n_8 = AV.int .i64 (natM (s.take y_11) : Int) ∧ AV.int .i64 n_10 = AV.int .i64
 (y_11 : Int) ∧ True) else exI .i64 (natM (s.take x_0) : Int) fun n_3 => Q (.ret (.int .i64 n_3)) [] {}) := by kernel_rfl

noncomputable def goal_52 (hv : Nat → Option Pa) (hb : Nat → Option Bool) (c : Int) (Q : Out → List Blk → Gh → Prop) : Prop :=
  callx (e18 sm0 (fun _ => none) hv hb) (wpx (e18 sm0 (fun _ => none) hv hb) 1000) 52 [.int .u8 c] [] {} Q
theorem vc_52 (c : Int) (Q : Out → List Blk → Gh → Prop) : goal_52 (lookV [(212996, .int .u8), (212998, .int .u8), (212999, .int .u8), (213000, .str), (213002, .int .u8), (213004, .int .u8), (213005, .int .u8), (213006, .str), (213007,
 .str)]) (lookB []) c Q = (exW .u8 (c.tdiv 16) fun n_0 => exW .u8 (c.tdiv 16) fun n_1 => exW .u8 (n_1 + 1) fun n_2 => ckQ (decide (0 ≤ n_0) && decide (0 ≤ n_2) && Nat.ble n_0.toNat n_2.toNat && Nat.ble n_2.toNat 16) (exS (.str ((List.drop
 n_0.toNat [UInt8.ofNat 48, UInt8.ofNat 49, UInt8.ofNat 50, UInt8.ofNat 51, UInt8.ofNat 52, UInt8.ofNat 53, UInt8.ofNat 54, UInt8.ofNat 55, UInt8.ofNat 56, UInt8.ofNat 57, UInt8.ofNat 65, UInt8.ofNat 66, UInt8.ofNat 67, UInt8.ofNat 68,
 UInt8.ofNat 69, UInt8.ofNat 70]).take (n_2.toNat - n_0.toNat))) fun s_3 => exI .u8 (c.tmod 16) fun n_4 => exI .u8 (c.tmod 16) fun n_5 => exW .u8 (n_5 + 1) fun n_6 => ckQ (decide (0 ≤ n_4) && decide (0 ≤ n_6) && Nat.ble n_4.toNat n_6.toNat
 && Nat.ble n_6.toNat 16) (exS (.str ((List.drop n_4.toNat [UInt8.ofNat 48, UInt8.ofNat 49, UInt8.ofNat 50, UInt8.ofNat 51, UInt8.ofNat 52, UInt8.ofNat 53, UInt8.ofNat 54, UInt8.ofNat 55, UInt8.ofNat 56, UInt8.ofNat 57, UInt8.ofNat 65,
 UInt8.ofNat 66, UInt8.ofNat 67, UInt8.ofNat 68, UInt8.ofNat 69, UInt8.ofNat 70]).take (n_6.toNat - n_4.toNat))) fun s_7 => ckQ (decide (s_3.length + s_7.length ≤ 9223372036854775807) && true) (exS (.str (s_3 ++ s_7)) fun s_8 => Q (.ret
 (.str s_8)) [] {})))) := by kernel_rfl

def inv_54 (c : Int) (_ : S) : List (List LInv) := [[{ α := Nat, pre := fun i => Lf (i ≤ 16 ∧ ∀ j, j < i → ((hexL.getD j 0).toNat : Int) ≠ c), st := fun i => ⟨mkT [(0, .int .u8 c), (3, .int .i64 (i : Nat))], []⟩, mu := fun i => 16 - i }]]
noncomputable def env_54 (hv : Nat → Option Pa) (hb : Nat → Option Bool) (c : Int) : Env := e18 sm0 (fun i => bif Nat.beq i 54000 then some (inv_54 c) else none) hv hb
noncomputable def goal_54 (hv : Nat → Option Pa) (hb : Nat → Option Bool) (c : Int) (Q : Out → List Blk → Gh → Prop) : Prop :=
  callx (env_54 hv hb c) (wpx (env_54 hv hb c) 1000) 54 [.int .u8 c] [] {} Q
theorem vc_54 (c : Int) (Q : Out → List Blk → Gh → Prop) : goal_54 (lookV [(221188, .int .i64), (221192, .int .i64), (221193, .int .u8), (221196, .int .i64), (221190, .int .i64), (221191, .int .i64)]) (lookB []) c Q = ((∃ x_0 : Nat, Lf (x_0
 ≤ 16 ∧ ∀ j_1 : Nat, j_1 < x_0 → (UInt8.toNat (hexL.getD j_1 0) : Int) ≠ c) ∧ eqqQ (AV.int .u8 c) ∧ AV.int .i64 0 = AV.int .i64 (x_0 : Int) ∧ True) ∧ ∀ x_0 : Nat, Lf (x_0 ≤ 16 ∧ ∀ j_1 : Nat, j_1 < x_0 → (UInt8.toNat (hexL.getD j_1 0) : Int)
 ≠ c) → exI .i64 (x_0 : Int) fun n_1 => bif decide (n_1 < 16) then exI .i64 (x_0 : Int) fun n_2 => ckQ (decide (0 ≤ n_2) && Nat.blt n_2.toNat 16) (exI .u8 (UInt8.toNat (List.getD [UInt8.ofNat 48, UInt8.ofNat 49, UInt8.ofNat 50, UInt8.ofNat
 51, UInt8.ofNat 52, UInt8.ofNat 53, UInt8.ofNat 54, UInt8.ofNat 55, UInt8.ofNat 56, UInt8.ofNat 57, UInt8.ofNat 65, UInt8.ofNat 66, UInt8.ofNat 67, UInt8.ofNat 68, UInt8.ofNat 69, UInt8.ofNat 70] n_2.toNat (UInt8.ofNat 0)) : Int) fun n_3
 => bif n_3 == c then exI .i64 (x_0 : Int) fun n_4 => Q (.ret (.int .i64 n_4)) [] {} else exI .i64 (x_0 : Int) fun n_4 => exW .i64 (n_4 + 1) fun n_5 => (True ∧ (0 : Nat) = (0 : Nat)) ∧ ∃ y_6 : Nat, Lf (y_6 ≤ 16 ∧ ∀ j_7 : Nat, j_7 < y_6 →
 (UInt8.toNat (hexL.getD j_7 0) : Int) ≠ c) ∧ 16 - y_6 < 16 - x_0 ∧ eqqQ (AV.int .u8 c) ∧ AV.int .i64 n_5 = AV.int .i64 (y_6 : Int) ∧ True) else Q (.ret (.int .i64 (-1))) [] {}) := by kernel_rfl

end Go.Proofs.YtifjpcdpmimccaaGreatDoor

set_option linter.unusedSimpArgs false
set_option linter.unusedVariables false
set_option linter.unusedSectionVars false
namespace Go.Proofs.YtifjpcdpmimccaaGreatDoor
open Go.RowKit
set_option maxRecDepth 1000000

theorem num51_run (s : List UInt8) (hs : s.length ≤ 7) (Q : Out → List Blk → Gh → Prop) (hq : Q (.ret (.int .i64 (beM s))) [] {}) : ∃ hv hb, goal_51 hv hb s Q := by
  obtain ⟨hv', hb', e'⟩ : ∃ hv hb, goal_51 hv hb s Q = _ := ⟨_, _, vc_51 s Q⟩
  refine ⟨hv', hb', e'.mpr ?_⟩
  clear e'
  refine ⟨⟨0, ⟨by omega⟩, rfl, rfl, rfl, trivial⟩, ?_⟩
  rintro i ⟨hi⟩
  refine ⟨_, rfl, _, rfl, splitD (fun h => ?_) (fun h => ?_)⟩
  · have h1 := natM_lt (s.take i)
    have hil : (s.take i).length ≤ 6 := by rw [List.length_take]; omega
    have h2 : (256 : Nat) ^ (s.take i).length ≤ 256 ^ 6 := Nat.pow_le_pow_right (by decide) hil
    have p6 : (256 : Nat) ^ 6 = 281474976710656 := by decide
    have hc := (s.getD i 0).toNat_lt
    have hsn := nat_snoc (s := s) (i := i) (by omega)
    refine ⟨_, rfl, wrapI (by omega) (by omega) ⟨_, rfl, ckI (idxOk (by omega) (by omega)) ⟨_, rfl, wrapI (by show _ ≤ (((s.getD i 0).toNat : Nat) : Int); omega) (by show (((s.getD i 0).toNat : Nat) : Int) ≤ _; omega) (wrapI (by show _ ≤ 256 * (natM (s.take i) : Int) + ((s.getD i 0).toNat : Int); omega) (by show 256 * (natM (s.take i) : Int) + ((s.getD i 0).toNat : Int) ≤ _; omega) ⟨_, rfl, wrapI (by omega) (by omega) ⟨⟨trivial, rfl⟩, i + 1, ⟨by omega⟩, by omega, rfl, ?_, rfl, trivial⟩⟩)⟩⟩⟩
    refine congrArg (AV.int .i64) ?_
    show 256 * (natM (s.take i) : Int) + ((s.getD i 0).toNat : Int) = _
    rw [hsn]; omega
  · have : i = s.length := by omega
    subst this
    rw [List.take_of_length_le (Nat.le_refl _)]
    exact ⟨_, rfl, hq⟩
theorem one_hex (q : Nat) (h : q < 16) : (hexL.drop q).take 1 = [hexL.getD q (UInt8.ofNat 0)] := by
  have : ∀ j : Fin 16, (hexL.drop j).take 1 = [hexL.getD j (UInt8.ofNat 0)] := by decide
  exact this ⟨q, h⟩
theorem pair52_run (c : UInt8) (Q : Out → List Blk → Gh → Prop) (hq : Q (.ret (.str (hex2M c))) [] {}) : ∃ hv hb, goal_52 hv hb (c.toNat : Int) Q := by
  obtain ⟨hv', hb', e'⟩ : ∃ hv hb, goal_52 hv hb (c.toNat : Int) Q = _ := ⟨_, _, vc_52 (c.toNat : Int) Q⟩
  refine ⟨hv', hb', e'.mpr ?_⟩
  clear e'
  have t1 := tdu c
  have t2 := tmu c
  have d1 := tdn c.toNat
  have d2 := tmn c.toNat
  have c1 := hi16 c
  have c2 := lo16 c
  refine wrapU8 (by omega) (by omega) (wrapU8 (by omega) (by omega) (wrapU8 (by omega) (by omega) (ckI ?_ ⟨[hexL.getD (c.toNat / 16) (UInt8.ofNat 0)], congrArg AV.str ?_, _, rfl, _, rfl, wrapU8 (by omega) (by omega) (ckI ?_ ⟨[hexL.getD (c.toNat % 16) (UInt8.ofNat 0)], congrArg AV.str ?_, ckI rfl ⟨_, rfl, hq⟩⟩)⟩)))
  · simp only [Bool.and_eq_true, decide_eq_true_eq, Nat.ble_eq]; omega
  · rw [show (Int.tdiv (c.toNat : Int) 16 + 1).toNat - (Int.tdiv (c.toNat : Int) 16).toNat = 1 by omega, d1]
    exact one_hex _ c1
  · simp only [Bool.and_eq_true, decide_eq_true_eq, Nat.ble_eq]; omega
  · rw [show (Int.tmod (c.toNat : Int) 16 + 1).toNat - (Int.tmod (c.toNat : Int) 16).toNat = 1 by omega, d2]
    exact one_hex _ c2
theorem dig54_run (c : UInt8) (Q : Out → List Blk → Gh → Prop) (hq : ∀ x : Int, ((∃ q : Nat, x = q ∧ q < 16 ∧ hexL.getD q 0 = c) ∨ (x = -1 ∧ ∀ j, j < 16 → hexL.getD j 0 ≠ c)) → Q (.ret (.int .i64 x)) [] {}) : ∃ hv hb, goal_54 hv hb (c.toNat : Int) Q := by
  obtain ⟨hv', hb', e'⟩ : ∃ hv hb, goal_54 hv hb (c.toNat : Int) Q = _ := ⟨_, _, vc_54 (c.toNat : Int) Q⟩
  refine ⟨hv', hb', e'.mpr ?_⟩
  clear e'
  refine ⟨⟨0, ⟨by omega, fun j hj => by omega⟩, rfl, rfl, trivial⟩, ?_⟩
  rintro i ⟨hi, h0⟩
  refine ⟨_, rfl, splitD (fun h => ⟨_, rfl, ckI (idxOk (by omega) (by omega)) ⟨_, rfl, splitE (fun h1 => ⟨_, rfl, ?_⟩) (fun h1 => ⟨_, rfl, wrapI (by omega) (by omega) ⟨⟨trivial, rfl⟩, i + 1, ⟨by omega, fun j hj => ?_⟩, by omega, rfl, rfl, trivial⟩⟩)⟩⟩) (fun h => ?_)⟩
  · exact hq _ (.inl ⟨i, rfl, by omega, UInt8.toNat_inj.1 (Int.ofNat.inj h1)⟩)
  · rcases Nat.lt_or_ge j i with g | g
    · exact h0 j g
    · obtain rfl : j = i := by omega
      exact h1
  · refine hq _ (.inr ⟨rfl, fun j hj h1 => h0 j (by omega) (by rw [h1])⟩)
end Go.Proofs.YtifjpcdpmimccaaGreatDoor

set_option linter.unusedSimpArgs false
set_option linter.unusedVariables false
set_option linter.unusedSectionVars false
namespace Go.Proofs.YtifjpcdpmimccaaGreatDoor
open Go.RowKit
set_option maxRecDepth 1000000

def cNum51 : Con
  | [.str s], H, K => Lf (s.length ≤ 7) ∧ ∀ x, Lf (x = beM s) → K (.ret (.int .i64 x)) H
  | _, _, _ => False
theorem num51_ok : ValidF Tryz.prog gl0 51 cNum51 := by
  refine valid_flat (enters_of (by kernel_rfl)) gl0_noY fun args H Q hc => ?_
  unfold cNum51 at hc
  split at hc
  · rename_i s
    obtain ⟨⟨h1⟩, hq⟩ := hc
    obtain ⟨hv, hb', h⟩ := num51_run s h1 (Q := fun o H' _ => H' = [] ∧ (∃ v, o = .ret v ∧ old 0 v = true ∧ noY v = true) ∧ Q o H) ⟨rfl, ⟨_, rfl, rfl, rfl⟩, hq _ ⟨rfl⟩⟩
    exact ⟨rfl, rfl, _, 1000, envFor18 sm0_ok _ _ _, rfl, h⟩
  · exact hc.elim
def cPair52 : Con
  | [.int .u8 c], H, K => Lf (0 ≤ c ∧ c ≤ 255) ∧ ∀ x, Lf (x = hex2M (UInt8.ofNat c.toNat)) → K (.ret (.str x)) H
  | _, _, _ => False
theorem pair52_ok : ValidF Tryz.prog gl0 52 cPair52 := by
  refine valid_flat (enters_of (by kernel_rfl)) gl0_noY fun args H Q hc => ?_
  unfold cPair52 at hc
  split at hc
  · rename_i c
    obtain ⟨⟨h1, h2⟩, hq⟩ := hc
    obtain ⟨hv, hb', h⟩ := pair52_run (UInt8.ofNat c.toNat) (Q := fun o H' _ => H' = [] ∧ (∃ v, o = .ret v ∧ old 0 v = true ∧ noY v = true) ∧ Q o H) ⟨rfl, ⟨_, rfl, rfl, rfl⟩, hq _ ⟨rfl⟩⟩
    rw [show ((UInt8.ofNat c.toNat).toNat : Int) = c by rw [UInt8.toNat_ofNat']; omega] at h
    exact ⟨rfl, rfl, _, 1000, envFor18 sm0_ok _ _ _, rfl, h⟩
  · exact hc.elim
def cDig54 : Con
  | [.int .u8 c], H, K => Lf (0 ≤ c ∧ c ≤ 255) ∧ ∀ x : Int, Lf ((∃ q : Nat, x = q ∧ q < 16 ∧ hexL.getD q 0 = UInt8.ofNat c.toNat) ∨ (x = -1 ∧ ∀ j, j < 16 → hexL.getD j 0 ≠ UInt8.ofNat c.toNat)) → K (.ret (.int .i64 x)) H
  | _, _, _ => False
theorem dig54_ok : ValidF Tryz.prog gl0 54 cDig54 := by
  refine valid_flat (enters_of (by kernel_rfl)) gl0_noY fun args H Q hc => ?_
  unfold cDig54 at hc
  split at hc
  · rename_i c
    obtain ⟨⟨h1, h2⟩, hq⟩ := hc
    obtain ⟨hv, hb', h⟩ := dig54_run (UInt8.ofNat c.toNat) (Q := fun o H' _ => H' = [] ∧ (∃ v, o = .ret v ∧ old 0 v = true ∧ noY v = true) ∧ Q o H) (fun x hx => ⟨rfl, ⟨_, rfl, rfl, rfl⟩, hq x ⟨hx⟩⟩)
    rw [show ((UInt8.ofNat c.toNat).toNat : Int) = c by rw [UInt8.toNat_ofNat']; omega] at h
    exact ⟨rfl, rfl, _, 1000, envFor18 sm0_ok _ _ _, rfl, h⟩
  · exact hc.elim
def smRd : SM := lookS [(51, cNum51), (25, cRightB), (11, cOctB), (52, cPair52), (54, cDig54)]
theorem smRd_ok : ∀ f g, smRd f = some g → ValidF Tryz.prog gl0 f g := lookS_ok _ (by simp only [List.mem_cons, List.not_mem_nil, or_false, forall_eq_or_imp, forall_eq]; exact ⟨num51_ok, right25_ok, octB_ok, pair52_ok, dig54_ok⟩)
def inv_16 (s : List UInt8) (_ : S) : List (List LInv) := [[{ α := Nat, pre := fun i => Lf (i ≤ s.length), st := fun i => ⟨mkT [(0, .str s), (3, .str (shownM (s.take i))), (4, .int .i64 (i : Nat))], []⟩, mu := fun i => s.length - i }]]
noncomputable def env_16 (hv : Nat → Option Pa) (hb : Nat → Option Bool) (s : List UInt8) : Env := e18 smRd (fun i => bif Nat.beq i 16000 then some (inv_16 s) else none) hv hb
noncomputable def goal_16 (hv : Nat → Option Pa) (hb : Nat → Option Bool) (s : List UInt8) (Q : Out → List Blk → Gh → Prop) : Prop :=
  callx (env_16 hv hb s) (wpx (env_16 hv hb s) 1000) 16 [.str s] [] {} Q
theorem vc_16 (s : List UInt8) (Q : Out → List Blk → Gh → Prop) : goal_16 (lookV [(65541, .int .i64), (65543, .int .i64), (65547, .int .i64), (65549, .str), (65550, .str), (65553, .int .i64), (65554, .int .u8), (65556, .str), (65545, .int
 .i64), (65546, .int .i64), (65551, .str), (65557, .str)]) (lookB []) s Q = ((∃ x_0 : Nat, Lf (x_0 ≤ s.length) ∧ eqqQ (AV.str s) ∧ AV.str [UInt8.ofNat 115, UInt8.ofNat 104, UInt8.ofNat 97, UInt8.ofNat 45, UInt8.ofNat 50, UInt8.ofNat 53,
 UInt8.ofNat 54, UInt8.ofNat 32] = AV.str (shownM (s.take x_0)) ∧ AV.int .i64 0 = AV.int .i64 (x_0 : Int) ∧ True) ∧ ∀ x_0 : Nat, Lf (x_0 ≤ s.length) → exI .i64 (x_0 : Int) fun n_1 => exI .i64 (s.length : Int) fun n_2 => bif decide (n_1 <
 n_2) then exI .i64 (x_0 : Int) fun n_3 => bif decide (n_3 > 0) then exS (.str (shownM (s.take x_0))) fun s_4 => ckQ (decide (s_4.length + 1 ≤ 9223372036854775807) && true) (exS (.str (s_4 ++ [UInt8.ofNat 58])) fun s_5 => exS (.str s_5) fun
 s_6 => exI .i64 (x_0 : Int) fun n_7 => ckQ (decide (0 ≤ n_7) && Nat.blt n_7.toNat s.length) (exI .u8 (UInt8.toNat (s.getD n_7.toNat (UInt8.ofNat 0)) : Int) fun n_8 => Lf (0 ≤ n_8 ∧ n_8 ≤ 255) ∧ ∀ x_9 : List UInt8, Lf (x_9 = hex2M
 (UInt8.ofNat n_8.toNat)) → ckQ (decide (s_6.length + x_9.length ≤ 9223372036854775807) && true) (exS (.str (s_6 ++ x_9)) fun s_10 => exI .i64 (x_0 : Int) fun n_11 => exW .i64 (n_11 + 1) fun n_12 => (True ∧ (0 : Nat) = (0 : Nat)) ∧ ∃ y_13 :
 Nat, Lf (y_13 ≤ s.length) ∧ s.length - y_13 < s.length - x_0 ∧ eqqQ (AV.str s) ∧ AV.str s_10 = AV.str (shownM (s.take y_13)) ∧ AV.int .i64 n_12 = AV.int .i64 (y_13 : Int) ∧ True))) else exS (.str (shownM (s.take x_0))) fun s_4 => exI .i64
 (x_0 : Int) fun n_5 => ckQ (decide (0 ≤ n_5) && Nat.blt n_5.toNat s.length) (exI .u8 (UInt8.toNat (s.getD n_5.toNat (UInt8.ofNat 0)) : Int) fun n_6 => Lf (0 ≤ n_6 ∧ n_6 ≤ 255) ∧ ∀ x_7 : List UInt8, Lf (x_7 = hex2M (UInt8.ofNat n_6.toNat))
 → ckQ (decide (s_4.length + x_7.length ≤ 9223372036854775807) && true) (exS (.str (s_4 ++ x_7)) fun s_8 => exI .i64 (x_0 : Int) fun n_9 => exW .i64 (n_9 + 1) fun n_10 => (True ∧ (0 : Nat) = (0 : Nat)) ∧ ∃ y_11 : Nat, Lf (y_11 ≤ s.length) ∧
 s.length - y_11 < s.length - x_0 ∧ eqqQ (AV.str s) ∧ AV.str s_8 = AV.str (shownM (s.take y_11)) ∧ AV.int .i64 n_10 = AV.int .i64 (y_11 : Int) ∧ True)) else exS (.str (shownM (s.take x_0))) fun s_3 => Q (.ret (.str s_3)) [] {}) := by
 kernel_rfl

end Go.Proofs.YtifjpcdpmimccaaGreatDoor

set_option linter.unusedSimpArgs false
set_option linter.unusedVariables false
set_option linter.unusedSectionVars false
namespace Go.Proofs.YtifjpcdpmimccaaGreatDoor
open Go.RowKit
set_option maxRecDepth 1000000

theorem shown_snoc (t : List UInt8) (c : UInt8) (h : 0 < t.length) : shownM (t ++ [c]) = (shownM t ++ [58]) ++ hex2M c := by
  match t, h with
  | a :: r, _ =>
    have e1 : joinM (hx (a :: r)) [58] = hex2M a ++ Lib.joinTail [58] (hx r) := Lib.join_cons _ _ _
    have e2 : joinM (hx (a :: (r ++ [c]))) [58] = hex2M a ++ Lib.joinTail [58] (hx (r ++ [c])) := Lib.join_cons _ _ _
    have e3 : Lib.joinTail [58] (hx (r ++ [c])) = Lib.joinTail [58] (hx r) ++ ([58] ++ hex2M c) := by
      simp [Lib.joinTail, hx]
    show preM ++ joinM (hx (a :: (r ++ [c]))) [58] = (preM ++ joinM (hx (a :: r)) [58] ++ [58]) ++ hex2M c
    rw [e1, e2, e3]
    simp only [List.append_assoc]
theorem take_snoc {s : List UInt8} {i : Nat} (hi : i < s.length) : s.take (i + 1) = s.take i ++ [s.getD i 0] := by
  rw [List.take_add_one, List.getElem?_eq_getElem hi, List.getD_eq_getElem?_getD, List.getElem?_eq_getElem hi]; rfl
theorem shown_le (s : List UInt8) : (shownM s).length ≤ 8 + 3 * s.length := by
  have := join_len [58] (Nat.le_refl _) s
  show (preM ++ joinM (hx s) [58]).length ≤ _
  rw [List.length_append, show preM.length = 8 from rfl]; omega
theorem shown16_run (s : List UInt8) (hs : s.length ≤ 1000000) (Q : Out → List Blk → Gh → Prop) (hq : Q (.ret (.str (shownM s))) [] {}) : ∃ hv hb, goal_16 hv hb s Q := by
  obtain ⟨hv', hb', e'⟩ : ∃ hv hb, goal_16 hv hb s Q = _ := ⟨_, _, vc_16 s Q⟩
  refine ⟨hv', hb', e'.mpr ?_⟩
  clear e'
  refine ⟨⟨0, ⟨by omega⟩, rfl, rfl, rfl, trivial⟩, ?_⟩
  rintro i ⟨hi⟩
  have hl := shown_le (s.take i)
  have hl2 : (s.take i).length ≤ 1000000 := by rw [List.length_take]; omega
  have ec : UInt8.ofNat ((s.getD i 0).toNat : Int).toNat = s.getD i 0 := by rw [Int.toNat_natCast, UInt8.ofNat_toNat]
  have hc := (s.getD i 0).toNat_lt
  refine ⟨_, rfl, _, rfl, splitD (fun h => ⟨_, rfl, splitD (fun h1 => ?_) (fun h1 => ?_)⟩) (fun h => ?_)⟩
  · refine ⟨_, rfl, ckI (by rw [Bool.and_true, decide_eq_true_eq]; omega) ⟨_, rfl, _, rfl, _, rfl, ckI (idxOk (by omega) (by omega)) ⟨_, rfl, ⟨by show (0 : Int) ≤ ((s.getD i 0).toNat : Int); omega, by show ((s.getD i 0).toNat : Int) ≤ 255; omega⟩, ?_⟩⟩⟩
    rintro x ⟨hx0⟩
    have hx1 : x = hex2M (s.getD i 0) := by rw [hx0]; exact congrArg hex2M ec
    refine ckI (by rw [Bool.and_true, decide_eq_true_eq, List.length_append, hx1, show (hex2M (s.getD i 0)).length = 2 from rfl]; show (shownM (s.take i)).length + 1 + 2 ≤ _; omega) ⟨_, rfl, _, rfl, wrapI (by omega) (by omega) ⟨⟨trivial, rfl⟩, i + 1, ⟨by omega⟩, by omega, rfl, ?_, rfl, trivial⟩⟩
    rw [take_snoc (by omega), shown_snoc _ _ (by rw [List.length_take]; omega), hx1]
    rfl
  · have : i = 0 := by omega
    subst this
    refine ⟨_, rfl, _, rfl, ckI (idxOk (by omega) (by omega)) ⟨_, rfl, ⟨by show (0 : Int) ≤ ((s.getD 0 0).toNat : Int); omega, by show ((s.getD 0 0).toNat : Int) ≤ 255; omega⟩, ?_⟩⟩
    rintro x ⟨hx0⟩
    have hx1 : x = hex2M (s.getD 0 0) := by rw [hx0]; exact congrArg hex2M ec
    refine ckI (by rw [Bool.and_true, decide_eq_true_eq, hx1, show (hex2M (s.getD 0 0)).length = 2 from rfl]; omega) ⟨_, rfl, _, rfl, wrapI (by omega) (by omega) ⟨⟨trivial, rfl⟩, 1, ⟨by omega⟩, by omega, rfl, ?_, rfl, trivial⟩⟩
    rw [take_snoc (i := 0) (by omega), hx1]
    rfl
  · have : i = s.length := by omega
    subst this
    rw [List.take_of_length_le (Nat.le_refl _)]
    exact ⟨_, rfl, hq⟩
end Go.Proofs.YtifjpcdpmimccaaGreatDoor

set_option linter.unusedSimpArgs false
set_option linter.unusedVariables false
set_option linter.unusedSectionVars false
namespace Go.Proofs.YtifjpcdpmimccaaGreatDoor
open Go.RowKit
set_option maxRecDepth 1000000

end Go.Proofs.YtifjpcdpmimccaaGreatDoor

set_option linter.unusedSimpArgs false
set_option linter.unusedVariables false
set_option linter.unusedSectionVars false
namespace Go.Proofs.YtifjpcdpmimccaaGreatDoor
open Go.RowKit
set_option maxRecDepth 1000000

def cShown : Con
  | [.str s], H, K => Lf (s.length ≤ 1000000) ∧ ∀ x, Lf (x = shownM s) → K (.ret (.str x)) H
  | _, _, _ => False
theorem shown16_ok : ValidF Tryz.prog gl0 16 cShown := by
  refine valid_flat (enters_of (by kernel_rfl)) gl0_noY fun args H Q hc => ?_
  unfold cShown at hc
  split at hc
  · rename_i s
    obtain ⟨⟨h1⟩, hq⟩ := hc
    obtain ⟨hv, hb', h⟩ := shown16_run s h1 (Q := fun o H' _ => H' = [] ∧ (∃ v, o = .ret v ∧ old 0 v = true ∧ noY v = true) ∧ Q o H) ⟨rfl, ⟨_, rfl, rfl, rfl⟩, hq _ ⟨rfl⟩⟩
    exact ⟨rfl, rfl, _, 1000, envFor18 smRd_ok _ _ _, rfl, h⟩
  · exact hc.elim
def smVa : SM := lookS [(54, cDig54), (16, cShown)]
theorem smVa_ok : ∀ f g, smVa f = some g → ValidF Tryz.prog gl0 f g := lookS_ok _ (by simp only [List.mem_cons, List.not_mem_nil, or_false, forall_eq_or_imp, forall_eq]; exact ⟨dig54_ok, shown16_ok⟩)
def parM (t q : List UInt8) : Prop := q.length ≤ 32 ∧ ∀ j, j < q.length → [t.getD (8 + 3 * j) 0, t.getD (9 + 3 * j) 0] = hex2M (q.getD j 0)
def inv_18 (t : List UInt8) (_ : S) : List (List LInv) := [[{ α := List UInt8, pre := fun q => Lf (parM t q), st := fun q => ⟨mkT [(0, .str t), (3, .str q), (4, .int .i64 (q.length : Nat))], []⟩, mu := fun q => 32 - q.length }]]
noncomputable def env_18 (hv : Nat → Option Pa) (hb : Nat → Option Bool) (t : List UInt8) : Env := e18 smVa (fun i => bif Nat.beq i 18000 then some (inv_18 t) else none) hv hb
noncomputable def goal_18 (hv : Nat → Option Pa) (hb : Nat → Option Bool) (t : List UInt8) (Q : Out → List Blk → Gh → Prop) : Prop :=
  callx (env_18 hv hb t) (wpx (env_18 hv hb t) 1000) 18 [.str t] [] {} Q
theorem vc_18 (t : List UInt8) (Q : Out → List Blk → Gh → Prop) : goal_18 (lookV [(73736, .int .i64), (73738, .int .i64), (73743, .int .i64), (73744, .int .i64), (73745, .int .i64), (73746, .int .u8), (73749, .int .i64), (73750, .int .i64),
 (73751, .int .i64), (73752, .int .u8), (73762, .int .i64), (73764, .int .i64), (73765, .int .u8), (73767, .str), (73768, .str), (73740, .int .i64), (73741, .int .i64)]) (lookB []) t Q = (exI .i64 (t.length : Int) fun n_0 => bif n_0 != 103
 then Q (.ret (.bool false)) [] {} else (∃ x_1 : List UInt8, Lf (parM t x_1) ∧ eqqQ (AV.str t) ∧ AV.str [] = AV.str x_1 ∧ AV.int .i64 0 = AV.int .i64 (x_1.length : Int) ∧ True) ∧ ∀ x_1 : List UInt8, Lf (parM t x_1) → exI .i64 (x_1.length :
 Int) fun n_2 => bif decide (n_2 < 32) then exI .i64 (x_1.length : Int) fun n_3 => exW .i64 (3 * n_3) fun n_4 => exW .i64 (8 + n_4) fun n_5 => ckQ (decide (0 ≤ n_5) && Nat.blt n_5.toNat t.length) (exI .u8 (UInt8.toNat (t.getD n_5.toNat
 (UInt8.ofNat 0)) : Int) fun n_6 => exI .i64 (x_1.length : Int) fun n_7 => exW .i64 (3 * n_7) fun n_8 => exW .i64 (9 + n_8) fun n_9 => ckQ (decide (0 ≤ n_9) && Nat.blt n_9.toNat t.length) (exI .u8 (UInt8.toNat (t.getD n_9.toNat (UInt8.ofNat
 0)) : Int) fun n_10 => Lf (0 ≤ n_6 ∧ n_6 ≤ 255) ∧ ∀ x_11 : Int, Lf ((∃ q_12 : Nat, x_11 = (q_12 : Int) ∧ q_12 < 16 ∧ hexL.getD q_12 0 = UInt8.ofNat n_6.toNat) ∨ x_11 = -1 ∧ ∀ j_12 : Nat, j_12 < 16 → hexL.getD j_12 0 ≠ UInt8.ofNat
 n_6.toNat) → Lf (0 ≤ n_10 ∧ n_10 ≤ 255) ∧ ∀ x_12 : Int, Lf ((∃ q_13 : Nat, x_12 = (q_13 : Int) ∧ q_13 < 16 ∧ hexL.getD q_13 0 = UInt8.ofNat n_10.toNat) ∨ x_12 = -1 ∧ ∀ j_13 : Nat, j_13 < 16 → hexL.getD j_13 0 ≠ UInt8.ofNat n_10.toNat) →
 bif decide (x_11 < 0) then Q (.ret (.bool false)) [] {} else bif decide (x_12 < 0) then Q (.ret (.bool false)) [] {} else exW .i64 (16 * x_11) fun n_13 => exW .i64 (n_13 + x_12) fun n_14 => exW .u8 n_14 fun n_15 => exS (.str [toB (.int .u8
 n_15)]) fun s_16 => ckQ (decide (x_1.length + s_16.length ≤ 9223372036854775807) && true) (exS (.str (x_1 ++ s_16)) fun s_17 => exI .i64 (x_1.length : Int) fun n_18 => exW .i64 (n_18 + 1) fun n_19 => (True ∧ (0 : Nat) = (0 : Nat)) ∧ ∃ y_20
 : List UInt8, Lf (parM t y_20) ∧ 32 - y_20.length < 32 - x_1.length ∧ eqqQ (AV.str t) ∧ AV.str s_17 = AV.str y_20 ∧ AV.int .i64 n_19 = AV.int .i64 (y_20.length : Int) ∧ True))) else Lf (x_1.length ≤ 1000000) ∧ ∀ x_3 : List UInt8, Lf (x_3 =
 shownM x_1) → bif eqB x_3 t then Q (.ret (.bool true)) [] {} else Q (.ret (.bool false)) [] {}) := by kernel_rfl

end Go.Proofs.YtifjpcdpmimccaaGreatDoor

set_option linter.unusedSimpArgs false
set_option linter.unusedVariables false
set_option linter.unusedSectionVars false
namespace Go.Proofs.YtifjpcdpmimccaaGreatDoor
open Go.RowKit
set_option maxRecDepth 1000000

theorem jt_of : ∀ (q r : List UInt8), r.length = 3 * q.length → (∀ j, j < q.length → r.getD (3 * j) 0 = 58 ∧ [r.getD (3 * j + 1) 0, r.getD (3 * j + 2) 0] = hex2M (q.getD j 0)) → r = Lib.joinTail [58] (hx q)
  | [], r, h, _ => by
    cases r with
    | nil => rfl
    | cons a t => simp at h
  | c :: t, r, h, hj => by
    rw [jt_cons]
    match r, h with
    | [], h => simp at h; 
    | [_], h => simp at h; omega
    | [_, _], h => simp at h; omega
    | a :: b :: d :: r', h =>
      obtain ⟨e1, e2⟩ := hj 0 (by simp)
      have e1' : a = 58 := e1
      have e2' : [b, d] = [hexL.getD (c.toNat / 16) (UInt8.ofNat 0), hexL.getD (c.toNat % 16) (UInt8.ofNat 0)] := e2
      simp only [List.cons.injEq, and_true] at e2'
      rw [e1', e2'.1, e2'.2, ← jt_of t r' (by simp at h; omega) (fun j hjj => by
        have := hj (j + 1) (by simp; omega)
        simpa [Nat.mul_add] using this)]
theorem ch_col {j : Nat} {c : UInt8} (hj : j % 3 = 2) (h : chOk j c = true) : c = 58 := by
  rw [chOk, if_pos hj, beq_iff_eq] at h
  exact h
theorem ch_dig {j : Nat} {c : UInt8} (hj : j % 3 ≠ 2) (h : chOk j c = true) : 0 ≤ idxM hexL (c.toNat : Int) := by
  rw [chOk, if_neg hj] at h
  exact of_decide_eq_true h
theorem idx_all : ∀ c : Fin 256, decide (0 ≤ idxM hexL (c.val : Int)) = (List.range 16).any fun j => hexL.getD j 0 == UInt8.ofNat c.val := by decide +kernel
theorem idx_no {c : UInt8} (h : ∀ j, j < 16 → hexL.getD j 0 ≠ c) : ¬ 0 ≤ idxM hexL (c.toNat : Int) := fun hh => by
  have := idx_all ⟨c.toNat, c.toNat_lt⟩
  rw [decide_eq_true hh] at this
  have := this.symm
  rw [List.any_eq_true] at this
  obtain ⟨j, hj, he⟩ := this
  rw [beq_iff_eq] at he
  exact h j (List.mem_range.1 hj) (by rw [he]; exact UInt8.ofNat_toNat)
theorem drop_getD (t : List UInt8) (n j : Nat) : (t.drop n).getD j 0 = t.getD (n + j) 0 := by
  rw [List.getD_eq_getElem?_getD, List.getD_eq_getElem?_getD, List.getElem?_drop]
theorem fing_shown {t q : List UInt8} (ht : t.length = 103) (hq : q.length = 32) (hp : parM t q) : eqB (shownM q) t = fingM t := by
  rw [Bool.eq_iff_iff]
  refine ⟨fun h => ?_, fun h => ?_⟩
  · rw [eqB_iff, beq_iff_eq] at h
    rw [← h]; exact shown_fing hq
  · obtain ⟨_, h1, h2, h3⟩ := (fing_iff t).1 h
    rw [eqB_iff, beq_iff_eq] at h1 ⊢
    have hr : t.drop 8 = joinM (hx q) [58] := by
      match q, hq, hp with
      | c :: q', hq, hp =>
        rw [join_hx]
        obtain ⟨_, hp⟩ := hp
        have e0 := hp 0 (by simp)
        have e0' : [t.getD 8 0, t.getD 9 0] = [hexL.getD (c.toNat / 16) (UInt8.ofNat 0), hexL.getD (c.toNat % 16) (UInt8.ofNat 0)] := e0
        simp only [List.cons.injEq, and_true] at e0'
        generalize hs : t.drop 8 = r at h2 h3 ⊢
        have hg : ∀ j, r.getD j 0 = t.getD (8 + j) 0 := fun j => by rw [← hs, drop_getD]
        match r, h2 with
        | a :: b :: r', h2 =>
          have ga : a = t.getD 8 0 := hg 0
          have gb : b = t.getD 9 0 := hg 1
          rw [ga, gb, e0'.1, e0'.2]
          congr 2
          rw [List.length_cons] at hq
          refine jt_of q' r' (by simp at h2; omega) fun j hj => ?_
          have g2 : ∀ i, r'.getD i 0 = t.getD (10 + i) 0 := fun i => by
            have := hg (i + 2)
            rw [show 8 + (i + 2) = 10 + i by omega] at this
            exact this
          refine ⟨?_, ?_⟩
          · have := ch_col (by omega) (h3 (3 * j + 2) (by omega))
            exact this
          · have := hp (j + 1) (by simp; omega)
            rw [g2, g2, show 10 + (3 * j + 1) = 8 + 3 * (j + 1) by omega, show 10 + (3 * j + 2) = 9 + 3 * (j + 1) by omega]
            exact this
    show preM ++ joinM (hx q) [58] = t
    rw [← h1, ← hr, List.take_append_drop]
theorem hex2_of {a b : Nat} (ha : a < 16) (hb : b < 16) : hex2M (UInt8.ofNat (16 * a + b)) = [hexL.getD a 0, hexL.getD b 0] := by
  have e : (UInt8.ofNat (16 * a + b)).toNat = 16 * a + b := by rw [UInt8.toNat_ofNat']; omega
  rw [hex2M, e, show (16 * a + b) / 16 = a by omega, show (16 * a + b) % 16 = b by omega]
  rfl
theorem valid18_run (t : List UInt8) (ht : t.length ≤ 1000000) (Q : Out → List Blk → Gh → Prop) (hq : Q (.ret (.bool (fingM t))) [] {}) : ∃ hv hb, goal_18 hv hb t Q := by
  obtain ⟨hv', hb', e'⟩ : ∃ hv hb, goal_18 hv hb t Q = _ := ⟨_, _, vc_18 t Q⟩
  refine ⟨hv', hb', e'.mpr ?_⟩
  clear e'
  have no : ¬ fingM t = true → Q (.ret (.bool false)) [] {} := fun h => by
    rw [Bool.not_eq_true] at h; rwa [h] at hq
  refine ⟨_, rfl, splitNE (fun h1 => no fun h => by
    obtain ⟨_, _, h2, _⟩ := (fing_iff t).1 h
    rw [List.length_drop] at h2; omega) (fun h1 => ⟨⟨[], ⟨Nat.zero_le _, fun j hj => absurd hj (Nat.not_lt_zero _)⟩, rfl, rfl, rfl, trivial⟩, ?_⟩)⟩
  have h103 : t.length = 103 := by omega
  rintro q ⟨hq1, hq2⟩
  refine ⟨_, rfl, splitD (fun h2 => ?_) (fun h2 => ?_)⟩
  · have c1 := (t.getD (8 + 3 * q.length) 0).toNat_lt
    have c2 := (t.getD (9 + 3 * q.length) 0).toNat_lt
    refine ⟨_, rfl, wrapI (by omega) (by omega) (wrapI (by omega) (by omega) (ckI (idxOk (by omega) (by omega)) ⟨((t.getD (8 + 3 * q.length) 0).toNat : Int), ?_, _, rfl, wrapI (by omega) (by omega) (wrapI (by omega) (by omega) (ckI (idxOk (by omega) (by omega)) ⟨((t.getD (9 + 3 * q.length) 0).toNat : Int), ?_, ⟨by omega, by omega⟩, ?_⟩))⟩))⟩
    · rw [show (8 + 3 * (q.length : Int)).toNat = 8 + 3 * q.length by omega]; rfl
    · rw [show (9 + 3 * (q.length : Int)).toNat = 9 + 3 * q.length by omega]; rfl
    have u1 : UInt8.ofNat (((t.getD (8 + 3 * q.length) 0).toNat : Int)).toNat = t.getD (8 + 3 * q.length) 0 := by rw [Int.toNat_natCast, UInt8.ofNat_toNat]
    have u2 : UInt8.ofNat (((t.getD (9 + 3 * q.length) 0).toNat : Int)).toNat = t.getD (9 + 3 * q.length) 0 := by rw [Int.toNat_natCast, UInt8.ofNat_toNat]
    have nx : ∀ k, k = 8 + 3 * q.length ∨ k = 9 + 3 * q.length → (∀ j, j < 16 → hexL.getD j 0 ≠ t.getD k 0) → ¬ fingM t = true := fun k hk hn h => by
      obtain ⟨_, _, h2, h3⟩ := (fing_iff t).1 h
      have := ch_dig (by omega) (h3 (k - 8) (by omega))
      rw [drop_getD, show 8 + (k - 8) = k by omega] at this
      exact idx_no hn this
    rintro x ⟨hx⟩
    rw [u1] at hx
    refine ⟨⟨by omega, by omega⟩, ?_⟩
    rintro y ⟨hy⟩
    rw [u2] at hy
    rcases hx with ⟨a, rfl, ha, ea⟩ | ⟨rfl, hn⟩
    · rcases hy with ⟨b, rfl, hb, eb⟩ | ⟨rfl, hn⟩
      · refine splitD (fun h => absurd h (by omega)) (fun _ => splitD (fun h => absurd h (by omega)) (fun _ => wrapI (by omega) (by omega) (wrapI (by omega) (by omega) (wrapU8 (by omega) (by omega) ⟨[UInt8.ofNat (16 * a + b)], ?_, ckI ?_ ⟨_, rfl, _, rfl, wrapI (by omega) (by omega) ⟨⟨trivial, rfl⟩, q ++ [UInt8.ofNat (16 * a + b)], ⟨?_, ?_⟩, ?_, rfl, rfl, ?_, trivial⟩⟩⟩))))
        · rw [show (16 * (a : Int) + b) = ((16 * a + b : Nat) : Int) by omega]
          rfl
        · rw [Bool.and_true, decide_eq_true_eq, List.length_singleton]; omega
        · rw [List.length_append, List.length_singleton]; omega
        · intro j hj
          rw [List.length_append, List.length_singleton] at hj
          rcases Nat.lt_or_ge j q.length with g | g
          · rw [hq2 j g, List.getD_eq_getElem?_getD, List.getD_eq_getElem?_getD, List.getElem?_append_left g]
          · obtain rfl : j = q.length := by omega
            rw [List.getD_eq_getElem?_getD (l := q ++ _), List.getElem?_append_right (Nat.le_refl _), Nat.sub_self, List.getElem?_cons_zero, Option.getD_some, hex2_of ha hb, ea, eb]
        · rw [List.length_append, List.length_singleton]; omega
        · rw [List.length_append, List.length_singleton]; rfl
      · exact splitD (fun h => absurd h (by omega)) (fun _ => splitD (fun _ => no (nx _ (.inr rfl) hn)) (fun h => absurd (show (-1 : Int) < 0 by omega) h))
    · exact splitD (fun _ => no (nx _ (.inl rfl) hn)) (fun h => absurd (show (-1 : Int) < 0 by omega) h)
  · have h32 : q.length = 32 := by omega
    refine ⟨⟨by omega⟩, ?_⟩
    rintro x ⟨rfl⟩
    have he := fing_shown h103 h32 ⟨hq1, hq2⟩
    rw [← he] at hq
    cases hh : eqB (shownM q) t with
    | true => rw [hh] at hq; exact hq
    | false => rw [hh] at hq; exact hq
def cVal18 : Con
  | [.str s], H, K => Lf (s.length ≤ 1000000) ∧ ∀ b, Lf (b = fingM s) → K (.ret (.bool b)) H
  | _, _, _ => False
theorem valid18_ok : ValidF Tryz.prog gl0 18 cVal18 := by
  refine valid_flat (enters_of (by kernel_rfl)) gl0_noY fun args H Q hc => ?_
  unfold cVal18 at hc
  split at hc
  · rename_i s
    obtain ⟨⟨h1⟩, hq⟩ := hc
    obtain ⟨hv, hb', h⟩ := valid18_run s h1 (Q := fun o H' _ => H' = [] ∧ (∃ v, o = .ret v ∧ old 0 v = true ∧ noY v = true) ∧ Q o H) ⟨rfl, ⟨_, rfl, rfl, rfl⟩, hq _ ⟨rfl⟩⟩
    exact ⟨rfl, rfl, _, 1000, envFor18 smVa_ok _ _ _, rfl, h⟩
  · exact hc.elim
end Go.Proofs.YtifjpcdpmimccaaGreatDoor

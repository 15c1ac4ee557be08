/-
  Chapter 18: the reference's Number, pair, digit: residuals.
-/
import Derived.Test.YtifjpcdpmimccaaGreatDoorBmK
set_option linter.unusedSimpArgs false
set_option linter.unusedVariables false
set_option linter.unusedSectionVars false
namespace Go.Proofs.YtifjpcdpmimccaaGreatDoor
open Go.RowKit
set_option maxRecDepth 1000000

def inv_51 (s : List UInt8) (_ : S) : List (List LInv) := [[{ α := Nat, pre := fun i => Lf (i ≤ s.length), st := fun i => ⟨mkT [(0, .str s), (3, .int .i64 (natM (s.take i) : Nat)), (4, .int .i64 (i : Nat))], []⟩, mu := fun i => s.length - i }]]
noncomputable def env_51 (hv : Nat → Option Pa) (hb : Nat → Option Bool) (s : List UInt8) : Env := e18 sm0 (fun i => bif Nat.beq i 51000 then some (inv_51 s) else none) hv hb
noncomputable def goal_51 (hv : Nat → Option Pa) (hb : Nat → Option Bool) (s : List UInt8) (Q : Out → List Blk → Gh → Prop) : Prop :=
  callx (env_51 hv hb s) (wpx (env_51 hv hb s) 1000) 51 [.str s] [] {} Q
theorem vc_51 (s : List UInt8) (Q : Out → List Blk → Gh → Prop) : goal_51 (lookV [(208901, .int .i64), (208903, .int .i64), (208907, .int .i64), (208908, .int .i64), (208910, .int .i64), (208911, .int .u8), (208912, .int .i64), (208913,
 .int .i64), (208905, .int .i64), (208906, .int .i64), (208914, .int .i64)]) (lookB []) s Q = ((∃ x_0 : Nat, Lf (x_0 ≤ s.length) ∧ eqqQ (AV.str s) ∧ AV.int .i64 0 = AV.int .i64 (natM (s.take x_0) : Int) ∧ AV.int .i64 0 = AV.int .i64 (x_0 :
 Int) ∧ True) ∧ ∀ x_0 : Nat, Lf (x_0 ≤ s.length) → exI .i64 (x_0 : Int) fun n_1 => exI .i64 (s.length : Int) fun n_2 => bif decide (n_1 < n_2) then exI .i64 (natM (s.take x_0) : Int) fun n_3 => exW .i64 (256 * n_3) fun n_4 => exI .i64 (x_0
 : Int) fun n_5 => ckQ (decide (0 ≤ n_5) && Nat.blt n_5.toNat s.length) (exI .u8 (UInt8.toNat (s.getD n_5.toNat (UInt8.ofNat 0)) : Int) fun n_6 => exW .i64 n_6 fun n_7 => exW .i64 (n_4 + n_7) fun n_8 => exI .i64 (x_0 : Int) fun n_9 => exW
 .i64 (n_9 + 1) fun n_10 => (True ∧ (0 : Nat) = (0 : Nat)) ∧ ∃ y_11 : Nat, Lf (y_11 ≤ s.length) ∧ s.length - y_11 < s.length - x_0 ∧ eqqQ (AV.str s) ∧ AV.int .i64 n_8 = AV.int .i64 (natM (s.take y_11) : Int) ∧ AV.int .i64 n_10 = AV.int .i64
 (y_11 : Int) ∧ True) else exI .i64 (natM (s.take x_0) : Int) fun n_3 => Q (.ret (.int .i64 n_3)) [] {}) := by kernel_rfl

noncomputable def goal_52 (hv : Nat → Option Pa) (hb : Nat → Option Bool) (c : Int) (Q : Out → List Blk → Gh → Prop) : Prop :=
  callx (e18 sm0 (fun _ => none) hv hb) (wpx (e18 sm0 (fun _ => none) hv hb) 1000) 52 [.int .u8 c] [] {} Q
theorem vc_52 (c : Int) (Q : Out → List Blk → Gh → Prop) : goal_52 (lookV [(212996, .int .u8), (212998, .int .u8), (212999, .int .u8), (213000, .str), (213002, .int .u8), (213004, .int .u8), (213005, .int .u8), (213006, .str), (213007,
 .str)]) (lookB []) c Q = (exW .u8 (c.tdiv 16) fun n_0 => exW .u8 (c.tdiv 16) fun n_1 => exW .u8 (n_1 + 1) fun n_2 => ckQ (decide (0 ≤ n_0) && decide (0 ≤ n_2) && Nat.ble n_0.toNat n_2.toNat && Nat.ble n_2.toNat 16) (exS (.str ((List.drop
 n_0.toNat [UInt8.ofNat 48, UInt8.ofNat 49, UInt8.ofNat 50, UInt8.ofNat 51, UInt8.ofNat 52, UInt8.ofNat 53, UInt8.ofNat 54, UInt8.ofNat 55, UInt8.ofNat 56, UInt8.ofNat 57, UInt8.ofNat 65, UInt8.ofNat 66, UInt8.ofNat 67, UInt8.ofNat 68,
 UInt8.ofNat 69, UInt8.ofNat 70]).take (n_2.toNat - n_0.toNat))) fun s_3 => exI .u8 (c.tmod 16) fun n_4 => exI .u8 (c.tmod 16) fun n_5 => exW .u8 (n_5 + 1) fun n_6 => ckQ (decide (0 ≤ n_4) && decide (0 ≤ n_6) && Nat.ble n_4.toNat n_6.toNat
 && Nat.ble n_6.toNat 16) (exS (.str ((List.drop n_4.toNat [UInt8.ofNat 48, UInt8.ofNat 49, UInt8.ofNat 50, UInt8.ofNat 51, UInt8.ofNat 52, UInt8.ofNat 53, UInt8.ofNat 54, UInt8.ofNat 55, UInt8.ofNat 56, UInt8.ofNat 57, UInt8.ofNat 65,
 UInt8.ofNat 66, UInt8.ofNat 67, UInt8.ofNat 68, UInt8.ofNat 69, UInt8.ofNat 70]).take (n_6.toNat - n_4.toNat))) fun s_7 => ckQ (decide (s_3.length + s_7.length ≤ 9223372036854775807) && true) (exS (.str (s_3 ++ s_7)) fun s_8 => Q (.ret
 (.str s_8)) [] {})))) := by kernel_rfl

def inv_54 (c : Int) (_ : S) : List (List LInv) := [[{ α := Nat, pre := fun i => Lf (i ≤ 16 ∧ ∀ j, j < i → ((hexL.getD j 0).toNat : Int) ≠ c), st := fun i => ⟨mkT [(0, .int .u8 c), (3, .int .i64 (i : Nat))], []⟩, mu := fun i => 16 - i }]]
noncomputable def env_54 (hv : Nat → Option Pa) (hb : Nat → Option Bool) (c : Int) : Env := e18 sm0 (fun i => bif Nat.beq i 54000 then some (inv_54 c) else none) hv hb
noncomputable def goal_54 (hv : Nat → Option Pa) (hb : Nat → Option Bool) (c : Int) (Q : Out → List Blk → Gh → Prop) : Prop :=
  callx (env_54 hv hb c) (wpx (env_54 hv hb c) 1000) 54 [.int .u8 c] [] {} Q
theorem vc_54 (c : Int) (Q : Out → List Blk → Gh → Prop) : goal_54 (lookV [(221188, .int .i64), (221192, .int .i64), (221193, .int .u8), (221196, .int .i64), (221190, .int .i64), (221191, .int .i64)]) (lookB []) c Q = ((∃ x_0 : Nat, Lf (x_0
 ≤ 16 ∧ ∀ j_1 : Nat, j_1 < x_0 → (UInt8.toNat (hexL.getD j_1 0) : Int) ≠ c) ∧ eqqQ (AV.int .u8 c) ∧ AV.int .i64 0 = AV.int .i64 (x_0 : Int) ∧ True) ∧ ∀ x_0 : Nat, Lf (x_0 ≤ 16 ∧ ∀ j_1 : Nat, j_1 < x_0 → (UInt8.toNat (hexL.getD j_1 0) : Int)
 ≠ c) → exI .i64 (x_0 : Int) fun n_1 => bif decide (n_1 < 16) then exI .i64 (x_0 : Int) fun n_2 => ckQ (decide (0 ≤ n_2) && Nat.blt n_2.toNat 16) (exI .u8 (UInt8.toNat (List.getD [UInt8.ofNat 48, UInt8.ofNat 49, UInt8.ofNat 50, UInt8.ofNat
 51, UInt8.ofNat 52, UInt8.ofNat 53, UInt8.ofNat 54, UInt8.ofNat 55, UInt8.ofNat 56, UInt8.ofNat 57, UInt8.ofNat 65, UInt8.ofNat 66, UInt8.ofNat 67, UInt8.ofNat 68, UInt8.ofNat 69, UInt8.ofNat 70] n_2.toNat (UInt8.ofNat 0)) : Int) fun n_3
 => bif n_3 == c then exI .i64 (x_0 : Int) fun n_4 => Q (.ret (.int .i64 n_4)) [] {} else exI .i64 (x_0 : Int) fun n_4 => exW .i64 (n_4 + 1) fun n_5 => (True ∧ (0 : Nat) = (0 : Nat)) ∧ ∃ y_6 : Nat, Lf (y_6 ≤ 16 ∧ ∀ j_7 : Nat, j_7 < y_6 →
 (UInt8.toNat (hexL.getD j_7 0) : Int) ≠ c) ∧ 16 - y_6 < 16 - x_0 ∧ eqqQ (AV.int .u8 c) ∧ AV.int .i64 n_5 = AV.int .i64 (y_6 : Int) ∧ True) else Q (.ret (.int .i64 (-1))) [] {}) := by kernel_rfl

end Go.Proofs.YtifjpcdpmimccaaGreatDoor

set_option linter.unusedSimpArgs false
set_option linter.unusedVariables false
set_option linter.unusedSectionVars false
namespace Go.Proofs.YtifjpcdpmimccaaGreatDoor
open Go.RowKit
set_option maxRecDepth 1000000

theorem num51_run (s : List UInt8) (hs : s.length ≤ 7) (Q : Out → List Blk → Gh → Prop) (hq : Q (.ret (.int .i64 (beM s))) [] {}) : ∃ hv hb, goal_51 hv hb s Q := by
  obtain ⟨hv', hb', e'⟩ : ∃ hv hb, goal_51 hv hb s Q = _ := ⟨_, _, vc_51 s Q⟩
  refine ⟨hv', hb', e'.mpr ?_⟩
  clear e'
  refine ⟨⟨0, ⟨by omega⟩, rfl, rfl, rfl, trivial⟩, ?_⟩
  rintro i ⟨hi⟩
  refine ⟨_, rfl, _, rfl, splitD (fun h => ?_) (fun h => ?_)⟩
  · have h1 := natM_lt (s.take i)
    have hil : (s.take i).length ≤ 6 := by rw [List.length_take]; omega
    have h2 : (256 : Nat) ^ (s.take i).length ≤ 256 ^ 6 := Nat.pow_le_pow_right (by decide) hil
    have p6 : (256 : Nat) ^ 6 = 281474976710656 := by decide
    have hc := (s.getD i 0).toNat_lt
    have hsn := nat_snoc (s := s) (i := i) (by omega)
    refine ⟨_, rfl, wrapI (by omega) (by omega) ⟨_, rfl, ckI (idxOk (by omega) (by omega)) ⟨_, rfl, wrapI (by show _ ≤ (((s.getD i 0).toNat : Nat) : Int); omega) (by show (((s.getD i 0).toNat : Nat) : Int) ≤ _; omega) (wrapI (by show _ ≤ 256 * (natM (s.take i) : Int) + ((s.getD i 0).toNat : Int); omega) (by show 256 * (natM (s.take i) : Int) + ((s.getD i 0).toNat : Int) ≤ _; omega) ⟨_, rfl, wrapI (by omega) (by omega) ⟨⟨trivial, rfl⟩, i + 1, ⟨by omega⟩, by omega, rfl, ?_, rfl, trivial⟩⟩)⟩⟩⟩
    refine congrArg (AV.int .i64) ?_
    show 256 * (natM (s.take i) : Int) + ((s.getD i 0).toNat : Int) = _
    rw [hsn]; omega
  · have : i = s.length := by omega
    subst this
    rw [List.take_of_length_le (Nat.le_refl _)]
    exact ⟨_, rfl, hq⟩
theorem one_hex (q : Nat) (h : q < 16) : (hexL.drop q).take 1 = [hexL.getD q (UInt8.ofNat 0)] := by
  have : ∀ j : Fin 16, (hexL.drop j).take 1 = [hexL.getD j (UInt8.ofNat 0)] := by decide
  exact this ⟨q, h⟩
theorem pair52_run (c : UInt8) (Q : Out → List Blk → Gh → Prop) (hq : Q (.ret (.str (hex2M c))) [] {}) : ∃ hv hb, goal_52 hv hb (c.toNat : Int) Q := by
  obtain ⟨hv', hb', e'⟩ : ∃ hv hb, goal_52 hv hb (c.toNat : Int) Q = _ := ⟨_, _, vc_52 (c.toNat : Int) Q⟩
  refine ⟨hv', hb', e'.mpr ?_⟩
  clear e'
  have t1 := tdu c
  have t2 := tmu c
  have d1 := tdn c.toNat
  have d2 := tmn c.toNat
  have c1 := hi16 c
  have c2 := lo16 c
  refine wrapU8 (by omega) (by omega) (wrapU8 (by omega) (by omega) (wrapU8 (by omega) (by omega) (ckI ?_ ⟨[hexL.getD (c.toNat / 16) (UInt8.ofNat 0)], congrArg AV.str ?_, _, rfl, _, rfl, wrapU8 (by omega) (by omega) (ckI ?_ ⟨[hexL.getD (c.toNat % 16) (UInt8.ofNat 0)], congrArg AV.str ?_, ckI rfl ⟨_, rfl, hq⟩⟩)⟩)))
  · simp only [Bool.and_eq_true, decide_eq_true_eq, Nat.ble_eq]; omega
  · rw [show (Int.tdiv (c.toNat : Int) 16 + 1).toNat - (Int.tdiv (c.toNat : Int) 16).toNat = 1 by omega, d1]
    exact one_hex _ c1
  · simp only [Bool.and_eq_true, decide_eq_true_eq, Nat.ble_eq]; omega
  · rw [show (Int.tmod (c.toNat : Int) 16 + 1).toNat - (Int.tmod (c.toNat : Int) 16).toNat = 1 by omega, d2]
    exact one_hex _ c2
theorem dig54_run (c : UInt8) (Q : Out → List Blk → Gh → Prop) (hq : ∀ x : Int, ((∃ q : Nat, x = q ∧ q < 16 ∧ hexL.getD q 0 = c) ∨ (x = -1 ∧ ∀ j, j < 16 → hexL.getD j 0 ≠ c)) → Q (.ret (.int .i64 x)) [] {}) : ∃ hv hb, goal_54 hv hb (c.toNat : Int) Q := by
  obtain ⟨hv', hb', e'⟩ : ∃ hv hb, goal_54 hv hb (c.toNat : Int) Q = _ := ⟨_, _, vc_54 (c.toNat : Int) Q⟩
  refine ⟨hv', hb', e'.mpr ?_⟩
  clear e'
  refine ⟨⟨0, ⟨by omega, fun j hj => by omega⟩, rfl, rfl, trivial⟩, ?_⟩
  rintro i ⟨hi, h0⟩
  refine ⟨_, rfl, splitD (fun h => ⟨_, rfl, ckI (idxOk (by omega) (by omega)) ⟨_, rfl, splitE (fun h1 => ⟨_, rfl, ?_⟩) (fun h1 => ⟨_, rfl, wrapI (by omega) (by omega) ⟨⟨trivial, rfl⟩, i + 1, ⟨by omega, fun j hj => ?_⟩, by omega, rfl, rfl, trivial⟩⟩)⟩⟩) (fun h => ?_)⟩
  · exact hq _ (.inl ⟨i, rfl, by omega, UInt8.toNat_inj.1 (Int.ofNat.inj h1)⟩)
  · rcases Nat.lt_or_ge j i with g | g
    · exact h0 j g
    · obtain rfl : j = i := by omega
      exact h1
  · refine hq _ (.inr ⟨rfl, fun j hj h1 => h0 j (by omega) (by rw [h1])⟩)
end Go.Proofs.YtifjpcdpmimccaaGreatDoor

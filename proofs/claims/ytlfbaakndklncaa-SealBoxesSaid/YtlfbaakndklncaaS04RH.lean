/-
  Chapter 4: the reference's words.
-/
import Derived.Test.YtlfbaakndklncaaS04RG
set_option linter.unusedSimpArgs false
set_option linter.unusedVariables false
set_option linter.unusedSectionVars false
namespace Go.Proofs.Ytlfbaakndklncaa
open Go.RowKit
set_option maxRecDepth 1000000

/-! ## turned -/
def turnM : Nat → Nat → Nat
  | 0, x => x
  | i + 1, x => if 4294967296 ≤ 2 * turnM i x then 2 * turnM i x - 4294967296 + 1 else 2 * turnM i x
def inv_76 (x k : Nat) : LInv where
  α := Nat
  pre i := Lf (i ≤ k)
  st i := ⟨mkT [(0, .int .i64 (turnM i x : Nat)), (1, .int .i64 (k : Nat)), (5, .int .i64 (i : Nat))], []⟩
  mu i := k - i
noncomputable def env_76 (hv : Nat → Option Pa) (hb : Nat → Option Bool) (x k : Nat) : Env := e04 sm0 (fun i => bif Nat.beq i 76000 then some (fun _ => [[inv_76 x k]]) else none) hv hb
noncomputable def goal_76 (hv : Nat → Option Pa) (hb : Nat → Option Bool) (x k : Nat) (Q : Out → List Blk → Gh → Prop) : Prop :=
  callx (env_76 hv hb x k) (wpx (env_76 hv hb x k) 1000) 76 [.int .i64 (x : Nat), .int .i64 (k : Nat)] [] {} Q
theorem vc_76 (x : Nat) (k : Nat) (Q : Out → List Blk → Gh → Prop) : goal_76 (lookV [(311302, .int .i64), (311303, .int .i64), (311307, .int .i64), (311308, .int .i64), (311312, .int .i64), (311313, .int .i64), (311305, .int .i64), (311306,
 .int .i64), (311314, .int .i64)]) (lookB []) x k Q = ((∃ x_0 : Nat, Lf (x_0 ≤ k) ∧ AV.int .i64 (x : Int) = AV.int .i64 (turnM x_0 x : Int) ∧ eqqQ (AV.int .i64 (k : Int)) ∧ AV.int .i64 0 = AV.int .i64 (x_0 : Int) ∧ True) ∧ ∀ x_0 : Nat, Lf
 (x_0 ≤ k) → exI .i64 (x_0 : Int) fun n_1 => exI .i64 (k : Int) fun n_2 => bif decide (n_1 < n_2) then exI .i64 (turnM x_0 x : Int) fun n_3 => exW .i64 (2 * n_3) fun n_4 => bif decide (n_4 ≥ 4294967296) then exW .i64 (n_4 - 4294967296) fun
 n_5 => exW .i64 (n_5 + 1) fun n_6 => exI .i64 (x_0 : Int) fun n_7 => exW .i64 (n_7 + 1) fun n_8 => (True ∧ (0 : Nat) = (0 : Nat)) ∧ ∃ y_9 : Nat, Lf (y_9 ≤ k) ∧ k - y_9 < k - x_0 ∧ AV.int .i64 n_6 = AV.int .i64 (turnM y_9 x : Int) ∧ eqqQ
 (AV.int .i64 (k : Int)) ∧ AV.int .i64 n_8 = AV.int .i64 (y_9 : Int) ∧ True else exI .i64 (x_0 : Int) fun n_5 => exW .i64 (n_5 + 1) fun n_6 => (True ∧ (0 : Nat) = (0 : Nat)) ∧ ∃ y_7 : Nat, Lf (y_7 ≤ k) ∧ k - y_7 < k - x_0 ∧ AV.int .i64 n_4
 = AV.int .i64 (turnM y_7 x : Int) ∧ eqqQ (AV.int .i64 (k : Int)) ∧ AV.int .i64 n_6 = AV.int .i64 (y_7 : Int) ∧ True else exI .i64 (turnM x_0 x : Int) fun n_3 => Q (.ret (.int .i64 n_3)) [] {}) := by kernel_rfl

/-! ## xor -/
def inv_77 (x y : Nat) : LInv where
  α := Nat
  pre i := Lf (i ≤ 32)
  st i := ⟨mkT [(0, .int .i64 (x / 2 ^ i : Nat)), (1, .int .i64 (y / 2 ^ i : Nat)), (5, .int .i64 ((x ^^^ y) % 2 ^ i : Nat)), (6, .int .i64 (2 ^ i : Nat)), (7, .int .i64 (i : Nat))], []⟩
  mu i := 32 - i
noncomputable def env_77 (hv : Nat → Option Pa) (hb : Nat → Option Bool) (x y : Nat) : Env := e04 sm0 (fun i => bif Nat.beq i 77000 then some (fun _ => [[inv_77 x y]]) else none) hv hb
noncomputable def goal_77 (hv : Nat → Option Pa) (hb : Nat → Option Bool) (x y : Nat) (Q : Out → List Blk → Gh → Prop) : Prop :=
  callx (env_77 hv hb x y) (wpx (env_77 hv hb x y) 1000) 77 [.int .i64 (x : Nat), .int .i64 (y : Nat)] [] {} Q
theorem vc_77 (x : Nat) (y : Nat) (Q : Out → List Blk → Gh → Prop) : goal_77 (lookV [(315400, .int .i64), (315404, .int .i64), (315405, .int .i64), (315406, .int .i64), (315407, .int .i64), (315409, .int .i64), (315410, .int .i64), (315411,
 .int .i64), (315412, .int .i64), (315413, .int .i64), (315414, .int .i64), (315415, .int .i64), (315416, .int .i64), (315417, .int .i64), (315402, .int .i64), (315403, .int .i64), (315418, .int .i64)]) (lookB []) x y Q = ((∃ x_0 : Nat, Lf
 (x_0 ≤ 32) ∧ AV.int .i64 (x : Int) = AV.int .i64 ((x / (2 : Nat) ^ x_0 : Nat) : Int) ∧ AV.int .i64 (y : Int) = AV.int .i64 ((y / (2 : Nat) ^ x_0 : Nat) : Int) ∧ AV.int .i64 0 = AV.int .i64 (x_0 : Int) ∧ AV.int .i64 0 = AV.int .i64 (((x ^^^
 y) % (2 : Nat) ^ x_0 : Nat) : Int) ∧ AV.int .i64 1 = AV.int .i64 (((2 : Nat) ^ x_0 : Nat) : Int) ∧ True) ∧ ∀ x_0 : Nat, Lf (x_0 ≤ 32) → exI .i64 (x_0 : Int) fun n_1 => bif decide (n_1 < 32) then exI .i64 ((x / (2 : Nat) ^ x_0 : Nat) : Int)
 fun n_2 => exI .i64 (n_2.tmod 2) fun n_3 => exI .i64 ((y / (2 : Nat) ^ x_0 : Nat) : Int) fun n_4 => exI .i64 (n_4.tmod 2) fun n_5 => bif n_3 != n_5 then exI .i64 (((x ^^^ y) % (2 : Nat) ^ x_0 : Nat) : Int) fun n_6 => exI .i64 (((2 : Nat) ^
 x_0 : Nat) : Int) fun n_7 => exW .i64 (n_6 + n_7) fun n_8 => exI .i64 ((x / (2 : Nat) ^ x_0 : Nat) : Int) fun n_9 => exW .i64 (n_9.tdiv 2) fun n_10 => exI .i64 ((y / (2 : Nat) ^ x_0 : Nat) : Int) fun n_11 => exW .i64 (n_11.tdiv 2) fun n_12
 => exI .i64 (((2 : Nat) ^ x_0 : Nat) : Int) fun n_13 => exW .i64 (2 * n_13) fun n_14 => exI .i64 (x_0 : Int) fun n_15 => exW .i64 (n_15 + 1) fun n_16 => (True ∧ (0 : Nat) = (0 : Nat)) ∧ ∃ y_17 : Nat, Lf (y_17 ≤ 32) ∧ 32 - y_17 < 32 - x_0 ∧
 AV.int .i64 n_10 = AV.int .i64 ((x / (2 : Nat) ^ y_17 : Nat) : Int) ∧ AV.int .i64 n_12 = AV.int .i64 ((y / (2 : Nat) ^ y_17 : Nat) : Int) ∧ AV.int .i64 n_16 = AV.int .i64 (y_17 : Int) ∧ AV.int .i64 n_8 = AV.int .i64 (((x ^^^ y) % (2 : Nat)
 ^ y_17 : Nat) : Int) ∧ AV.int .i64 n_14 = AV.int .i64 (((2 : Nat) ^ y_17 : Nat) : Int) ∧ True else exI .i64 ((x / (2 : Nat) ^ x_0 : Nat) : Int) fun n_6 => exW .i64 (n_6.tdiv 2) fun n_7 => exI .i64 ((y / (2 : Nat) ^ x_0 : Nat) : Int) fun
 n_8 => exW .i64 (n_8.tdiv 2) fun n_9 => exI .i64 (((2 : Nat) ^ x_0 : Nat) : Int) fun n_10 => exW .i64 (2 * n_10) fun n_11 => exI .i64 (x_0 : Int) fun n_12 => exW .i64 (n_12 + 1) fun n_13 => (True ∧ (0 : Nat) = (0 : Nat)) ∧ ∃ y_14 : Nat, Lf
 (y_14 ≤ 32) ∧ 32 - y_14 < 32 - x_0 ∧ AV.int .i64 n_7 = AV.int .i64 ((x / (2 : Nat) ^ y_14 : Nat) : Int) ∧ AV.int .i64 n_9 = AV.int .i64 ((y / (2 : Nat) ^ y_14 : Nat) : Int) ∧ AV.int .i64 n_13 = AV.int .i64 (y_14 : Int) ∧ AV.int .i64 (((x
 ^^^ y) % (2 : Nat) ^ x_0 : Nat) : Int) = AV.int .i64 (((x ^^^ y) % (2 : Nat) ^ y_14 : Nat) : Int) ∧ AV.int .i64 n_11 = AV.int .i64 (((2 : Nat) ^ y_14 : Nat) : Int) ∧ True else exI .i64 (((x ^^^ y) % (2 : Nat) ^ x_0 : Nat) : Int) fun n_2 =>
 Q (.ret (.int .i64 n_2)) [] {}) := by kernel_rfl

/-! ## number, octets -/
noncomputable def goal_63 (hv : Nat → Option Pa) (hb : Nat → Option Bool) (s : List UInt8) (Q : Out → List Blk → Gh → Prop) : Prop :=
  callx (e04 sm0 (fun _ => none) hv hb) (wpx (e04 sm0 (fun _ => none) hv hb) 1000) 63 [.str s] [] {} Q
theorem vc_63 (s : List UInt8) (Q : Out → List Blk → Gh → Prop) : goal_63 (lookV [(258052, .int .u8), (258053, .int .i64), (258055, .int .u8), (258056, .int .i64), (258057, .int .i64), (258058, .int .i64), (258060, .int .u8), (258061, .int
 .i64), (258062, .int .i64), (258063, .int .i64), (258065, .int .u8), (258066, .int .i64), (258067, .int .i64), (258068, .int .i64)]) (lookB []) s Q = (ckQ (Nat.blt 0 s.length) (exI .u8 (UInt8.toNat (s.getD 0 (UInt8.ofNat 0)) : Int) fun n_0
 => exW .i64 n_0 fun n_1 => ckQ (Nat.blt 1 s.length) (exI .u8 (UInt8.toNat (s.getD 1 (UInt8.ofNat 0)) : Int) fun n_2 => exW .i64 n_2 fun n_3 => exW .i64 (256 * n_3) fun n_4 => exW .i64 (n_1 + n_4) fun n_5 => ckQ (Nat.blt 2 s.length) (exI
 .u8 (UInt8.toNat (s.getD 2 (UInt8.ofNat 0)) : Int) fun n_6 => exW .i64 n_6 fun n_7 => exW .i64 (65536 * n_7) fun n_8 => exW .i64 (n_5 + n_8) fun n_9 => ckQ (Nat.blt 3 s.length) (exI .u8 (UInt8.toNat (s.getD 3 (UInt8.ofNat 0)) : Int) fun
 n_10 => exW .i64 n_10 fun n_11 => exW .i64 (16777216 * n_11) fun n_12 => exW .i64 (n_9 + n_12) fun n_13 => Q (.ret (.int .i64 n_13)) [] {}))))) := by kernel_rfl

noncomputable def goal_62 (hv : Nat → Option Pa) (hb : Nat → Option Bool) (x : Nat) (Q : Out → List Blk → Gh → Prop) : Prop :=
  callx (e04 sm0 (fun _ => none) hv hb) (wpx (e04 sm0 (fun _ => none) hv hb) 1000) 62 [.int .i64 (x : Nat)] [] {} Q
theorem vc_62 (x : Nat) (Q : Out → List Blk → Gh → Prop) : goal_62 (lookV [(253955, .int .i64), (253956, .int .i64), (253957, .int .u8), (253958, .int .i64), (253959, .int .i64), (253960, .int .i64), (253961, .int .u8), (253962, .int .i64),
 (253963, .int .i64), (253964, .int .i64), (253965, .int .u8), (253966, .int .i64), (253967, .int .i64), (253968, .int .u8), (253970, .str)]) (lookB []) x Q = (exI .i64 (x : Int) fun n_0 => exI .i64 (n_0.tmod 256) fun n_1 => exW .u8 n_1 fun
 n_2 => exI .i64 (x : Int) fun n_3 => exW .i64 (n_3.tdiv 256) fun n_4 => exI .i64 (n_4.tmod 256) fun n_5 => exW .u8 n_5 fun n_6 => exI .i64 (x : Int) fun n_7 => exW .i64 (n_7.tdiv 65536) fun n_8 => exI .i64 (n_8.tmod 256) fun n_9 => exW .u8
 n_9 fun n_10 => exI .i64 (x : Int) fun n_11 => exW .i64 (n_11.tdiv 16777216) fun n_12 => exW .u8 n_12 fun n_13 => exS (.str [toB (.int .u8 n_2), toB (.int .u8 n_6), toB (.int .u8 n_10), toB (.int .u8 n_13)]) fun s_14 => Q (.ret (.str
 s_14)) [] {}) := by kernel_rfl

theorem exM {k : IntKind} (x d : Nat) {K : Int → Prop} (h : K ((x % d : Nat) : Int)) : ∃ n, AV.int k ((x : Int).tmod (d : Int)) = AV.int k n ∧ K n := ⟨_, by rw [tmodN], h⟩
theorem exT (x d : Nat) {K : Int → Prop} (hx : x ≤ 9223372036854775807) (h : K ((x / d : Nat) : Int)) : ∃ n, AV.int .i64 (IntKind.wrap .i64 ((x : Int).tdiv (d : Int))) = AV.int .i64 n ∧ K n := by
  have h2 : x / d ≤ x := Nat.div_le_self x d
  rw [tdivN]
  obtain ⟨q, hq⟩ : ∃ q, x / d = q := ⟨_, rfl⟩
  rw [hq] at h h2 ⊢
  exact wrapI (by omega) (by omega) h
/-! ## proofs -/
theorem turn_lt : ∀ i x, x < 4294967296 → turnM i x < 4294967296
  | 0, x, h => h
  | i + 1, x, h => by
    have := turn_lt i x h
    rw [turnM]
    split <;> omega
theorem turn_run (x k : Nat) (hx : x < 4294967296) (hk : k ≤ 1000) (Q : Out → List Blk → Gh → Prop) (hq : Q (.ret (.int .i64 (turnM k x : Nat))) [] {}) : ∃ hv hb, goal_76 hv hb x k Q := by
  obtain ⟨hv, hb', e⟩ : ∃ hv hb, goal_76 hv hb x k Q = _ := ⟨_, _, vc_76 x k Q⟩
  refine ⟨hv, hb', e.mpr ?_⟩
  clear e
  refine ⟨⟨0, ⟨by omega⟩, rfl, rfl, rfl, trivial⟩, ?_⟩
  rintro i ⟨hi⟩
  have ht := turn_lt i x hx
  have hs : turnM (i + 1) x = if 4294967296 ≤ 2 * turnM i x then 2 * turnM i x - 4294967296 + 1 else 2 * turnM i x := rfl
  refine ⟨_, rfl, _, rfl, splitD (fun h => ?_) (fun h => ?_)⟩
  · refine ⟨_, rfl, wrapI (by omega) (by omega) (splitD (fun h2 => ?_) (fun h2 => ?_))⟩
    · exact wrapI (by omega) (by omega) (wrapI (by omega) (by omega) ⟨_, rfl, wrapI (by omega) (by omega) ⟨⟨trivial, rfl⟩, i + 1, ⟨by omega⟩, by omega, by rw [hs, if_pos (by omega), show ((2 * turnM i x - 4294967296 + 1 : Nat) : Int) = 2 * (turnM i x : Int) - 4294967296 + 1 by omega], rfl, rfl, trivial⟩⟩)
    · exact ⟨_, rfl, wrapI (by omega) (by omega) ⟨⟨trivial, rfl⟩, i + 1, ⟨by omega⟩, by omega, by rw [hs, if_neg (by omega), show ((2 * turnM i x : Nat) : Int) = 2 * (turnM i x : Int) by omega], rfl, rfl, trivial⟩⟩
  · obtain rfl : i = k := by omega
    exact ⟨_, rfl, hq⟩
theorem testB (x i : Nat) : x / 2 ^ i % 2 = (x.testBit i).toNat := by
  rw [Nat.testBit_eq_decide_div_mod_eq]
  have := Nat.mod_lt (x / 2 ^ i) (by decide : 0 < 2)
  by_cases h : x / 2 ^ i % 2 = 1
  · simp [h]
  · simp [h]; omega
theorem xor_step (x y i : Nat) : (x ^^^ y) % 2 ^ (i + 1) = (if x / 2 ^ i % 2 ≠ y / 2 ^ i % 2 then (x ^^^ y) % 2 ^ i + 2 ^ i else (x ^^^ y) % 2 ^ i) := by
  have h1 : (x ^^^ y) % 2 ^ (i + 1) = (x ^^^ y) % 2 ^ i + 2 ^ i * ((x ^^^ y) / 2 ^ i % 2) := by rw [Nat.pow_succ, Nat.mod_mul]
  rw [h1, testB, testB, testB, Nat.testBit_xor]
  cases x.testBit i <;> cases y.testBit i <;> simp
theorem xor_run (x y : Nat) (hx : x < 4294967296) (hy : y < 4294967296) (Q : Out → List Blk → Gh → Prop) (hq : Q (.ret (.int .i64 (x ^^^ y : Nat))) [] {}) : ∃ hv hb, goal_77 hv hb x y Q := by
  obtain ⟨hv, hb', e⟩ : ∃ hv hb, goal_77 hv hb x y Q = _ := ⟨_, _, vc_77 x y Q⟩
  refine ⟨hv, hb', e.mpr ?_⟩
  clear e
  refine ⟨⟨0, ⟨by omega⟩, by simp, by simp, by simp [Nat.mod_one], by simp, rfl, trivial⟩, ?_⟩
  rintro i ⟨hi⟩
  have hs := xor_step x y i
  have hlt : (x ^^^ y) < 2 ^ 32 := Nat.xor_lt_two_pow (by omega) (by omega)
  have h2 : 2 ^ i ≤ 2 ^ 32 := Nat.pow_le_pow_right (by omega) hi
  have h3 : (x ^^^ y) % 2 ^ i < 2 ^ i := Nat.mod_lt _ (Nat.pow_pos (by decide))
  have h4 : (2 : Nat) ^ 32 = 4294967296 := rfl
  have hdx : x / 2 ^ i ≤ x := Nat.div_le_self _ _
  have hdy : y / 2 ^ i ≤ y := Nat.div_le_self _ _
  have ex : x / 2 ^ (i + 1) = x / 2 ^ i / 2 := by rw [Nat.pow_succ, Nat.div_div_eq_div_mul]
  have ey : y / 2 ^ (i + 1) = y / 2 ^ i / 2 := by rw [Nat.pow_succ, Nat.div_div_eq_div_mul]
  have ep : 2 ^ (i + 1) = 2 * 2 ^ i := by rw [Nat.pow_succ, Nat.mul_comm]
  refine ⟨_, rfl, splitD (fun h => ?_) (fun h => ?_)⟩
  · obtain ⟨A, hA⟩ : ∃ A, x / 2 ^ i = A := ⟨_, rfl⟩
    obtain ⟨B, hB⟩ : ∃ B, y / 2 ^ i = B := ⟨_, rfl⟩
    obtain ⟨P, hP⟩ : ∃ P, 2 ^ i = P := ⟨_, rfl⟩
    obtain ⟨Z, hZ⟩ : ∃ Z, (x ^^^ y) % 2 ^ i = Z := ⟨_, rfl⟩
    rw [hA] at ex hs hdx
    rw [hB] at ey hs hdy
    rw [hZ, hP] at hs
    rw [hZ, hP] at h3
    rw [hP] at ep h2
    rw [hA, hB, hZ, hP]
    refine ⟨_, rfl, exM A 2 ⟨_, rfl, exM B 2 (splitNE (fun hne => ?_) (fun hne => ?_))⟩⟩
    · exact ⟨_, rfl, _, rfl, wrapI (by omega) (by omega) ⟨_, rfl, exT A 2 (by omega) ⟨_, rfl, exT B 2 (by omega) ⟨_, rfl, wrapI (by omega) (by omega) ⟨_, rfl, wrapI (by omega) (by omega) ⟨⟨trivial, rfl⟩, i + 1, ⟨by omega⟩, by omega, by rw [ex], by rw [ey], rfl, by rw [hs, if_pos (by omega)]; rfl, by rw [ep]; rfl, trivial⟩⟩⟩⟩⟩⟩
    · exact ⟨_, rfl, exT A 2 (by omega) ⟨_, rfl, exT B 2 (by omega) ⟨_, rfl, wrapI (by omega) (by omega) ⟨_, rfl, wrapI (by omega) (by omega) ⟨⟨trivial, rfl⟩, i + 1, ⟨by omega⟩, by omega, by rw [ex], by rw [ey], rfl, by rw [hs, if_neg (by omega)], by rw [ep]; rfl, trivial⟩⟩⟩⟩⟩
  · obtain rfl : i = 32 := by omega
    rw [Nat.mod_eq_of_lt hlt]
    exact ⟨_, rfl, hq⟩
theorem num_words (s : List UInt8) (m : Nat) : numM s m = bytM s m + 256 * bytM s (m + 1) + 65536 * bytM s (m + 2) + 16777216 * bytM s (m + 3) := by
  have a0 := bytM_lt s m
  have a1 := bytM_lt s (m + 1)
  have a2 := bytM_lt s (m + 2)
  have a3 := bytM_lt s (m + 3)
  have e1 : bytM s m ||| bytM s (m + 1) * 256 = bytM s m + bytM s (m + 1) * 256 := or_lo 8 (by omega) (by omega)
  have e2 : (bytM s m + bytM s (m + 1) * 256) ||| bytM s (m + 2) * 65536 = bytM s m + bytM s (m + 1) * 256 + bytM s (m + 2) * 65536 := or_lo 16 (by omega) (by omega)
  have e3 : (bytM s m + bytM s (m + 1) * 256 + bytM s (m + 2) * 65536) ||| bytM s (m + 3) * 16777216 = bytM s m + bytM s (m + 1) * 256 + bytM s (m + 2) * 65536 + bytM s (m + 3) * 16777216 := or_lo 24 (by omega) (by omega)
  rw [numM, e1, e2, e3]
  omega
theorem number63_run (s : List UInt8) (hs : s.length = 4) (Q : Out → List Blk → Gh → Prop) (hq : Q (.ret (.int .i64 (numM s 0 : Nat))) [] {}) : ∃ hv hb, goal_63 hv hb s Q := by
  obtain ⟨hv, hb', e⟩ : ∃ hv hb, goal_63 hv hb s Q = _ := ⟨_, _, vc_63 s Q⟩
  refine ⟨hv, hb', e.mpr ?_⟩
  clear e
  rw [num_words] at hq
  have a0 := bytM_lt s 0
  have a1 := bytM_lt s 1
  have a2 := bytM_lt s 2
  have a3 := bytM_lt s 3
  have e0 : (s.getD 0 (UInt8.ofNat 0)).toNat = bytM s 0 := rfl
  have e1 : (s.getD 1 (UInt8.ofNat 0)).toNat = bytM s 1 := rfl
  have e2 : (s.getD 2 (UInt8.ofNat 0)).toNat = bytM s 2 := rfl
  have e3 : (s.getD 3 (UInt8.ofNat 0)).toNat = bytM s 3 := rfl
  rw [e0, e1, e2, e3]
  refine ckI (by simp; omega) ⟨_, rfl, wrapI (by omega) (by omega) (ckI (by simp; omega) ⟨_, rfl, wrapI (by omega) (by omega) (wrapI (by omega) (by omega) (wrapI (by omega) (by omega) (ckI (by simp; omega) ⟨_, rfl, wrapI (by omega) (by omega) (wrapI (by omega) (by omega) (wrapI (by omega) (by omega) (ckI (by simp; omega) ⟨_, rfl, wrapI (by omega) (by omega) (wrapI (by omega) (by omega) (wrapI (by omega) (by omega) ?_))⟩)))⟩)))⟩)⟩
  have hz : ((bytM s 0 + 256 * bytM s (0 + 1) + 65536 * bytM s (0 + 2) + 16777216 * bytM s (0 + 3) : Nat) : Int) = (bytM s 0 : Int) + 256 * (bytM s 1 : Int) + 65536 * (bytM s 2 : Int) + 16777216 * (bytM s 3 : Int) := by
    rw [show 0 + 1 = 1 from rfl, show 0 + 2 = 2 from rfl, show 0 + 3 = 3 from rfl]
    omega
  rw [hz] at hq
  exact hq
theorem octets62_run (x : Nat) (hx : x < 4294967296) (Q : Out → List Blk → Gh → Prop) (hq : Q (.ret (.str ((leW x).map UInt8.ofNat))) [] {}) : ∃ hv hb, goal_62 hv hb x Q := by
  obtain ⟨hv, hb', e⟩ : ∃ hv hb, goal_62 hv hb x Q = _ := ⟨_, _, vc_62 x Q⟩
  refine ⟨hv, hb', e.mpr ?_⟩
  clear e
  refine ⟨_, rfl, exM x 256 (wrapU8 (by omega) (by omega) ⟨_, rfl, exT x 256 (by omega) (exM (x / 256) 256 (wrapU8 (by omega) (by omega) ⟨_, rfl, exT x 65536 (by omega) (exM (x / 65536) 256 (wrapU8 (by omega) (by omega) ⟨_, rfl, exT x 16777216 (by omega) (wrapU8 (by omega) (by omega) ⟨_, rfl, ?_⟩)⟩))⟩))⟩)⟩
  rw [toB_nat, toB_nat, toB_nat, toB_nat]
  rw [leW, show x / 16777216 % 256 = x / 16777216 by omega] at hq
  exact hq
theorem turn_split (x : Nat) (hx : x < 4294967296) : ∀ k, k ≤ 32 → ∃ h l, x = h * 2 ^ (32 - k) + l ∧ l < 2 ^ (32 - k) ∧ h < 2 ^ k ∧ turnM k x = l * 2 ^ k + h
  | 0, _ => ⟨0, x, by omega, by rw [show 2 ^ (32 - 0) = 4294967296 from rfl]; omega, by decide, by rw [turnM]; omega⟩
  | k + 1, hk => by
    obtain ⟨h, l, e1, e2, e3, e4⟩ := turn_split x hx k (by omega)
    have hp : 2 ^ (32 - k) = 2 * 2 ^ (32 - (k + 1)) := by rw [show 32 - k = (32 - (k + 1)) + 1 by omega, Nat.pow_succ, Nat.mul_comm]
    have hr : 2 ^ (k + 1) = 2 * 2 ^ k := by rw [Nat.pow_succ, Nat.mul_comm]
    have hpr : 2 ^ (32 - (k + 1)) * 2 ^ (k + 1) = 4294967296 := by
      rw [← Nat.pow_add, show 32 - (k + 1) + (k + 1) = 32 by omega]
    rw [hp] at e1 e2
    rw [hr] at hpr ⊢
    obtain ⟨P, hP⟩ : ∃ P, 2 ^ (32 - (k + 1)) = P := ⟨_, rfl⟩
    obtain ⟨R, hR⟩ : ∃ R, 2 ^ k = R := ⟨_, rfl⟩
    rw [hP] at e1 e2 hpr ⊢
    rw [hR] at e3 e4 hpr ⊢
    have f1 : h * (2 * P) = 2 * (h * P) := Nat.mul_left_comm h 2 P
    have f2 : P * (2 * R) = 2 * (P * R) := Nat.mul_left_comm P 2 R
    by_cases hl : l < P
    · have b1 : (l + 1) * (2 * R) ≤ P * (2 * R) := Nat.mul_le_mul_right _ hl
      have b2 : (l + 1) * (2 * R) = l * (2 * R) + 2 * R := Nat.succ_mul l (2 * R)
      have b3 : l * (2 * R) = 2 * (l * R) := Nat.mul_left_comm l 2 R
      have b4 : 2 * h * P = 2 * (h * P) := Nat.mul_assoc 2 h P
      refine ⟨2 * h, l, by omega, hl, by omega, ?_⟩
      rw [turnM, e4, if_neg (by omega)]
      omega
    · obtain ⟨m, rfl⟩ : ∃ m, l = P + m := ⟨l - P, by omega⟩
      have b3 : (P + m) * R = P * R + m * R := Nat.add_mul P m R
      have b4 : (2 * h + 1) * P = 2 * (h * P) + P := by rw [Nat.succ_mul, Nat.mul_assoc]
      have b5 : m * (2 * R) = 2 * (m * R) := Nat.mul_left_comm m 2 R
      refine ⟨2 * h + 1, m, by omega, by omega, by omega, ?_⟩
      rw [turnM, e4, if_pos (by omega)]
      omega
theorem turn_rot {x k : Nat} (hx : x < 4294967296) (hk : k ≤ 32) : turnM k x = rotW k x := by
  obtain ⟨h, l, e1, e2, e3, e4⟩ := turn_split x hx k hk
  have hpr : 2 ^ (32 - k) * 2 ^ k = 4294967296 := by
    rw [← Nat.pow_add, show 32 - k + k = 32 by omega]
  have hR : 2 ^ k ≤ 2 ^ 32 := Nat.pow_le_pow_right (by decide) hk
  rw [show (2 : Nat) ^ 32 = 4294967296 from rfl] at hR
  have hm : l * 2 ^ k % 2 ^ k = 0 := Nat.mul_mod_left _ _
  obtain ⟨P, hP⟩ : ∃ P, 2 ^ (32 - k) = P := ⟨_, rfl⟩
  rw [hP] at e1 e2 hpr
  have hd : x / P = h := by
    rw [e1, Nat.mul_comm, Nat.mul_add_div (by omega), Nat.div_eq_of_lt e2, Nat.add_zero]
  have hmul : x * 2 ^ k = 4294967296 * h + l * 2 ^ k := by
    rw [e1, Nat.add_mul, Nat.mul_assoc, hpr, Nat.mul_comm]
  have hlt : l * 2 ^ k < 4294967296 := by
    have b1 : (l + 1) * 2 ^ k ≤ P * 2 ^ k := Nat.mul_le_mul_right _ e2
    have b2 : (l + 1) * 2 ^ k = l * 2 ^ k + 2 ^ k := Nat.succ_mul _ _
    have := Nat.pow_pos (n := k) (show 0 < 2 by decide)
    omega
  have hmm : x * 2 ^ k % 4294967296 = l * 2 ^ k := by rw [hmul, Nat.mul_add_mod, Nat.mod_eq_of_lt hlt]
  rw [rotW, hP, hd, hmm, Nat.mod_eq_of_lt (show h < 4294967296 by omega), Nat.or_comm, or_lo k e3 hm, e4, Nat.add_comm]
/-! ## contracts -/
def cTurn : Con
  | [.int .i64 x, .int .i64 k], H, K => ∃ a b : Nat, Lf (x = (a : Int) ∧ k = (b : Int) ∧ a < 4294967296 ∧ b ≤ 32) ∧ ∀ r : Nat, Lf (r = rotW b a) → K (.ret (.int .i64 (r : Nat))) H
  | _, _, _ => False
theorem turn_ok : ValidF Try.prog gl0 76 cTurn := by
  refine valid_flat (enters_of (by kernel_rfl)) gl0_noY fun args H Q hc => ?_
  unfold cTurn at hc
  split at hc
  · obtain ⟨a, b, ⟨rfl, rfl, h1, h2⟩, hq⟩ := hc
    obtain ⟨hv, hb', h⟩ := turn_run a b h1 (by omega) (Q := fun o H' _ => H' = [] ∧ (∃ v, o = .ret v ∧ old 0 v = true ∧ noY v = true) ∧ Q o H) ⟨rfl, ⟨_, rfl, rfl, rfl⟩, hq _ ⟨turn_rot h1 h2⟩⟩
    exact ⟨rfl, rfl, _, 1000, envFor04 sm0_ok _ _ _, rfl, h⟩
  · exact hc.elim
def cXor : Con
  | [.int .i64 x, .int .i64 y], H, K => ∃ a b : Nat, Lf (x = (a : Int) ∧ y = (b : Int) ∧ a < 4294967296 ∧ b < 4294967296) ∧ ∀ r : Nat, Lf (r = xorW a b) → K (.ret (.int .i64 (r : Nat))) H
  | _, _, _ => False
theorem xor_ok : ValidF Try.prog gl0 77 cXor := by
  refine valid_flat (enters_of (by kernel_rfl)) gl0_noY fun args H Q hc => ?_
  unfold cXor at hc
  split at hc
  · obtain ⟨a, b, ⟨rfl, rfl, h1, h2⟩, hq⟩ := hc
    obtain ⟨hv, hb', h⟩ := xor_run a b h1 h2 (Q := fun o H' _ => H' = [] ∧ (∃ v, o = .ret v ∧ old 0 v = true ∧ noY v = true) ∧ Q o H) ⟨rfl, ⟨_, rfl, rfl, rfl⟩, hq _ ⟨by rw [xorW, Nat.mod_eq_of_lt h1, Nat.mod_eq_of_lt h2]⟩⟩
    exact ⟨rfl, rfl, _, 1000, envFor04 sm0_ok _ _ _, rfl, h⟩
  · exact hc.elim
def cNum63 : Con
  | [.str s], H, K => Lf (s.length = 4) ∧ ∀ r : Nat, Lf (r = numM s 0) → K (.ret (.int .i64 (r : Nat))) H
  | _, _, _ => False
theorem num63_ok : ValidF Try.prog gl0 63 cNum63 := by
  refine valid_flat (enters_of (by kernel_rfl)) gl0_noY fun args H Q hc => ?_
  unfold cNum63 at hc
  split at hc
  · obtain ⟨⟨h1⟩, hq⟩ := hc
    obtain ⟨hv, hb', h⟩ := number63_run _ h1 (Q := fun o H' _ => H' = [] ∧ (∃ v, o = .ret v ∧ old 0 v = true ∧ noY v = true) ∧ Q o H) ⟨rfl, ⟨_, rfl, rfl, rfl⟩, hq _ ⟨rfl⟩⟩
    exact ⟨rfl, rfl, _, 1000, envFor04 sm0_ok _ _ _, rfl, h⟩
  · exact hc.elim
def cOct62 : Con
  | [.int .i64 x], H, K => ∃ a : Nat, Lf (x = (a : Int) ∧ a < 4294967296) ∧ ∀ r, Lf (r = (leW a).map UInt8.ofNat) → K (.ret (.str r)) H
  | _, _, _ => False
theorem oct62_ok : ValidF Try.prog gl0 62 cOct62 := by
  refine valid_flat (enters_of (by kernel_rfl)) gl0_noY fun args H Q hc => ?_
  unfold cOct62 at hc
  split at hc
  · obtain ⟨a, ⟨rfl, h1⟩, hq⟩ := hc
    obtain ⟨hv, hb', h⟩ := octets62_run a h1 (Q := fun o H' _ => H' = [] ∧ (∃ v, o = .ret v ∧ old 0 v = true ∧ noY v = true) ∧ Q o H) ⟨rfl, ⟨_, rfl, rfl, rfl⟩, hq _ ⟨rfl⟩⟩
    exact ⟨rfl, rfl, _, 1000, envFor04 sm0_ok _ _ _, rfl, h⟩
  · exact hc.elim
end Go.Proofs.Ytlfbaakndklncaa

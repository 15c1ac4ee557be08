/-
  Chapter 24: ControlAll: the numbers, the pairs, the numbers again.
-/
import Derived.Test.YtafchcmemeinlaaDoorC24I
set_option linter.unusedSimpArgs false
set_option linter.unusedVariables false
namespace Go.Proofs.YtafchcmemeinlaaDoor
open Go.RowKit
set_option maxRecDepth 1000000

/-! ## the numbers -/
def cells8M (ks : List Int) : List AV := ks.map (AV.int .u8)
def nextM (a k : Int) : Int := (a + 1 + k % 24) % 65536
def genM (a : Int) : List Int → List Int
  | [] => []
  | k :: ks => nextM a k :: genM (nextM a k) ks
def lM (f : Int) (ks : List Int) : List Int := f :: genM f ks
def atM (a : Int) : List Int → Int
  | [] => a
  | k :: ks => atM (nextM a k) ks
theorem genM_snoc (a k : Int) (ks : List Int) : genM a (ks ++ [k]) = genM a ks ++ [nextM (atM a ks) k] := by
  induction ks generalizing a with
  | nil => rfl
  | cons x ks ih => simp only [List.cons_append, genM, atM, ih]
theorem atM_snoc (a k : Int) (ks : List Int) : atM a (ks ++ [k]) = nextM (atM a ks) k := by
  induction ks generalizing a with
  | nil => rfl
  | cons x ks ih => simp only [List.cons_append, atM, ih]
theorem genM_len (a : Int) (ks : List Int) : (genM a ks).length = ks.length := by
  induction ks generalizing a with
  | nil => rfl
  | cons x ks ih => simp only [genM, List.length_cons, ih]
theorem lM_len (a : Int) (ks : List Int) : (lM a ks).length = ks.length + 1 := by simp [lM, genM_len]
theorem atM_rng (a : Int) (ks : List Int) (h : 0 ≤ a ∧ a ≤ 65535) : 0 ≤ atM a ks ∧ atM a ks ≤ 65535 := by
  induction ks generalizing a with
  | nil => exact h
  | cons x ks ih => exact ih _ (by unfold nextM; omega)
theorem genM_rng (a : Int) (ks : List Int) : ∀ x ∈ genM a ks, 0 ≤ x ∧ x ≤ 65535 := by
  induction ks generalizing a with
  | nil => simp [genM]
  | cons k ks ih =>
    intro x hx
    rcases List.mem_cons.1 hx with rfl | hx
    · unfold nextM; omega
    · exact ih _ x hx
theorem gen_nacks (f : Int) : ∀ (ks : List Int) (a far : Int), (a - f) % 65536 = far → far + 24 * ks.length ≤ 32767 → nackGoM f far (genM a ks) = true
  | [], _, _, _, _ => rfl
  | k :: ks, a, far, h1, h2 => by
    have h2' : far + 24 * ks.length + 24 ≤ 32767 := by simp only [List.length_cons] at h2; omega
    have e : (nextM a k - f) % 65536 = far + 1 + k % 24 := by unfold nextM; omega
    rw [genM, nackGoM, if_neg (by omega)]
    exact gen_nacks f ks _ _ rfl (by omega)
theorem nacks_lM {f : Int} {ks : List Int} (hf : 0 ≤ f ∧ f ≤ 65535) (hk : ks.length ≤ 63) : nacksM (lM f ks) = true := by
  have h1 : (lM f ks).any (badM 16) = false := by
    rw [List.any_eq_false]
    intro x hx
    have : 0 ≤ x ∧ x ≤ 65535 := by
      rcases List.mem_cons.1 hx with rfl | hx
      · exact hf
      · exact genM_rng _ _ _ hx
    intro hb
    have := (badM16 x).1 hb
    omega
  have h2 : nackGoM ((lM f ks).getD 0 0) (-1) (lM f ks) = true := by
    show nackGoM f (-1) (f :: genM f ks) = true
    rw [nackGoM, if_neg (by omega)]
    exact gen_nacks f ks f _ rfl (by omega)
  simp only [nacksM, h1, h2, lM_len, Bool.not_false, Bool.and_true, Bool.and_eq_true, decide_eq_true_eq]
  omega

/-! ## the pairs, read again -/
def bitsM (b m : Int) : Nat → List Int
  | 0 => []
  | k + 1 => bitsM b m k ++ if m / 2 ^ k % 2 = 1 then [(b + 1 + k) % 65536] else []
def decM (b m : Int) (k : Nat) : List Int := b :: bitsM b m k
def allM (ps : List (Int × Int)) : List Int := ps.flatMap fun p => decM p.1 p.2 16
theorem allM_snoc (ps : List (Int × Int)) (p : Int × Int) : allM (ps ++ [p]) = allM ps ++ decM p.1 p.2 16 := by simp [allM]
theorem bits_small {m : Int} {d : Nat} (h0 : 0 ≤ m) (h : m < 2 ^ d) (b : Int) : ∀ k : Nat, bitsM b m (d + k) = bitsM b m d
  | 0 => rfl
  | k + 1 => by
    rw [← Nat.add_assoc, bitsM, bits_small h0 h b k]
    have h2 : m / 2 ^ (d + k) = 0 := Int.ediv_eq_zero_of_lt h0 (by
      have : (2 : Int) ^ d ≤ 2 ^ (d + k) := by exact_mod_cast Nat.pow_le_pow_right (by omega) (by omega)
      omega)
    rw [h2]
    simp
theorem bits_add {m : Int} {d : Nat} (h0 : 0 ≤ m) (h : m < 2 ^ d) (b : Int) : ∀ k : Nat, k ≤ d → bitsM b (m + 2 ^ d) k = bitsM b m k
  | 0, _ => rfl
  | k + 1, hk => by
    rw [bitsM, bitsM, bits_add h0 h b k (by omega)]
    have e : (m + 2 ^ d) / 2 ^ k % 2 = m / 2 ^ k % 2 := by
      have e1 : (2 : Int) ^ d = 2 ^ k * (2 * 2 ^ (d - k - 1)) := by
        rw [← Int.mul_assoc, ← Int.pow_succ, ← Int.pow_add]; congr 1; omega
      have hp : (2 : Int) ^ k ≠ 0 := by
        have : 0 < (2 : Int) ^ k := Int.pow_pos (by omega)
        omega
      rw [e1, Int.add_mul_ediv_left _ _ hp]
      omega
    rw [e]
theorem or_add {m d : Nat} (h : m < 2 ^ d) : m ||| 2 ^ d = m + 2 ^ d := by
  have := Nat.two_pow_add_eq_or_of_lt h 1
  rw [Nat.mul_one] at this
  rw [Nat.or_comm, ← this, Nat.add_comm]

theorem all_go : ∀ (l : List Int) (b m far x0 : Int) (db : Nat), nackGoM x0 far l = true → (∀ n ∈ l, 0 ≤ n ∧ n ≤ 65535) → 0 ≤ b ∧ b ≤ 65535 → (b - x0) % 65536 + db = far → db ≤ 16 → 0 ≤ m → m < 2 ^ db → allM (pairsGo b m l) = decM b m 16 ++ l
  | [], b, m, _, _, _, _, _, _, _, _, _, _ => by simp [pairsGo, allM]
  | n :: l, b, m, far, x0, db, h, hl, hb, hd, hd2, hm, hm2 => by
    rw [nackGoM] at h
    split at h
    · cases h
    rename_i hc
    have hn := hl n (by simp)
    have hl' : ∀ n ∈ l, 0 ≤ n ∧ n ≤ 65535 := fun y hy => hl y (by simp [hy])
    have hx : (n - b) % 65536 = (n - x0) % 65536 - (b - x0) % 65536 := by omega
    rw [pairsGo]
    split
    · rename_i hgt
      have := all_go l n 0 _ x0 0 h hl' hn (by omega) (by omega) (by omega) (by simp)
      simp only [allM, List.flatMap_cons] at this ⊢
      rw [this]
      have e0 : decM n 0 16 = [n] := by
        have := bits_small (m := 0) (d := 0) (by omega) (by simp) n 16
        rw [Nat.zero_add] at this
        rw [decM, this]
        rfl
      rw [e0]
      simp
    · rename_i hle
      obtain ⟨d, hdd⟩ : ∃ d : Nat, (n - b) % 65536 - 1 = d := ⟨((n - b) % 65536 - 1).toNat, by omega⟩
      have hmd : m < 2 ^ d := by
        have : (2 : Int) ^ db ≤ 2 ^ d := by exact_mod_cast Nat.pow_le_pow_right (by omega) (by omega)
        omega
      have hp0 : 0 < (2 : Int) ^ d := Int.pow_pos (by omega)
      have em : (((m % 18446744073709551616).toNat ||| (2 ^ ((n - b) % 65536 - 1).toNat) : Nat) : Int) = m + 2 ^ d := by
        have hs : (2 : Int) ^ d ≤ 2 ^ 15 := by exact_mod_cast Nat.pow_le_pow_right (by omega) (by omega)
        obtain ⟨m, rfl⟩ : ∃ k : Nat, m = k := ⟨m.toNat, by omega⟩
        have hmn : m < 2 ^ d := by exact_mod_cast hmd
        have e1 : ((m : Int) % 18446744073709551616).toNat = m := by omega
        rw [hdd, Int.toNat_natCast, e1, or_add hmn]
        simp
      rw [em]
      have hps : (2 : Int) ^ (d + 1) = 2 ^ d * 2 := Int.pow_succ _ _
      have := all_go l b (m + 2 ^ d) _ x0 (d + 1) h hl' hb (by omega) (by omega) (by omega) (by omega)
      rw [this]
      have e2 : decM b (m + 2 ^ d) 16 = decM b m 16 ++ [n] := by
        have k1 := bits_small (m := m + 2 ^ d) (d := d + 1) (by omega) (by omega) b (15 - d)
        have k2 := bits_small hm hmd b (16 - d)
        rw [show d + 1 + (15 - d) = 16 by omega] at k1
        rw [show d + (16 - d) = 16 by omega] at k2
        rw [decM, decM, k1, k2, bitsM, bits_add hm hmd b d (Nat.le_refl _)]
        have hp : (2 : Int) ^ d ≠ 0 := by
          have : 0 < (2 : Int) ^ d := Int.pow_pos (by omega)
          omega
        have e3 : (m + 2 ^ d) / 2 ^ d % 2 = 1 := by
          have := Int.add_mul_ediv_left m 1 hp
          rw [Int.mul_one] at this
          rw [this, Int.ediv_eq_zero_of_lt hm hmd]
          rfl
        rw [e3, if_pos rfl, show (b + 1 + (d : Int)) % 65536 = n by omega]
        rfl
      rw [e2]
      simp
theorem all_pairs {xs : List Int} (h : nacksM xs = true) : allM (pairsM xs) = xs := by
  obtain ⟨h1, h2, h3, h4⟩ := nacks_parts h
  cases xs with
  | nil => rfl
  | cons x l =>
    have hr : ∀ n ∈ x :: l, 0 ≤ n ∧ n ≤ 65535 := fun n hn => by
      have := List.any_eq_false.1 h1 n hn
      have hb : ¬ (n < 0 ∨ 65536 ≤ n) := fun h => this ((badM16 n).2 h)
      omega
    simp only [List.getD_cons_zero] at h4
    rw [nackGoM] at h4
    split at h4
    · cases h4
    have := all_go l x 0 _ x 0 h4 (fun n hn => hr n (by simp [hn])) (hr x (by simp)) (by omega) (by omega) (by omega) (by simp)
    rw [pairsM, this]
    have e0 : decM x 0 16 = [x] := by
      have := bits_small (m := 0) (d := 0) (by omega) (by simp) x 16
      rw [Nat.zero_add] at this
      rw [decM, this]
      rfl
    rw [e0]
    rfl

def farP (ps : List (Int × Int)) : Prop := ∀ i, i < ps.length → (0 ≤ (ps.getD i (0, 0)).1 ∧ (ps.getD i (0, 0)).1 ≤ 65535) ∧ (0 ≤ (ps.getD i (0, 0)).2 ∧ (ps.getD i (0, 0)).2 ≤ 65535) ∧ (0 < i → 16 < ((ps.getD i (0, 0)).1 - (ps.getD (i - 1) (0, 0)).1) % 65536)
theorem go_head (l : List Int) (b m : Int) : ((pairsGo b m l).getD 0 (0, 0)).1 = b ∧ 1 ≤ (pairsGo b m l).length ∧ (pairsGo b m l).length ≤ l.length + 1 := by
  induction l generalizing b m with
  | nil => simp [pairsGo]
  | cons n l ih =>
    rw [pairsGo]
    split
    · have := ih n 0
      simp only [List.getD_cons_zero, List.length_cons, true_and]
      omega
    · have := ih b (((m % 18446744073709551616).toNat ||| (2 ^ ((n - b) % 65536 - 1).toNat) : Nat) : Int)
      simp only [List.length_cons]
      exact ⟨this.1, this.2.1, by omega⟩
theorem far_go : ∀ (l : List Int) (b m : Int), (∀ n ∈ l, 0 ≤ n ∧ n ≤ 65535) → (0 ≤ b ∧ b ≤ 65535) → (0 ≤ m ∧ m ≤ 65535) → farP (pairsGo b m l)
  | [], b, m, _, hb, hm => by
    intro i hi
    have : i = 0 := by simpa [pairsGo] using hi
    subst this
    exact ⟨hb, hm, fun h => by omega⟩
  | n :: l, b, m, hl, hb, hm => by
    have hn := hl n (by simp)
    have hl' : ∀ n ∈ l, 0 ≤ n ∧ n ≤ 65535 := fun y hy => hl y (by simp [hy])
    rw [pairsGo]
    split
    · rename_i hgt
      have ih := far_go l n 0 hl' hn (by omega)
      have hh := go_head l n 0
      intro i hi
      cases i with
      | zero => exact ⟨hb, hm, fun h => by omega⟩
      | succ j =>
        have := ih j (by simpa using hi)
        simp only [List.getD_cons_succ, Nat.add_sub_cancel]
        refine ⟨this.1, this.2.1, fun _ => ?_⟩
        cases j with
        | zero => rw [hh.1]; exact hgt
        | succ j => exact this.2.2 (by omega)
    · refine far_go l b _ hl' hb ⟨by omega, ?_⟩
      have e1 : (2 : Nat) ^ ((n - b) % 65536 - 1).toNat < 2 ^ 16 := Nat.pow_lt_pow_right (by omega) (by omega)
      have e4 : (m % 18446744073709551616).toNat ||| 2 ^ ((n - b) % 65536 - 1).toNat < 2 ^ 16 := Nat.or_lt_two_pow (by omega) e1
      omega
theorem far_pairs {xs : List Int} (h : nacksM xs = true) : farP (pairsM xs) ∧ 1 ≤ (pairsM xs).length ∧ (pairsM xs).length ≤ xs.length := by
  obtain ⟨h1, h2, h3, h4⟩ := nacks_parts h
  cases xs with
  | nil => simp at h2
  | cons x l =>
    have hr : ∀ n ∈ x :: l, 0 ≤ n ∧ n ≤ 65535 := fun n hn => by
      have := List.any_eq_false.1 h1 n hn
      have hb : ¬ (n < 0 ∨ 65536 ≤ n) := fun h => this ((badM16 n).2 h)
      omega
    have hh := go_head l x 0
    exact ⟨far_go l x 0 (fun n hn => hr n (by simp [hn])) (hr x (by simp)) (by omega), hh.2.1, hh.2.2⟩
end Go.Proofs.YtafchcmemeinlaaDoor

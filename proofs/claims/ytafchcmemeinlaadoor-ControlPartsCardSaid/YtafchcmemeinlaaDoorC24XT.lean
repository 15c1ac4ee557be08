/-
  Chapter 24: what was written is read back: the plain part.
-/
import Derived.Test.YtafchcmemeinlaaDoorC24XS
set_option linter.unusedSimpArgs false
set_option linter.unusedVariables false
namespace Go.Proofs.YtafchcmemeinlaaDoor
open Go.RowKit
set_option maxRecDepth 1000000

def decM (b m : Int) (k : Nat) : List Int := b :: mbM b m k
def allM (ps : List (Int × Int)) : List Int := ps.flatMap fun p => decM p.1 p.2 16
theorem bits_small {m : Int} {d : Nat} (h0 : 0 ≤ m) (h : m < 2 ^ d) (b : Int) : ∀ k : Nat, mbM b m (d + k) = mbM b m d
 | 0 => rfl
 | k + 1 => by
  rw [← Nat.add_assoc, mbM, bits_small h0 h b k]
  have h2 : m / 2 ^ (d + k) = 0 := Int.ediv_eq_zero_of_lt h0 (by
   have : (2 : Int) ^ d ≤ 2 ^ (d + k) := by exact_mod_cast Nat.pow_le_pow_right (by omega) (by omega)
   omega)
  rw [h2]
  simp
theorem bits_add {m : Int} {d : Nat} (h0 : 0 ≤ m) (h : m < 2 ^ d) (b : Int) : ∀ k : Nat, k ≤ d → mbM b (m + 2 ^ d) k = mbM b m k
 | 0, _ => rfl
 | k + 1, hk => by
  rw [mbM, mbM, bits_add h0 h b k (by omega)]
  have e : (m + 2 ^ d) / 2 ^ k % 2 = m / 2 ^ k % 2 := by
   have e1 : (2 : Int) ^ d = 2 ^ k * (2 * 2 ^ (d - k - 1)) := by
    rw [← Int.mul_assoc, ← Int.pow_succ, ← Int.pow_add]; congr 1; omega
   have hp : (2 : Int) ^ k ≠ 0 := by
    have : 0 < (2 : Int) ^ k := Int.pow_pos (by omega)
    omega
   rw [e1, Int.add_mul_ediv_left _ _ hp]
   omega
  rw [e]
theorem or_add {m d : Nat} (h : m < 2 ^ d) : m ||| 2 ^ d = m + 2 ^ d := by
 have := Nat.two_pow_add_eq_or_of_lt h 1
 rw [Nat.mul_one] at this
 rw [Nat.or_comm, ← this, Nat.add_comm]

theorem all_go : ∀ (l : List Int) (b m far x0 : Int) (db : Nat), nackGoM x0 far l = true → (∀ n ∈ l, 0 ≤ n ∧ n ≤ 65535) → 0 ≤ b ∧ b ≤ 65535 → (b - x0) % 65536 + db = far → db ≤ 16 → 0 ≤ m → m < 2 ^ db → allM (pairsGo b m l) = decM b m 16 ++ l
 | [], b, m, _, _, _, _, _, _, _, _, _, _ => by simp [pairsGo, allM]
 | n :: l, b, m, far, x0, db, h, hl, hb, hd, hd2, hm, hm2 => by
  rw [nackGoM] at h
  split at h
  ·cases h
  rename_i hc
  have hn := hl n (by simp)
  have hl' : ∀ n ∈ l, 0 ≤ n ∧ n ≤ 65535 := fun y hy => hl y (by simp [hy])
  have hx : (n - b) % 65536 = (n - x0) % 65536 - (b - x0) % 65536 := by omega
  rw [pairsGo]
  split
  ·rename_i hgt
   have := all_go l n 0 _ x0 0 h hl' hn (by omega) (by omega) (by omega) (by simp)
   simp only [allM, List.flatMap_cons] at this ⊢
   rw [this]
   have e0 : decM n 0 16 = [n] := by
    have := bits_small (m := 0) (d := 0) (by omega) (by simp) n 16
    rw [Nat.zero_add] at this
    rw [decM, this]
    rfl
   rw [e0]
   simp
  ·rename_i hle
   obtain ⟨d, hdd⟩ : ∃ d : Nat, (n - b) % 65536 - 1 = d := ⟨((n - b) % 65536 - 1).toNat, by omega⟩
   have hmd : m < 2 ^ d := by
    have : (2 : Int) ^ db ≤ 2 ^ d := by exact_mod_cast Nat.pow_le_pow_right (by omega) (by omega)
    omega
   have hp0 : 0 < (2 : Int) ^ d := Int.pow_pos (by omega)
   have em : (((m % 18446744073709551616).toNat ||| (2 ^ ((n - b) % 65536 - 1).toNat) : Nat) : Int) = m + 2 ^ d := by
    have hs : (2 : Int) ^ d ≤ 2 ^ 15 := by exact_mod_cast Nat.pow_le_pow_right (by omega) (by omega)
    obtain ⟨m, rfl⟩ : ∃ k : Nat, m = k := ⟨m.toNat, by omega⟩
    have hmn : m < 2 ^ d := by exact_mod_cast hmd
    have e1 : ((m : Int) % 18446744073709551616).toNat = m := by omega
    rw [hdd, Int.toNat_natCast, e1, or_add hmn]
    simp
   rw [em]
   have hps : (2 : Int) ^ (d + 1) = 2 ^ d * 2 := Int.pow_succ _ _
   have := all_go l b (m + 2 ^ d) _ x0 (d + 1) h hl' hb (by omega) (by omega) (by omega) (by omega)
   rw [this]
   have e2 : decM b (m + 2 ^ d) 16 = decM b m 16 ++ [n] := by
    have k1 := bits_small (m := m + 2 ^ d) (d := d + 1) (by omega) (by omega) b (15 - d)
    have k2 := bits_small hm hmd b (16 - d)
    rw [show d + 1 + (15 - d) = 16 by omega] at k1
    rw [show d + (16 - d) = 16 by omega] at k2
    rw [decM, decM, k1, k2, mbM, bits_add hm hmd b d (Nat.le_refl _)]
    have hp : (2 : Int) ^ d ≠ 0 := by
     have : 0 < (2 : Int) ^ d := Int.pow_pos (by omega)
     omega
    have e3 : (m + 2 ^ d) / 2 ^ d % 2 = 1 := by
     have := Int.add_mul_ediv_left m 1 hp
     rw [Int.mul_one] at this
     rw [this, Int.ediv_eq_zero_of_lt hm hmd]
     rfl
    rw [e3, if_pos rfl, show (b + 1 + (d : Int)) % 65536 = n by omega]
    rfl
   rw [e2]
   simp
theorem all_pairs {xs : List Int} (h : nacksM xs = true) : allM (pairsM xs) = xs := by
 obtain ⟨h1, h2, h3, h4⟩ := nacks_parts h
 cases xs with
 | nil => rfl
 | cons x l =>
  have hr : ∀ n ∈ x :: l, 0 ≤ n ∧ n ≤ 65535 := fun n hn => by
   have := List.any_eq_false.1 h1 n hn
   have hb : ¬ (n < 0 ∨ 65536 ≤ n) := fun h => this ((badM16 n).2 h)
   omega
  simp only [List.getD_cons_zero] at h4
  rw [nackGoM] at h4
  split at h4
  ·cases h4
  have := all_go l x 0 _ x 0 h4 (fun n hn => hr n (by simp [hn])) (hr x (by simp)) (by omega) (by omega) (by omega) (by simp)
  rw [pairsM, this]
  have e0 : decM x 0 16 = [x] := by
   have := bits_small (m := 0) (d := 0) (by omega) (by simp) x 16
   rw [Nat.zero_add] at this
   rw [decM, this]
   rfl
  rw [e0]
  rfl

theorem be_num1 (n : Int) : numM (beM n 1) = n % 256 := by
 simp only [beM, numM, octM, List.foldl_cons, List.foldl_nil, UInt8.toNat_ofNat', Int.reducePow]
 omega
theorem be_num2 (n : Int) : numM (beM n 2) = n % 65536 := by
 simp only [beM, numM, octM, List.foldl_cons, List.foldl_nil, UInt8.toNat_ofNat', Int.reducePow]
 omega
theorem be_num3 (n : Int) : numM (beM n 3) = n % 16777216 := by
 simp only [beM, numM, octM, List.foldl_cons, List.foldl_nil, UInt8.toNat_ofNat', Int.reducePow]
 omega
theorem be_num4 (n : Int) : numM (beM n 4) = n % 4294967296 := by
 simp only [beM, numM, octM, List.foldl_cons, List.foldl_nil, UInt8.toNat_ofNat', Int.reducePow]
 omega
theorem tk_be (k : Nat) (n : Int) (l : List UInt8) (b : Bool) : tkM k (beM n k ++ l) b = (numM (beM n k), l, b) := by
 have h := be_len n k
 rw [tkM, if_neg (by rw [List.length_append]; omega), List.take_left' h, List.drop_left' h]
theorem tk1 {n : Int} (h : 0 ≤ n ∧ n < 256) (l : List UInt8) (b : Bool) : tkM 1 (beM n 1 ++ l) b = (n, l, b) := by rw [tk_be, be_num1, Int.emod_eq_of_lt h.1 h.2]
theorem tk2 {n : Int} (h : 0 ≤ n ∧ n < 65536) (l : List UInt8) (b : Bool) : tkM 2 (beM n 2 ++ l) b = (n, l, b) := by rw [tk_be, be_num2, Int.emod_eq_of_lt h.1 h.2]
theorem tk3 {n : Int} (h : 0 ≤ n ∧ n < 16777216) (l : List UInt8) (b : Bool) : tkM 3 (beM n 3 ++ l) b = (n, l, b) := by rw [tk_be, be_num3, Int.emod_eq_of_lt h.1 h.2]
theorem tk4 {n : Int} (h : 0 ≤ n ∧ n < 4294967296) (l : List UInt8) (b : Bool) : tkM 4 (beM n 4 ++ l) b = (n, l, b) := by rw [tk_be, be_num4, Int.emod_eq_of_lt h.1 h.2]
theorem rc_read {r : Rc} (h : rcOkM r = true) (l : List UInt8) (b : Bool) : rcRdM (rcBM r ++ l) b = (r, l, b) := by
 obtain ⟨x1, x2, x3, x4, x5, x6, x7⟩ := r
 simp only [rcOkM, decide_eq_true_eq] at h
 obtain ⟨h1, h2, h3, h4, h5, h6, h7⟩ := h
 simp only [rcBM, putM, List.append_nil, List.append_assoc]
 rw [rcRdM]
 simp only [tk4 h1, tk1 h2, tk_be 3, tk4 h4, tk4 h5, tk4 h6, tk4 h7, be_num3]
 have e : (if 8388608 ≤ x3 % 16777216 then x3 % 16777216 - 16777216 else x3 % 16777216) = x3 := by split <;> omega
 rw [e]
theorem rcs_read : ∀ {rs : List Rc}, rs.all rcOkM = true → ∀ (l : List UInt8) (b : Bool), rcsRdM rs.length (rcsBM rs ++ l) b = (rs, l, b)
 | [], _, l, b => rfl
 | r :: rs, h, l, b => by
  rw [List.all_cons, Bool.and_eq_true] at h
  have e : rcsBM (r :: rs) = rcBM r ++ rcsBM rs := rfl
  rw [e, List.append_assoc, List.length_cons, rcsRdM, rc_read h.1, rcs_read h.2]
theorem pad_id {b : List UInt8} (h : b.length % 4 = 0) : padM b = b := by
 rw [padM, h]; simp
theorem nk_read : ∀ (ps : List (Int × Int)) (f : Nat), (∀ p ∈ ps, (0 ≤ p.1 ∧ p.1 < 65536) ∧ 0 ≤ p.2 ∧ p.2 < 65536) → 4 * ps.length ≤ f → nkRdM f (prsBM ps) false = (allM ps, [], false)
 | [], f, _, _ => by cases f <;> rfl
 | p :: ps, f, h, hf => by
  obtain ⟨f, rfl⟩ : ∃ g, f = g + 1 := ⟨f - 1, by rw [List.length_cons] at hf; omega⟩
  have hp := h p (by simp)
  have e : prsBM (p :: ps) = beM p.1 2 ++ (beM p.2 2 ++ prsBM ps) := by
   simp only [prsBM, List.flatMap_cons, putM, List.append_nil, List.append_assoc]
  have el : (prsBM (p :: ps)).length > 0 := by rw [e, List.length_append, be_len]; omega
  rw [nkRdM, if_pos ⟨el, rfl⟩, e, tk2 hp.1]
  dsimp only
  rw [tk2 hp.2]
  dsimp only
  rw [nk_read ps f (fun q hq => h q (by simp [hq])) (by rw [List.length_cons] at hf; omega)]
  rfl

theorem mask_le : ∀ (l : List Int) (b m : Int), (∀ n ∈ l, 0 ≤ n ∧ n ≤ 65535) → (0 ≤ b ∧ b ≤ 65535) → (0 ≤ m ∧ m ≤ 65535) → ∀ p ∈ pairsGo b m l, (0 ≤ p.1 ∧ p.1 < 65536) ∧ 0 ≤ p.2 ∧ p.2 < 65536
 | [], b, m, _, hb, hm, p, hp => by
  simp only [pairsGo, List.mem_cons, List.not_mem_nil, or_false] at hp
  subst hp
  exact ⟨by dsimp only; omega, by dsimp only; omega⟩
 | n :: l, b, m, h, hb, hm, p, hp => by
  have hn := h n (by simp)
  have hl : ∀ n ∈ l, 0 ≤ n ∧ n ≤ 65535 := fun x hx => h x (by simp [hx])
  rw [pairsGo] at hp
  split at hp
  ·rw [List.mem_cons] at hp
   rcases hp with rfl | hp
   ·exact ⟨by dsimp only; omega, by dsimp only; omega⟩
   ·exact mask_le l n 0 hl hn ⟨by omega, by omega⟩ p hp
  ·refine mask_le l b _ hl hb ⟨by omega, ?_⟩ p hp
   have h1 : (m % 18446744073709551616).toNat < 2 ^ 16 := by omega
   have h2 : 2 ^ ((n - b) % 65536 - 1).toNat < 2 ^ 16 := Nat.pow_lt_pow_right (by decide) (by omega)
   have h3 := Nat.or_lt_two_pow h1 h2
   omega
theorem pairs_bd {lo : List Int} (h : nacksM lo = true) : ∀ p ∈ pairsM lo, (0 ≤ p.1 ∧ p.1 < 65536) ∧ 0 ≤ p.2 ∧ p.2 < 65536 := by
 simp only [nacksM, Bool.and_eq_true, decide_eq_true_eq, Bool.not_eq_true', List.any_eq_false] at h
 have hr : ∀ n ∈ lo, 0 ≤ n ∧ n ≤ 65535 := fun n hn => by
  have := h.1.2 n hn
  rw [badM16] at this
  omega
 cases lo with
 | nil => intro p hp; simp [pairsM] at hp
 | cons n l => exact mask_le l n 0 (fun x hx => hr x (by simp [hx])) (hr n (by simp)) ⟨by omega, by omega⟩
theorem prs_len (ps : List (Int × Int)) : (prsBM ps).length = 4 * ps.length := by
 induction ps with
 | nil => rfl
 | cons p ps ih =>
  have e : prsBM (p :: ps) = putM 2 [p.1, p.2] ++ prsBM ps := rfl
  rw [e, List.length_append, ih, put_len, List.length_cons, List.length_cons, List.length_cons, List.length_nil]; omega
theorem nacks_read {lo : List Int} (h : nacksM lo = true) : nkRdM (prsBM (pairsM lo)).length (prsBM (pairsM lo)) false = (lo, [], false) := by
 rw [nk_read _ _ (pairs_bd h) (by rw [prs_len]; exact Nat.le_refl _), all_pairs h]
theorem rd_200 {f s1 s2 s3 s4 s5 : Int} {rs : List Rc} (hf : in32 f) (h1 : in32 s1) (h2 : in32 s2) (h3 : in32 s3) (h4 : in32 s4) (h5 : in32 s5) (hr : rs.all rcOkM = true) :
  readM 200 (rs.length : Int) (padM (bodyM ⟨1, f, 0, s1, s2, s3, s4, s5, rs, [], 0, 0, []⟩)) = (⟨1, f, 0, s1, s2, s3, s4, s5, rs, [], 0, 0, []⟩, true) := by
 have e : bodyM ⟨1, f, 0, s1, s2, s3, s4, s5, rs, [], 0, 0, []⟩ = beM f 4 ++ (beM s1 4 ++ (beM s2 4 ++ (beM s3 4 ++ (beM s4 4 ++ (beM s5 4 ++ rcsBM rs))))) := by
  simp [bodyM, putM, pairsM, prsBM]
 rw [pad_id (by rw [e]; simp only [List.length_append, be_len, rcsB_len]; omega), e, readM, if_pos rfl, rd200M]
 have hh := rcs_read hr [] false
 rw [List.append_nil] at hh
 simp only [tk4 hf, tk4 h1, tk4 h2, tk4 h3, tk4 h4, tk4 h5, Int.toNat_natCast, hh]
 rfl
theorem rd_201 {f : Int} {rs : List Rc} (hf : in32 f) (hr : rs.all rcOkM = true) :
  readM 201 (rs.length : Int) (padM (bodyM ⟨2, f, 0, 0, 0, 0, 0, 0, rs, [], 0, 0, []⟩)) = (⟨2, f, 0, 0, 0, 0, 0, 0, rs, [], 0, 0, []⟩, true) := by
 have e : bodyM ⟨2, f, 0, 0, 0, 0, 0, 0, rs, [], 0, 0, []⟩ = beM f 4 ++ rcsBM rs := by
  simp [bodyM, putM, pairsM, prsBM]
 rw [pad_id (by rw [e]; simp only [List.length_append, be_len, rcsB_len]; omega), e, readM, if_neg (by decide), if_pos rfl, rd201M]
 have hh := rcs_read hr [] false
 rw [List.append_nil] at hh
 simp only [tk4 hf, Int.toNat_natCast, hh]
 rfl
theorem rd_203 {f : Int} (hf : in32 f) : readM 203 1 (padM (bodyM ⟨3, f, 0, 0, 0, 0, 0, 0, [], [], 0, 0, []⟩)) = (⟨3, f, 0, 0, 0, 0, 0, 0, [], [], 0, 0, []⟩, true) := by
 have e : bodyM ⟨3, f, 0, 0, 0, 0, 0, 0, [], [], 0, 0, []⟩ = beM f 4 ++ [] := by
  simp [bodyM, putM, pairsM, prsBM, rcsBM]
 rw [pad_id (by rw [e]; simp only [List.length_append, be_len]; rfl), e, readM, if_neg (by decide), if_neg (by decide), if_pos rfl, rd203M, tk4 hf]
 rfl
theorem rd_206 {f a : Int} (hf : in32 f) (ha : in32 a) : readM 206 1 (padM (bodyM ⟨5, f, a, 0, 0, 0, 0, 0, [], [], 0, 0, []⟩)) = (⟨5, f, a, 0, 0, 0, 0, 0, [], [], 0, 0, []⟩, true) := by
 have e : bodyM ⟨5, f, a, 0, 0, 0, 0, 0, [], [], 0, 0, []⟩ = beM f 4 ++ (beM a 4 ++ []) := by
  simp [bodyM, putM, pairsM, prsBM, rcsBM]
 rw [pad_id (by rw [e]; simp only [List.length_append, be_len]; rfl), e, readM, if_neg (by decide), if_neg (by decide), if_neg (by decide), if_pos rfl, rd206M, tk4 hf]
 dsimp only
 rw [tk4 ha]
 rfl
theorem rd_205 {f a : Int} {lo : List Int} (hf : in32 f) (ha : in32 a) (hl : nacksM lo = true) : readM 205 1 (padM (bodyM ⟨4, f, a, 0, 0, 0, 0, 0, [], lo, 0, 0, []⟩)) = (⟨4, f, a, 0, 0, 0, 0, 0, [], lo, 0, 0, []⟩, true) := by
 have e : bodyM ⟨4, f, a, 0, 0, 0, 0, 0, [], lo, 0, 0, []⟩ = beM f 4 ++ (beM a 4 ++ prsBM (pairsM lo)) := by
  simp [bodyM, putM, rcsBM]
 rw [pad_id (by rw [e]; simp only [List.length_append, be_len, prs_len]; omega), e, readM, if_neg (by decide), if_neg (by decide), if_neg (by decide), if_neg (by decide), if_pos ⟨rfl, rfl⟩, rdNM, tk4 hf]
 dsimp only
 rw [tk4 ha]
 dsimp only
 rw [nacks_read hl]
 rfl
end Go.Proofs.YtafchcmemeinlaaDoor

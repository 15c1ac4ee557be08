/-
  Chapter 18: the octets and the badge: plain law.
-/
import Derived.Test.YtifjpcdpmimccaaGreatDoorBmF
set_option linter.unusedSimpArgs false
set_option linter.unusedVariables false
set_option linter.unusedSectionVars false
namespace Go.Proofs.YtifjpcdpmimccaaGreatDoor
open Go.RowKit
set_option maxRecDepth 1000000

theorem fold_add (s : List UInt8) : ∀ a : Nat, s.foldl (fun r c => r * 256 + c.toNat) a = a * 256 ^ s.length + s.foldl (fun r c => r * 256 + c.toNat) 0 := by
  induction s with
  | nil => intro a; simp
  | cons c t ih =>
    intro a
    rw [List.foldl_cons, List.foldl_cons, ih, ih (0 * 256 + c.toNat), List.length_cons, Nat.pow_succ]
    rw [Nat.add_mul, Nat.mul_assoc, Nat.mul_comm 256, Nat.zero_mul, Nat.zero_add]
    omega
theorem natM_cons (c : UInt8) (t : List UInt8) : natM (c :: t) = c.toNat * 256 ^ t.length + natM t := by
  unfold natM
  rw [List.foldl_cons, fold_add]
  simp
theorem natM_lt : ∀ s : List UInt8, natM s < 256 ^ s.length
  | [] => by decide
  | c :: t => by
    have h1 := natM_lt t
    have h2 := c.toNat_lt
    rw [natM_cons, List.length_cons, Nat.pow_succ]
    have : c.toNat * 256 ^ t.length ≤ 255 * 256 ^ t.length := Nat.mul_le_mul_right _ (by omega)
    omega
theorem natM_be : ∀ (n v : Nat), natM (beBM n v) = v % 256 ^ n
  | 0, v => by rw [Nat.pow_zero, Nat.mod_one]; rfl
  | n + 1, v => by
    show natM (UInt8.ofNat (v / 256 ^ n % 256) :: beBM n v) = _
    rw [natM_cons, natM_be n v, be_len, Nat.pow_succ, Nat.mod_mul]
    have : (UInt8.ofNat (v / 256 ^ n % 256)).toNat = v / 256 ^ n % 256 := by
      rw [UInt8.toNat_ofNat']; omega
    rw [this, Nat.mul_comm, Nat.add_comm]
theorem be_natM : ∀ s : List UInt8, beBM s.length (natM s) = s
  | [] => rfl
  | c :: t => by
    have h1 := natM_lt t
    have h2 := c.toNat_lt
    have hp : 0 < 256 ^ t.length := Nat.pow_pos (by decide)
    show UInt8.ofNat (natM (c :: t) / 256 ^ t.length % 256) :: beBM t.length (natM (c :: t)) = c :: t
    have e1 : natM (c :: t) / 256 ^ t.length = c.toNat := by
      rw [natM_cons, Nat.add_comm, Nat.add_mul_div_right _ _ hp, Nat.div_eq_of_lt h1, Nat.zero_add]
    have e2 : ∀ n v w, beBM n (w * 256 ^ n + v) = beBM n v := by
      intro n
      induction n with
      | zero => intro v w; rfl
      | succ n ih =>
        intro v w
        show UInt8.ofNat ((w * 256 ^ (n + 1) + v) / 256 ^ n % 256) :: beBM n (w * 256 ^ (n + 1) + v) = UInt8.ofNat (v / 256 ^ n % 256) :: beBM n v
        have hq : w * 256 ^ (n + 1) = (w * 256) * 256 ^ n := by rw [Nat.pow_succ, Nat.mul_assoc, Nat.mul_comm 256]
        rw [hq, ih, Nat.add_comm (w * 256 * 256 ^ n), Nat.add_mul_div_right _ _ (Nat.pow_pos (by decide)), Nat.add_mul_mod_self_right]
    rw [e1, natM_cons, e2, be_natM t, Nat.mod_eq_of_lt (by omega), UInt8.ofNat_toNat]
theorem mid (a b c : List UInt8) : ((a ++ (b ++ c)).drop a.length).take b.length = b := by
  rw [List.drop_left, List.take_left]
end Go.Proofs.YtifjpcdpmimccaaGreatDoor

set_option linter.unusedSimpArgs false
set_option linter.unusedVariables false
set_option linter.unusedSectionVars false
namespace Go.Proofs.YtifjpcdpmimccaaGreatDoor
open Go.RowKit
set_option maxRecDepth 1000000

theorem midI {s a b c : List UInt8} {i l : Nat} (hs : s = a ++ (b ++ c)) (hi : a.length = i) (hl : b.length = l) : (s.drop i).take l = b := by
  subst hs; subst hi; subst hl; exact mid a b c
theorem beM_be (n : Nat) (v : Int) (h0 : 0 ≤ v) (h1 : v.toNat < 256 ^ n) : beM (beBM n v.toNat) = v := by
  rw [beM, natM_be, Nat.mod_eq_of_lt h1]; omega
theorem be_at {t : List UInt8} {l : Nat} (h : t.length = l) : beBM l (beM t).toNat = t := by
  subst h
  rw [beM, Int.toNat_natCast, be_natM]
theorem dec_oct {n k : List UInt8} {f u m : Int} (hr : rightBM n k f u m = true) : decBM (octBM n k f u m) = (n, k, f, u, m, 0) := by
  obtain ⟨h1, h2, h3, h4, h5, h6, h7⟩ := (right_iff n k f u m).1 hr
  have h8 := ((name_iff n).1 h1).2.1
  have hl := octB_len n k f u m
  have p48 : (256 : Nat) ^ 6 = 281474976710656 := by decide
  generalize hs : octBM n k f u m = s at hl ⊢
  have e0 : s = [] ++ ([UInt8.ofNat 102, UInt8.ofNat 100, UInt8.ofNat 1] ++ (beBM 6 m.toNat ++ (beBM 6 f.toNat ++ (beBM 6 u.toNat ++ (beBM 1 n.length ++ (n ++ k)))))) := by
    rw [← hs, octBM]; simp only [List.append_assoc, List.nil_append]
  have e1 : s = [UInt8.ofNat 102, UInt8.ofNat 100, UInt8.ofNat 1] ++ (beBM 6 m.toNat ++ (beBM 6 f.toNat ++ (beBM 6 u.toNat ++ (beBM 1 n.length ++ (n ++ k))))) := e0
  have e2 : s = ([UInt8.ofNat 102, UInt8.ofNat 100, UInt8.ofNat 1] ++ beBM 6 m.toNat) ++ (beBM 6 f.toNat ++ (beBM 6 u.toNat ++ (beBM 1 n.length ++ (n ++ k)))) := by rw [e1]; simp only [List.append_assoc]
  have e3 : s = (([UInt8.ofNat 102, UInt8.ofNat 100, UInt8.ofNat 1] ++ beBM 6 m.toNat) ++ beBM 6 f.toNat) ++ (beBM 6 u.toNat ++ (beBM 1 n.length ++ (n ++ k))) := by rw [e1]; simp only [List.append_assoc]
  have e4 : s = ((([UInt8.ofNat 102, UInt8.ofNat 100, UInt8.ofNat 1] ++ beBM 6 m.toNat) ++ beBM 6 f.toNat) ++ beBM 6 u.toNat) ++ (beBM 1 n.length ++ (n ++ k)) := by rw [e1]; simp only [List.append_assoc]
  have e5 : s = (((([UInt8.ofNat 102, UInt8.ofNat 100, UInt8.ofNat 1] ++ beBM 6 m.toNat) ++ beBM 6 f.toNat) ++ beBM 6 u.toNat) ++ beBM 1 n.length) ++ (n ++ k) := by rw [e1]; simp only [List.append_assoc]
  have e6 : s = ((((([UInt8.ofNat 102, UInt8.ofNat 100, UInt8.ofNat 1] ++ beBM 6 m.toNat) ++ beBM 6 f.toNat) ++ beBM 6 u.toNat) ++ beBM 1 n.length) ++ n) ++ (k ++ []) := by rw [e1]; simp only [List.append_assoc, List.append_nil]
  have d0 : s.take 3 = [102, 100, 1] := midI e0 rfl rfl
  have d1 : nuB s = m := by
    rw [nuB, midI (i := 3) e1 rfl (be_len 6 _), beM_be 6 m h6 (by omega)]
  have d2 : frB s = f := by
    rw [frB, midI (i := 9) e2 (by rw [List.length_append, be_len]; rfl) (be_len 6 _), beM_be 6 f h3 (by omega)]
  have d3 : unB s = u := by
    rw [unB, midI (i := 15) e3 (by rw [List.length_append, List.length_append, be_len, be_len]; rfl) (be_len 6 _), beM_be 6 u (by omega) (by omega)]
  have d4 : lenB s = (n.length : Int) := by
    rw [lenB, midI (i := 21) e4 (by rw [List.length_append, List.length_append, List.length_append, be_len, be_len, be_len]; rfl) (be_len 1 _)]
    have := beM_be 1 (n.length : Int) (by omega) (by rw [Int.toNat_natCast]; omega)
    rwa [Int.toNat_natCast] at this
  have d5 : nmB s = n := by
    rw [nmB, d4]
    exact midI e5 (by rw [List.length_append, List.length_append, List.length_append, List.length_append, be_len, be_len, be_len, be_len]; rfl) (by omega)
  have d6 : keB s = k := by
    rw [keB, d4]
    exact midI e6 (by rw [List.length_append, List.length_append, List.length_append, List.length_append, List.length_append, be_len, be_len, be_len, be_len, show [UInt8.ofNat 102, UInt8.ofNat 100, UInt8.ofNat 1].length = 3 from rfl]; omega) h2
  have ok : okB s := ⟨d0, by rw [d4]; omega, by rw [d5, d6, d2, d3, d1]; exact hr⟩
  rw [decBM, if_pos ok, d5, d6, d2, d3, d1]
theorem oct_dec {s : List UInt8} (ok : okB s) : octBM (nmB s) (keB s) (frB s) (unB s) (nuB s) = s := by
  obtain ⟨h0, h1, h2⟩ := ok
  have ln := be_nn ((s.drop 21).take 1)
  have l0 : 0 ≤ lenB s := ln
  have l1 : (nmB s).length = (lenB s).toNat := by rw [nmB, List.length_take, List.length_drop]; omega
  have e : [UInt8.ofNat 102, UInt8.ofNat 100, UInt8.ofNat 1] = s.take 3 := h0.symm
  have ek : (22 + lenB s).toNat = 22 + (lenB s).toNat := by omega
  have b1 : beBM 6 (nuB s).toNat = (s.drop 3).take 6 := be_at (by rw [List.length_take, List.length_drop]; omega)
  have b2 : beBM 6 (frB s).toNat = (s.drop 9).take 6 := be_at (by rw [List.length_take, List.length_drop]; omega)
  have b3 : beBM 6 (unB s).toNat = (s.drop 15).take 6 := be_at (by rw [List.length_take, List.length_drop]; omega)
  have b4 : beBM 1 (nmB s).length = (s.drop 21).take 1 := by rw [l1]; exact be_at (by rw [List.length_take, List.length_drop]; omega)
  rw [octBM, b1, b2, b3, b4, e, ← List.take_add, ← List.take_add, ← List.take_add, ← List.take_add, nmB, ← List.take_add, keB, ek, ← List.take_add, List.take_of_length_le (by omega)]
end Go.Proofs.YtifjpcdpmimccaaGreatDoor

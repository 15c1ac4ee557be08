/-
  Chapter 18: the octets and the badge: plain law.
-/
import Derived.Test.YtifjpcdpmimccaaGreatDoorBmF
set_option linter.unusedSimpArgs false
set_option linter.unusedVariables false
set_option linter.unusedSectionVars false
namespace Go.Proofs.YtifjpcdpmimccaaGreatDoor
open Go.RowKit
set_option maxRecDepth 1000000

theorem fold_add (s : List UInt8) : ∀ a : Nat, s.foldl (fun r c => r * 256 + c.toNat) a = a * 256 ^ s.length + s.foldl (fun r c => r * 256 + c.toNat) 0 := by
  induction s with
  | nil => intro a; simp
  | cons c t ih =>
    intro a
    rw [List.foldl_cons, List.foldl_cons, ih, ih (0 * 256 + c.toNat), List.length_cons, Nat.pow_succ]
    rw [Nat.add_mul, Nat.mul_assoc, Nat.mul_comm 256, Nat.zero_mul, Nat.zero_add]
    omega
theorem natM_cons (c : UInt8) (t : List UInt8) : natM (c :: t) = c.toNat * 256 ^ t.length + natM t := by
  unfold natM
  rw [List.foldl_cons, fold_add]
  simp
theorem natM_be : ∀ (n v : Nat), natM (beBM n v) = v % 256 ^ n
  | 0, v => by rw [Nat.pow_zero, Nat.mod_one]; rfl
  | n + 1, v => by
    show natM (UInt8.ofNat (v / 256 ^ n % 256) :: beBM n v) = _
    rw [natM_cons, natM_be n v, be_len, Nat.pow_succ, Nat.mod_mul]
    have : (UInt8.ofNat (v / 256 ^ n % 256)).toNat = v / 256 ^ n % 256 := by
      rw [UInt8.toNat_ofNat']; omega
    rw [this, Nat.mul_comm, Nat.add_comm]
theorem mid (a b c : List UInt8) : ((a ++ (b ++ c)).drop a.length).take b.length = b := by
  rw [List.drop_left, List.take_left]
end Go.Proofs.YtifjpcdpmimccaaGreatDoor

set_option linter.unusedSimpArgs false
set_option linter.unusedVariables false
set_option linter.unusedSectionVars false
namespace Go.Proofs.YtifjpcdpmimccaaGreatDoor
open Go.RowKit
set_option maxRecDepth 1000000

theorem midI {s a b c : List UInt8} {i l : Nat} (hs : s = a ++ (b ++ c)) (hi : a.length = i) (hl : b.length = l) : (s.drop i).take l = b := by
  subst hs; subst hi; subst hl; exact mid a b c
theorem beM_be (n : Nat) (v : Int) (h0 : 0 ≤ v) (h1 : v.toNat < 256 ^ n) : beM (beBM n v.toNat) = v := by
  rw [beM, natM_be, Nat.mod_eq_of_lt h1]; omega
theorem dec_oct {n k : List UInt8} {f u m : Int} (hr : rightBM n k f u m = true) : decBM (octBM n k f u m) = (n, k, f, u, m, 0) := by
  obtain ⟨h1, h2, h3, h4, h5, h6, h7⟩ := (right_iff n k f u m).1 hr
  have h8 := ((name_iff n).1 h1).2.1
  have hl := octB_len n k f u m
  have p48 : (256 : Nat) ^ 6 = 281474976710656 := by decide
  generalize hs : octBM n k f u m = s at hl ⊢
  have e0 : s = [] ++ ([UInt8.ofNat 102, UInt8.ofNat 100, UInt8.ofNat 1] ++ (beBM 6 m.toNat ++ (beBM 6 f.toNat ++ (beBM 6 u.toNat ++ (beBM 1 n.length ++ (n ++ k)))))) := by
    rw [← hs, octBM]; simp only [List.append_assoc, List.nil_append]
  have e1 : s = [UInt8.ofNat 102, UInt8.ofNat 100, UInt8.ofNat 1] ++ (beBM 6 m.toNat ++ (beBM 6 f.toNat ++ (beBM 6 u.toNat ++ (beBM 1 n.length ++ (n ++ k))))) := e0
  have e2 : s = ([UInt8.ofNat 102, UInt8.ofNat 100, UInt8.ofNat 1] ++ beBM 6 m.toNat) ++ (beBM 6 f.toNat ++ (beBM 6 u.toNat ++ (beBM 1 n.length ++ (n ++ k)))) := by rw [e1]; simp only [List.append_assoc]
  have e3 : s = (([UInt8.ofNat 102, UInt8.ofNat 100, UInt8.ofNat 1] ++ beBM 6 m.toNat) ++ beBM 6 f.toNat) ++ (beBM 6 u.toNat ++ (beBM 1 n.length ++ (n ++ k))) := by rw [e1]; simp only [List.append_assoc]
  have e4 : s = ((([UInt8.ofNat 102, UInt8.ofNat 100, UInt8.ofNat 1] ++ beBM 6 m.toNat) ++ beBM 6 f.toNat) ++ beBM 6 u.toNat) ++ (beBM 1 n.length ++ (n ++ k)) := by rw [e1]; simp only [List.append_assoc]
  have e5 : s = (((([UInt8.ofNat 102, UInt8.ofNat 100, UInt8.ofNat 1] ++ beBM 6 m.toNat) ++ beBM 6 f.toNat) ++ beBM 6 u.toNat) ++ beBM 1 n.length) ++ (n ++ k) := by rw [e1]; simp only [List.append_assoc]
  have e6 : s = ((((([UInt8.ofNat 102, UInt8.ofNat 100, UInt8.ofNat 1] ++ beBM 6 m.toNat) ++ beBM 6 f.toNat) ++ beBM 6 u.toNat) ++ beBM 1 n.length) ++ n) ++ (k ++ []) := by rw [e1]; simp only [List.append_assoc, List.append_nil]
  have d0 : s.take 3 = [102, 100, 1] := midI e0 rfl rfl
  have d1 : nuB s = m := by
    rw [nuB, midI (i := 3) e1 rfl (be_len 6 _), beM_be 6 m h6 (by omega)]
  have d2 : frB s = f := by
    rw [frB, midI (i := 9) e2 (by rw [List.length_append, be_len]; rfl) (be_len 6 _), beM_be 6 f h3 (by omega)]
  have d3 : unB s = u := by
    rw [unB, midI (i := 15) e3 (by rw [List.length_append, List.length_append, be_len, be_len]; rfl) (be_len 6 _), beM_be 6 u (by omega) (by omega)]
  have d4 : lenB s = (n.length : Int) := by
    rw [lenB, midI (i := 21) e4 (by rw [List.length_append, List.length_append, List.length_append, be_len, be_len, be_len]; rfl) (be_len 1 _)]
    have := beM_be 1 (n.length : Int) (by omega) (by rw [Int.toNat_natCast]; omega)
    rwa [Int.toNat_natCast] at this
  have d5 : nmB s = n := by
    rw [nmB, d4]
    exact midI e5 (by rw [List.length_append, List.length_append, List.length_append, List.length_append, be_len, be_len, be_len, be_len]; rfl) (by omega)
  have d6 : keB s = k := by
    rw [keB, d4]
    exact midI e6 (by rw [List.length_append, List.length_append, List.length_append, List.length_append, List.length_append, be_len, be_len, be_len, be_len, show [UInt8.ofNat 102, UInt8.ofNat 100, UInt8.ofNat 1].length = 3 from rfl]; omega) h2
  have ok : okB s := ⟨d0, by rw [d4]; omega, by rw [d5, d6, d2, d3, d1]; exact hr⟩
  rw [decBM, if_pos ok, d5, d6, d2, d3, d1]
end Go.Proofs.YtifjpcdpmimccaaGreatDoor

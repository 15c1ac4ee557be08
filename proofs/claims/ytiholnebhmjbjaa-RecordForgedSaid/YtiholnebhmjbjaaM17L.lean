/-
  Chapter 17: RecordBack.
-/
import Derived.Test.YtiholnebhmjbjaaM17K
set_option linter.unusedSimpArgs false
set_option linter.unusedVariables false
set_option linter.unusedSectionVars false
namespace Go.Proofs.Ytiholnebhmjbjaa
open Go.RowKit
set_option maxRecDepth 1000000

/-! ## what was encoded is read -/
theorem nat_cons (c : UInt8) (s : List UInt8) : natM (c :: s) = c.toNat * 256 ^ s.length + natM s := by
  have key : ∀ (s : List UInt8) (x : Nat), s.foldl (fun x c => x * 256 + c.toNat) x = x * 256 ^ s.length + natM s := by
    intro s
    induction s with
    | nil => intro x; simp [natM]
    | cons d s ih =>
      intro x
      have e : natM (d :: s) = d.toNat * 256 ^ s.length + natM s := by
        show s.foldl _ (0 * 256 + d.toNat) = _
        rw [ih, Nat.zero_mul, Nat.zero_add]
      rw [List.foldl_cons, ih, e, List.length_cons, Nat.pow_succ, Nat.add_mul, Nat.add_assoc, Nat.mul_assoc, Nat.mul_comm 256]
  show s.foldl _ (0 * 256 + c.toNat) = _
  rw [key, Nat.zero_mul, Nat.zero_add]
theorem nat_be : ∀ n v, natM (beBM n v) = v % 256 ^ n
  | 0, v => by simp [beBM, natM, Nat.mod_one]
  | n + 1, v => by
    have e1 : (UInt8.ofNat (v / 256 ^ n % 256)).toNat = v / 256 ^ n % 256 := by
      rw [UInt8.toNat_ofNat']
      exact Nat.mod_eq_of_lt (show _ < 256 from Nat.mod_lt _ (by decide))
    rw [beBM, nat_cons, nat_be n v, be_len, e1, show v % 256 ^ (n + 1) = v % 256 ^ n + 256 ^ n * (v / 256 ^ n % 256) from Nat.mod_pow_succ, Nat.add_comm, Nat.mul_comm]
theorem be_be {n : Nat} {v : Int} (h0 : 0 ≤ v) (h1 : v.toNat < 256 ^ n) : beM (beBM n v.toNat) = v := by
  rw [beM, nat_be, Nat.mod_eq_of_lt h1]
  omega
theorem rec_read {r : Rc} (h : rightRM r = true) (t : List UInt8) : headEM (recM r ++ t) = 0 ∧ firstRM (recM r ++ t) = r ∧ restRM (recM r ++ t) = t := by
  obtain ⟨a, b, c, s⟩ := r
  obtain ⟨h1, h2, h3, h4⟩ := (rightM_iff a b c s).1 h
  obtain ⟨B1, hB1⟩ : ∃ x, x = beBM 1 a.toNat := ⟨_, rfl⟩
  obtain ⟨B2, hB2⟩ : ∃ x, x = beBM 2 b.toNat := ⟨_, rfl⟩
  obtain ⟨B6, hB6⟩ : ∃ x, x = beBM 6 c.toNat := ⟨_, rfl⟩
  obtain ⟨BN, hBN⟩ : ∃ x, x = beBM 2 (Int.toNat (s.length : Int)) := ⟨_, rfl⟩
  have hu : recM (a, b, c, s) ++ t = B1 ++ (B2 ++ (B6 ++ (BN ++ (s ++ t)))) := by
    rw [hB1, hB2, hB6, hBN, recM, headM]
    simp only [List.append_assoc]
  have l1 : B1.length = 1 := by rw [hB1, be_len]
  have l2 : B2.length = 2 := by rw [hB2, be_len]
  have l6 : B6.length = 6 := by rw [hB6, be_len]
  have lN : BN.length = 2 := by rw [hBN, be_len]
  have v1 : beM B1 = a := by rw [hB1]; exact be_be h1.1 (by show _ < 256; omega)
  have v2 : beM B2 = b := by rw [hB2]; exact be_be h2.1 (by show _ < 65536; omega)
  have v6 : beM B6 = c := by rw [hB6]; exact be_be h3.1 (by show _ < 281474976710656; omega)
  have vN : beM BN = s.length := by rw [hBN]; exact be_be (by omega) (by show _ < 65536; omega)
  rw [hu]
  clear hu hB1 hB2 hB6 hBN
  obtain ⟨u, hu⟩ : ∃ u, u = B1 ++ (B2 ++ (B6 ++ (BN ++ (s ++ t)))) := ⟨_, rfl⟩
  have hul : u.length = 11 + s.length + t.length := by rw [hu]; simp only [List.length_append, l1, l2, l6, lN]; omega
  have t1 : u.take 1 = B1 := by rw [hu]; exact List.take_left' l1
  have d1 : u.drop 1 = B2 ++ (B6 ++ (BN ++ (s ++ t))) := by rw [hu]; exact List.drop_left' l1
  have d3 : u.drop (1 + 2) = B6 ++ (BN ++ (s ++ t)) := by rw [← List.drop_drop, d1]; exact List.drop_left' l2
  have d9 : u.drop (1 + 2 + 6) = BN ++ (s ++ t) := by rw [← List.drop_drop, d3]; exact List.drop_left' l6
  have d11 : u.drop (1 + 2 + 6 + 2) = s ++ t := by rw [← List.drop_drop, d9]; exact List.drop_left' lN
  rw [← hu]
  have hs : sizeRM u = s.length := by
    show beM ((u.drop (1 + 2 + 6)).take 2) = _
    rw [d9, List.take_left' lN, vN]
  refine ⟨?_, ?_, ?_⟩
  · rw [headEM, if_neg (by omega), if_neg (by omega), if_neg (by omega)]
  · show (beM (u.take 1), beM ((u.drop 1).take 2), beM ((u.drop (1 + 2)).take 6), (u.drop (1 + 2 + 6 + 2)).take (sizeRM u).toNat) = _
    rw [t1, d1, d3, d11, List.take_left' l2, List.take_left' l6, v1, v2, v6, hs, Int.toNat_natCast, List.take_left' rfl]
  · show u.drop (1 + 2 + 6 + 2 + (sizeRM u).toNat) = t
    rw [← List.drop_drop, d11, hs, Int.toNat_natCast]
    exact List.drop_left' rfl
theorem cellsR_inj : ∀ {l k : List Rc}, cellsRM l = cellsRM k → l = k
  | [], [], _ => rfl
  | [], r :: k, h => by simp [cellsRM, rcM] at h
  | r :: l, [], h => by simp [cellsRM, rcM] at h
  | (a, b, c, s) :: l, (a', b', c', s') :: k, h => by
    simp only [cellsRM, rcM, List.cons_append, List.nil_append, List.cons.injEq, AV.int.injEq, AV.str.injEq, true_and] at h
    obtain ⟨rfl, rfl, rfl, rfl, h⟩ := h
    rw [cellsR_inj h]
theorem cat_cons (r : Rc) (l : List Rc) : catM (r :: l) = recM r ++ catM l := rfl
theorem cont_cat : ∀ (l k : List Rc) (t : List UInt8), l.all rightRM = true → contM k (catM l ++ t) = contM (k ++ l) t
  | [], k, t, _ => by rw [List.append_nil]; rfl
  | r :: l, k, t, h => by
    rw [List.all_cons, Bool.and_eq_true] at h
    obtain ⟨h1, h2, h3⟩ := rec_read h.1 (catM l ++ t)
    have hne : recM r ++ (catM l ++ t) ≠ [] := fun h => by
      have := rec_len r
      have h4 := congrArg List.length h
      rw [List.length_append, List.length_nil] at h4
      omega
    rw [cat_cons, List.append_assoc, cont_step hne h1, h2, h3, cont_cat l _ t h.2, List.append_assoc]
    rfl
theorem dec_cat {l : List Rc} (hn : l ≠ []) (h : l.all rightRM = true) (hl : (catM l).length ≤ 1200) : decM (catM l) = (l, 0) := by
  have hne : catM l ≠ [] := by
    cases l with
    | nil => exact absurd rfl hn
    | cons r l =>
      intro h
      have h4 := congrArg List.length h
      rw [cat_cons, List.length_append, rec_len, List.length_nil] at h4
      omega
  have := cont_cat l [] [] h
  rw [List.append_nil] at this
  rw [dec_cont (by omega) hne, this, cont_end]
  rfl
end Go.Proofs.Ytiholnebhmjbjaa

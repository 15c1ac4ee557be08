/-
  Chapter 23: what is encoded is decoded as it was, and what is decoded was encoded so (no program here).
-/
import Derived.Test.YtbchmkhliehbfaaDoorM23DC
set_option linter.unusedSimpArgs false
set_option linter.unusedVariables false
namespace Go.Proofs.YtbchmkhliehbfaaDoor
open Go.RowKit
set_option maxRecDepth 1000000

/-! ## numbers -/
theorem num_cons (c : UInt8) (l : List UInt8) : numM (c :: l) = (c.toNat : Int) * 256 ^ l.length + numM l := by
  suffices ∀ n, ∀ l : List UInt8, l.length = n → numM (c :: l) = (c.toNat : Int) * 256 ^ l.length + numM l from this _ l rfl
  intro n
  induction n with
  | zero => intro l h; rw [List.length_eq_zero_iff.1 h]; simp [numM]
  | succ n ih =>
    intro l h
    have hne : l ≠ [] := by rintro rfl; simp at h
    have h1 : l.dropLast.length = n := by rw [List.length_dropLast]; omega
    have h2 := ih _ h1
    rw [← List.dropLast_concat_getLast hne, ← List.cons_append, num_app, h2, num_app, List.length_append, List.length_singleton, Int.pow_succ, Int.add_mul, Int.mul_assoc]
    omega
theorem num_inj : ∀ (a b : List UInt8), a.length = b.length → numM a = numM b → a = b
  | [], [], _, _ => rfl
  | [], _ :: _, h, _ => by simp at h
  | _ :: _, [], h, _ => by simp at h
  | c :: a, d :: b, h, e => by
    simp only [List.length_cons, Nat.add_right_cancel_iff] at h
    rw [num_cons, num_cons, h] at e
    have ha := num_lt a
    have hb := num_lt b
    rw [h] at ha
    have hP : (0 : Int) < 256 ^ b.length := Int.pow_pos (by omega)
    generalize (256 : Int) ^ b.length = P at *
    have hcd : (c.toNat : Int) = d.toNat := by
      have e1 : (numM a + P * (c.toNat : Int)) / P = c.toNat := by rw [Int.add_mul_ediv_left _ _ (by omega), Int.ediv_eq_zero_of_lt ha.1 ha.2]; omega
      have e2 : (numM b + P * (d.toNat : Int)) / P = d.toNat := by rw [Int.add_mul_ediv_left _ _ (by omega), Int.ediv_eq_zero_of_lt hb.1 hb.2]; omega
      rw [← e1, ← e2, Int.mul_comm P, Int.mul_comm P]
      congr 1
      omega
    rw [hcd] at e
    have hc : c = d := UInt8.toNat_inj.1 (by omega)
    rw [hc, num_inj a b h (by omega)]
theorem oct_val (m k : Nat) : ((octM (m : Int) k).toNat : Int) = ((m / 256 ^ k % 256 : Nat) : Int) := by
  have : ((m : Int) / 256 ^ k % 256).toNat = m / 256 ^ k % 256 := by
    rw [show ((m : Int) / 256 ^ k % 256) = ((m / 256 ^ k % 256 : Nat) : Int) by norm_cast]
    exact Int.toNat_natCast _
  rw [octM, this, UInt8.toNat_ofNat']
  have := Nat.mod_lt (m / 256 ^ k) (show 0 < 256 by omega)
  norm_cast
  omega
theorem num_be_mod (m : Nat) : ∀ k, numM (beM (m : Int) k) = ((m % 256 ^ k : Nat) : Int)
  | 0 => by simp [beM, numM, Nat.mod_one]
  | k + 1 => by
    rw [beM, num_cons, be_len, num_be_mod m k, oct_val, Nat.pow_succ, Nat.mod_mul]
    norm_cast
    rw [Nat.mul_comm]
    omega
theorem num_be {n : Int} {k : Nat} (h0 : 0 ≤ n) (h1 : n < 256 ^ k) : numM (beM n k) = n := by
  obtain ⟨m, rfl⟩ := Int.eq_ofNat_of_zero_le h0
  rw [num_be_mod, Nat.mod_eq_of_lt (by exact_mod_cast h1)]
theorem be_num (l : List UInt8) : beM (numM l) l.length = l :=
  num_inj _ _ (be_len _ _) (num_be (num_lt l).1 (num_lt l).2)
/-! ## taking -/
theorem take_app {a r : List UInt8} {k : Int} (h : a.length = k.toNat) (b : Bool) : takeNM (a ++ r) k = numM a ∧ takeLM (a ++ r) k = r ∧ takeSM b (a ++ r) k = b := by
  have h1 : ¬ ((a ++ r).length < k.toNat) := by rw [List.length_append]; omega
  refine ⟨?_, ?_, ?_⟩
  · rw [takeNM, if_neg h1, ← h, List.take_left]
  · rw [takeLM, if_neg h1, ← h, List.drop_left]
  · rw [takeSM, decide_eq_false h1, Bool.or_false]
theorem take_be {n : Int} {r : List UInt8} {k : Int} {j : Nat} (hj : j = k.toNat) (h0 : 0 ≤ n) (h1 : n < 256 ^ j) (b : Bool) : takeNM (beM n j ++ r) k = n ∧ takeLM (beM n j ++ r) k = r ∧ takeSM b (beM n j ++ r) k = b := by
  have := take_app (r := r) (k := k) (a := beM n j) (by rw [be_len, hj]) b
  rw [num_be h0 h1] at this
  exact this
theorem take_put {l : List UInt8} {k : Int} {j : Nat} (hj : j = k.toNat) (h : j ≤ l.length) (b : Bool) : l = beM (takeNM l k) j ++ takeLM l k ∧ takeSM b l k = b ∧ (takeLM l k).length = l.length - j := by
  subst hj
  have h1 : ¬ (l.length < k.toNat) := by omega
  have h2 : (l.take k.toNat).length = k.toNat := by rw [List.length_take]; omega
  refine ⟨?_, ?_, ?_⟩
  · rw [takeNM, if_neg h1, takeLM, if_neg h1]
    conv => lhs; rw [← List.take_append_drop k.toNat l, ← be_num (l.take k.toNat), h2]
  · rw [takeSM, decide_eq_false h1, Bool.or_false]
  · rw [takeLM, if_neg h1, List.length_drop]
theorem take_lack {l : List UInt8} {k : Int} (h : l.length < k.toNat) (b : Bool) : takeSM b l k = true ∧ takeLM l k = [] := by
  refine ⟨?_, ?_⟩
  · rw [takeSM, decide_eq_true h, Bool.or_true]
  · rw [takeLM, if_pos h]
theorem take_true (l : List UInt8) (k : Int) : takeSM true l k = true := by rw [takeSM, Bool.true_or]
theorem takeN_in (l : List UInt8) (k : Int) : 0 ≤ takeNM l k ∧ takeNM l k < 256 ^ k.toNat := by
  have := takeN_lt l k.toNat
  rwa [show takeNM l (k.toNat : Int) = takeNM l k by simp only [takeNM, Int.toNat_natCast]] at this
/-! ## the sources -/
theorem cs_put {l : List UInt8} {sh : Bool} : ∀ n, 4 * n ≤ l.length → lackM sh l n = sh ∧ l = putM 4 (csM l n) ++ leftM l n ∧ (leftM l n).length = l.length - 4 * n
  | 0, _ => by simp [lackM, csM, putM, leftM]
  | n + 1, h => by
    obtain ⟨h1, h2, h3⟩ := cs_put (l := l) (sh := sh) n (by omega)
    obtain ⟨k1, k2, k3⟩ := take_put (l := leftM l n) (k := 4) (j := 4) rfl (by omega) sh
    refine ⟨?_, ?_, ?_⟩
    · rw [lackM, h1, k2]
    · rw [csM, put_app, leftM, putM, putM, List.append_nil, List.append_assoc, ← k1]
      exact h2
    · rw [leftM, k3, h3]; omega
theorem cs_lack {l : List UInt8} {sh : Bool} : ∀ n, l.length < 4 * n → lackM sh l n = true
  | 0, h => by omega
  | n + 1, h => by
    rw [lackM]
    by_cases h1 : l.length < 4 * n
    · rw [cs_lack n h1, take_true]
    · obtain ⟨_, _, h3⟩ := cs_put (l := l) (sh := sh) n (by omega)
      exact (take_lack (by rw [h3, show Int.toNat 4 = 4 from rfl]; omega) _).1
theorem lack_true (l : List UInt8) : ∀ n, lackM true l n = true
  | 0 => rfl
  | n + 1 => by rw [lackM, lack_true l n, take_true]
theorem cs_in (l : List UInt8) : ∀ n, ∀ x ∈ csM l n, 0 ≤ x ∧ x < 4294967296
  | 0, x, hx => by simp [csM] at hx
  | n + 1, x, hx => by
    rw [csM, List.mem_append, List.mem_singleton] at hx
    rcases hx with hx | rfl
    · exact cs_in l n x hx
    · exact takeN_in _ 4
theorem cs_enc {rest : List UInt8} : ∀ (cs : List Int), (∀ x ∈ cs, 0 ≤ x ∧ x < 4294967296) → ∀ i, i ≤ cs.length → csM (putM 4 cs ++ rest) i = cs.take i ∧ leftM (putM 4 cs ++ rest) i = putM 4 (cs.drop i) ++ rest
  | cs, _, 0, _ => by simp [csM, leftM]
  | cs, hc, i + 1, h => by
    obtain ⟨h1, h2⟩ := cs_enc (rest := rest) cs hc i (by omega)
    have hi : i < cs.length := by omega
    rw [csM, leftM, h1, h2, List.drop_eq_getElem_cons hi, putM, List.append_assoc]
    have hr := hc cs[i] (List.getElem_mem hi)
    obtain ⟨k1, k2, _⟩ := take_be (n := cs[i]) (k := 4) (j := 4) (r := putM 4 (cs.drop (i + 1)) ++ rest) rfl hr.1 hr.2 false
    rw [k1, k2]
    refine ⟨?_, rfl⟩
    rw [List.take_add_one, List.getElem?_eq_getElem hi]
    rfl
/-! ## the extensions -/
theorem trim_zeros (k : Nat) : trimM (List.replicate k 0) = [] := by
  have h : ∀ k : Nat, (List.replicate k (0 : UInt8)).dropWhile (· == 0) = [] := fun k => by
    induction k with
    | zero => rfl
    | succ k ih => rw [List.replicate_succ, List.dropWhile_cons_of_pos (by rfl)]; exact ih
  rw [trimM, List.reverse_replicate, h]
  rfl
theorem drop_zero_of : ∀ l : List UInt8, l.dropWhile (· == 0) = [] → l = List.replicate l.length 0
  | [], _ => rfl
  | c :: l, h => by
    by_cases hc : c = 0
    · subst hc
      rw [List.dropWhile_cons_of_pos (by rfl)] at h
      rw [List.length_cons, List.replicate_succ, ← drop_zero_of l h]
    · rw [List.dropWhile_cons_of_neg (by simpa using hc)] at h
      cases h
theorem trim_nil {l : List UInt8} (h : trimM l = []) : l = List.replicate l.length 0 := by
  have h1 : l.reverse.dropWhile (· == 0) = [] := by
    rw [trimM] at h
    by_cases hn : l.reverse.dropWhile (· == 0) = []
    · exact hn
    · exfalso
      obtain ⟨c, r, hr⟩ : ∃ c r, l.reverse.dropWhile (· == 0) = c :: r := by
        cases hx : l.reverse.dropWhile (· == 0) with
        | nil => exact absurd hx hn
        | cons c r => exact ⟨c, r, rfl⟩
      have hc : ¬ (c == 0) = true := by
        have := List.head_dropWhile_not (· == (0 : UInt8)) (l := l.reverse) (by rw [hr]; simp)
        simpa [hr] using this
      rw [hr, List.reverse_cons] at h
      have h2 := drop_zero_of _ h
      have h3 : c ∈ List.replicate ((r.reverse ++ [c]).length) (0 : UInt8) := by rw [← h2]; simp
      rw [List.mem_replicate] at h3
      exact hc (by simp [h3.2])
  have h2 := drop_zero_of _ h1
  rw [List.length_reverse] at h2
  rw [← List.reverse_reverse l, h2, List.reverse_replicate, List.length_replicate]
theorem eqB_nil {l : List UInt8} : eqB l [] = true ↔ l = [] := by
  cases l <;> simp [eqB]
theorem oct_self (c : UInt8) : octM ((c.toNat : Nat) : Int) 0 = c := by
  have h := oct_val c.toNat 0
  have := c.toNat_lt
  rw [Nat.pow_zero, Nat.div_one, Nat.mod_eq_of_lt (by omega)] at h
  exact UInt8.toNat_inj.1 (by exact_mod_cast h)
theorem oct_nat {m : Nat} (h : m < 256) : (octM (m : Int) 0).toNat = m := by
  have h := oct_val m 0
  rw [Nat.pow_zero, Nat.div_one, Nat.mod_eq_of_lt (by omega)] at h
  exact_mod_cast h
theorem put1 (n : Int) : putM 1 [n] = [octM n 0] := rfl
theorem extGo_short {f : Nat} {last : Int} {n : Nat} {c : UInt8} {t : List UInt8} (z : c.toNat ≠ 0) : extGoM 48862 (f + 1) last n (c :: t) = if ((c.toNat / 16 : Nat) : Int) ≤ last ∨ t.length < c.toNat % 16 + 1 ∨ ((c.toNat / 16 : Nat) : Int) > 14 ∨ n = 16 then ([], true) else ((((c.toNat / 16 : Nat) : Int), t.take (c.toNat % 16 + 1)) :: (extGoM 48862 f ((c.toNat / 16 : Nat) : Int) (n + 1) (t.drop (c.toNat % 16 + 1))).1, (extGoM 48862 f ((c.toNat / 16 : Nat) : Int) (n + 1) (t.drop (c.toNat % 16 + 1))).2) := by
  rw [extGoM, if_neg (by omega), if_neg (by simp)]
  simp only [if_true, true_and]
theorem extGo_long {p : Int} (hp : p ≠ 48862) {f : Nat} {last : Int} {n : Nat} {c d : UInt8} {u : List UInt8} (z : c.toNat ≠ 0) : extGoM p (f + 1) last n (c :: d :: u) = if (c.toNat : Int) ≤ last ∨ u.length < d.toNat ∨ n = 16 then ([], true) else (((c.toNat : Int), u.take d.toNat) :: (extGoM p f (c.toNat : Int) (n + 1) (u.drop d.toNat)).1, (extGoM p f (c.toNat : Int) (n + 1) (u.drop d.toNat)).2) := by
  rw [extGoM, if_neg (by omega), if_neg (by simp)]
  simp only [hp, if_false, false_and, false_or, List.headD_cons, List.tail_cons]
theorem extGo_enc (sh : Bool) (k : Nat) (hk : k ≤ 3) : ∀ (l : List Xt) (last : Int) (n f : Nat), extsOkM last l = true → 0 ≤ last → n + l.length ≤ 16 → (sh = true → ∀ x ∈ l, x.1 ≤ 14 ∧ 1 ≤ x.2.length ∧ x.2.length ≤ 16) → (extBM sh l ++ List.replicate k 0).length ≤ f → extGoM (profM sh) f last n (extBM sh l ++ List.replicate k 0) = (l, false)
  | [], last, n, f, _, _, _, _, hf => by
    rw [extBM, List.nil_append] at *
    cases k with
    | zero => exact extGo_nil _ _ _ _
    | succ j =>
      obtain ⟨g, rfl⟩ : ∃ g, f = g + 1 := ⟨f - 1, by simp at hf; omega⟩
      have ht := trim_zeros (j + 1)
      rw [List.replicate_succ] at ht ⊢
      rw [extGoM, if_pos (by rfl), ht, decide_eq_false (by simp; omega)]
      rfl
  | x :: l, last, n, f, ho, hl, hn, hs, hf => by
    rw [extsOkM, Bool.and_eq_true, decide_eq_true_eq] at ho
    obtain ⟨⟨o1, o2, o3⟩, ho⟩ := ho
    simp only [List.length_cons] at hn
    obtain ⟨i, hi⟩ := Int.eq_ofNat_of_zero_le (show 0 ≤ x.1 by omega)
    cases sh with
    | true =>
      obtain ⟨q1, q2, q3⟩ := hs rfl x (by simp)
      have e : extBM true (x :: l) ++ List.replicate k 0 = octM ((i * 16 + (x.2.length - 1) : Nat) : Int) 0 :: (x.2 ++ (extBM true l ++ List.replicate k 0)) := by
        rw [extBM, if_pos rfl, put1, show x.1 * 16 + ((x.2.length : Int) - 1) = ((i * 16 + (x.2.length - 1) : Nat) : Int) by omega]
        simp
      rw [e] at hf ⊢
      obtain ⟨g, rfl⟩ : ∃ g, f = g + 1 := ⟨f - 1, by simp at hf; omega⟩
      have hc : (octM ((i * 16 + (x.2.length - 1) : Nat) : Int) 0).toNat = i * 16 + (x.2.length - 1) := oct_nat (by omega)
      rw [show profM true = 48862 from rfl, extGo_short (by rw [hc]; omega), hc, show (i * 16 + (x.2.length - 1)) / 16 = i by omega, show (i * 16 + (x.2.length - 1)) % 16 + 1 = x.2.length by omega, if_neg (by rw [List.length_append]; omega), List.take_left, List.drop_left, ← hi]
      have ih := extGo_enc true k hk l x.1 (n + 1) g ho (by omega) (by omega) (fun h y hy => hs h y (by simp [hy])) (by simp at hf ⊢; omega)
      rw [show profM true = 48862 from rfl] at ih
      rw [ih]
    | false =>
      have e : extBM false (x :: l) ++ List.replicate k 0 = octM ((i : Nat) : Int) 0 :: octM ((x.2.length : Nat) : Int) 0 :: (x.2 ++ (extBM false l ++ List.replicate k 0)) := by
        rw [extBM, if_neg (by simp), ← hi]
        simp [putM, beM]
      rw [e] at hf ⊢
      obtain ⟨g, rfl⟩ : ∃ g, f = g + 1 := ⟨f - 1, by simp at hf; omega⟩
      have hc : (octM ((i : Nat) : Int) 0).toNat = i := oct_nat (by omega)
      have hd : (octM ((x.2.length : Nat) : Int) 0).toNat = x.2.length := oct_nat (by omega)
      rw [extGo_long (by decide) (by rw [hc]; omega), hc, hd, if_neg (by rw [List.length_append]; omega), List.take_left, List.drop_left, ← hi]
      rw [extGo_enc false k hk l x.1 (n + 1) g ho (by omega) (by omega) (fun h y hy => hs h y (by simp [hy])) (by simp at hf ⊢; omega)]
theorem extGo_dec (p : Int) : ∀ (f : Nat) (last : Int) (n : Nat) (t : List UInt8) (l : List Xt), extGoM p f last n t = (l, false) → t.length ≤ f → 0 ≤ last → n ≤ 16 → ∃ k, k ≤ 3 ∧ t = extBM (decide (p = 48862)) l ++ List.replicate k 0 ∧ extsOkM last l = true ∧ n + l.length ≤ 16
  | f, last, n, [], l, h, _, _, hn => by
    rw [extGo_nil] at h
    simp only [Prod.mk.injEq, and_true] at h
    subst h
    exact ⟨0, by omega, rfl, rfl, hn⟩
  | 0, last, n, c :: s, l, h, hf, _, _ => by simp at hf
  | f + 1, last, n, c :: s, l, h, hf, hl, hn => by
    simp only [List.length_cons] at hf
    have hc := c.toNat_lt
    by_cases z : c.toNat = 0
    · rw [extGoM, if_pos (by omega)] at h
      simp only [Prod.mk.injEq, Bool.or_eq_false_iff, decide_eq_false_iff_not, Bool.not_eq_false'] at h
      obtain ⟨rfl, h1, h2⟩ := h
      exact ⟨(c :: s).length, by omega, trim_nil (eqB_nil.1 h2), rfl, by simpa using hn⟩
    by_cases hp : p = 48862
    · subst hp
      rw [extGo_short z] at h
      split at h
      · simp at h
      rename_i hg
      generalize hX : extGoM 48862 f ((c.toNat / 16 : Nat) : Int) (n + 1) (s.drop (c.toNat % 16 + 1)) = X at h
      obtain ⟨l', b'⟩ := X
      simp only [Prod.mk.injEq] at h
      obtain ⟨rfl, rfl⟩ := h
      obtain ⟨k, k1, k2, k3, k4⟩ := extGo_dec 48862 f ((c.toNat / 16 : Nat) : Int) (n + 1) (s.drop (c.toNat % 16 + 1)) l' hX (by rw [List.length_drop]; omega) (by omega) (by omega)
      refine ⟨k, k1, ?_, ?_, by rw [List.length_cons]; omega⟩
      · rw [decide_eq_true rfl] at k2 ⊢
        have hlen : (s.take (c.toNat % 16 + 1)).length = c.toNat % 16 + 1 := by rw [List.length_take]; omega
        rw [extBM, if_pos rfl, hlen, put1, show ((c.toNat / 16 : Nat) : Int) * 16 + (((c.toNat % 16 + 1 : Nat) : Int) - 1) = ((c.toNat : Nat) : Int) by omega, oct_self, List.append_assoc, ← k2, List.append_assoc, List.take_append_drop]
        rfl
      · rw [extsOkM, k3, Bool.and_true, decide_eq_true_eq, List.length_take]
        omega
    · cases s with
      | nil =>
        rw [extGoM, if_neg (by omega), if_pos ⟨hp, rfl⟩] at h
        simp at h
      | cons d u =>
        have hd := d.toNat_lt
        rw [extGo_long hp z] at h
        split at h
        · simp at h
        rename_i hg
        generalize hX : extGoM p f (c.toNat : Int) (n + 1) (u.drop d.toNat) = X at h
        obtain ⟨l', b'⟩ := X
        simp only [Prod.mk.injEq] at h
        obtain ⟨rfl, rfl⟩ := h
        simp only [List.length_cons] at hf
        obtain ⟨k, k1, k2, k3, k4⟩ := extGo_dec p f (c.toNat : Int) (n + 1) (u.drop d.toNat) l' hX (by rw [List.length_drop]; omega) (by omega) (by omega)
        refine ⟨k, k1, ?_, ?_, by rw [List.length_cons]; omega⟩
        · rw [decide_eq_false hp] at k2 ⊢
          have hlen : (u.take d.toNat).length = d.toNat := by rw [List.length_take]; omega
          rw [extBM, if_neg (by simp), hlen, List.append_assoc, ← k2, List.append_assoc, List.take_append_drop]
          simp only [putM, beM, List.append_nil, List.cons_append, List.nil_append, oct_self]
        · rw [extsOkM, k3, Bool.and_true, decide_eq_true_eq, List.length_take]
          omega
theorem exts_enc {ex : List Xt} (h0 : ex ≠ []) (ho : extsOkM 0 ex = true) (hn : ex.length ≤ 16) : extsM (profM (shortM ex)) (extPM ex) = (ex, false) := by
  have h := extGo_enc (shortM ex) ((4 - (extBM (shortM ex) ex).length % 4) % 4) (by omega) ex 0 0 (extPM ex).length ho (by omega) (by omega) (fun q x hx => short_at q x hx) (Nat.le_refl _)
  have h' : extGoM (profM (shortM ex)) (extPM ex).length 0 0 (extPM ex) = (ex, false) := h
  have he : ex.isEmpty = false := by cases ex with
    | nil => exact absurd rfl h0
    | cons a l => rfl
  rw [extsM, h', he]
  cases shortM ex <;> rfl
theorem exts_dec {p : Int} {t : List UInt8} {ex : List Xt} (h : extsM p t = (ex, false)) (h4 : t.length % 4 = 0) : ex ≠ [] ∧ extsOkM 0 ex = true ∧ ex.length ≤ 16 ∧ extPM ex = t ∧ p = profM (shortM ex) := by
  rw [extsM] at h
  generalize hX : extGoM p t.length 0 0 t = X at h
  obtain ⟨l, b⟩ := X
  simp only [Prod.mk.injEq, Bool.or_eq_false_iff, Bool.not_eq_false', Bool.or_eq_true, decide_eq_true_eq, bne_eq_false_iff_eq] at h
  obtain ⟨rfl, ⟨⟨rfl, hp⟩, he⟩, hs⟩ := h
  obtain ⟨k, k1, k2, k3, k4⟩ := extGo_dec p t.length 0 0 t l hX (Nat.le_refl _) (by omega) (by omega)
  rw [← hs] at k2
  refine ⟨by rintro rfl; simp at he, k3, by omega, ?_, ?_⟩
  · rw [extPM, zerosM]
    have hl := congrArg List.length k2
    rw [List.length_append, List.length_replicate] at hl
    rw [show (4 - (extBM (shortM l) l).length % 4) % 4 = k by omega]
    exact k2.symm
  · rw [hs]
    rcases hp with rfl | rfl <;> rfl
/-! ## the end -/
theorem pad_last (a : List UInt8) (c : UInt8) : padNM (a ++ [c]) = c.toNat := by
  have h : (a ++ [c]).length - 1 = a.length := by simp
  rw [padNM, if_neg (by simp), h]
  simp [List.getD]
theorem decT_enc {fl pad : Int} {y : List UInt8} (h64 : fl / 64 = 2) (hp : 0 ≤ pad ∧ pad ≤ 255) (h32 : fl / 32 % 2 = 1 ↔ 0 < pad) : decTM false false fl (y ++ padM pad) = (0, pad, y) := by
  obtain ⟨m, rfl⟩ := Int.eq_ofNat_of_zero_le hp.1
  by_cases h : 0 < (m : Int)
  · have e : y ++ padM m = (y ++ List.replicate (m - 1) 0) ++ [octM (m : Int) 0] := by
      rw [padM, if_pos h, put1, show Int.toNat ((m : Int) - 1) = m - 1 by omega, List.append_assoc]
    have hN : padNM (y ++ padM m) = m := by rw [e, pad_last, oct_nat (by omega)]
    have hL : (y ++ padM m).length = y.length + m := by rw [e]; simp; omega
    have hS : padSM (y ++ padM m) = List.replicate (m - 1) 0 := by
      rw [padSM, hN, hL, show y.length + m - m = y.length by omega, List.drop_left, padM, if_pos h, show Int.toNat ((m : Int) - 1) = m - 1 by omega]
      exact List.take_left' (by simp)
    rw [decTM, if_neg (by simp), if_pos (h32.2 h), hN, hS, hL, trim_zeros, if_neg (by simp [eqB]; omega), if_neg (by simp [h64]), show y.length + m - m = y.length by omega, List.take_left]
  · have : m = 0 := by omega
    subst this
    rw [decTM, if_neg (by simp), if_neg (by rw [h32]; omega), if_neg (by simp [h64])]
    simp [padM]
theorem decT_dec {sh bad : Bool} {fl p : Int} {l y : List UInt8} (h : decTM sh bad fl l = (0, p, y)) : sh = false ∧ bad = false ∧ fl / 64 = 2 ∧ (0 ≤ p ∧ p ≤ 255) ∧ (fl / 32 % 2 = 1 ↔ 0 < p) ∧ l = y ++ padM p := by
  unfold decTM at h
  split at h
  · simp at h
  rename_i hs
  have hs : sh = false := by simpa using hs
  split at h
  · rename_i h32
    split at h
    · simp at h
    rename_i hc
    split at h
    · simp at h
    rename_i hb
    simp only [not_or, Bool.not_eq_true, Decidable.not_not, Bool.not_eq_false] at hc hb
    simp only [Prod.mk.injEq, true_and] at h
    obtain ⟨rfl, rfl⟩ := h
    obtain ⟨c1, c2, c3⟩ := hc
    have hN : padNM l = (l.getD (l.length - 1) 0).toNat := by
      rw [padNM, if_neg (by omega)]
      rfl
    have hlt := (l.getD (l.length - 1) 0).toNat_lt
    refine ⟨hs, hb.1, hb.2, by omega, ⟨fun _ => by omega, fun _ => h32⟩, ?_⟩
    have hz := trim_nil (eqB_nil.1 c3)
    have hd : (l.drop (l.length - padNM l)).length = padNM l := by rw [List.length_drop]; omega
    have hsn := snoc_of (x := l.drop (l.length - padNM l)) (by omega)
    rw [hd] at hsn
    have hzl : (padSM l).length = padNM l - 1 := by rw [padSM, List.length_take, hd]; omega
    rw [hzl] at hz
    have hg : (l.drop (l.length - padNM l)).getD (padNM l - 1) 0 = l.getD (l.length - 1) 0 := by
      simp only [List.getD, List.getElem?_drop]
      rw [show l.length - padNM l + (padNM l - 1) = l.length - 1 by omega]
    rw [show (l.drop (l.length - padNM l)).take (padNM l - 1) = padSM l from rfl, hz, hg] at hsn
    conv => lhs; rw [← List.take_append_drop (l.length - padNM l) l, hsn]
    rw [padM, if_pos (by omega), put1, hN, oct_self, ← hN, show Int.toNat ((padNM l : Int) - 1) = padNM l - 1 by omega]
  · rename_i h32
    split at h
    · simp at h
    rename_i hb
    simp only [not_or, Bool.not_eq_true, Decidable.not_not] at hb
    simp only [Prod.mk.injEq, true_and] at h
    obtain ⟨rfl, rfl⟩ := h
    exact ⟨hs, hb.1, hb.2, by omega, ⟨fun h => absurd h h32, fun h => by omega⟩, by simp [padM]⟩
/-! ## the extensions' place -/
def extHM (ex : List Xt) : List UInt8 := if ex.length = 0 then [] else putM 2 [profM (shortM ex), ((extPM ex).length / 4 : Nat)] ++ extPM ex
theorem extP_len4 (ex : List Xt) : (extPM ex).length % 4 = 0 := by
  rw [extPM, List.length_append, zerosM, List.length_replicate]
  omega
theorem prof_in (sh : Bool) : 0 ≤ profM sh ∧ profM sh < 65536 := by cases sh <;> decide
theorem takeS_false {b : Bool} {l : List UInt8} {k : Int} (h : takeSM b l k = false) : b = false ∧ k.toNat ≤ l.length := by
  rw [takeSM, Bool.or_eq_false_iff, decide_eq_false_iff_not] at h
  exact ⟨h.1, by omega⟩
theorem decX_enc {fl pad : Int} {ex : List Xt} {y : List UInt8} (h64 : fl / 64 = 2) (hp : 0 ≤ pad ∧ pad ≤ 255) (h32 : fl / 32 % 2 = 1 ↔ 0 < pad) (h16 : fl / 16 % 2 = 1 ↔ ex ≠ []) (ho : extsOkM 0 ex = true) (hn : ex.length ≤ 16) (hl : (extPM ex).length ≤ 1200) :
    decXM false fl (extHM ex ++ (y ++ padM pad)) = (ex, 0, pad, y) := by
  by_cases h : ex = []
  · subst h
    rw [decXM, if_neg (by simp [h16])]
    simp only [extHM, List.length_nil, if_true, List.nil_append]
    rw [decT_enc h64 hp h32]
  · have hne : ex.length ≠ 0 := fun q => h (List.length_eq_zero_iff.1 q)
    have h4 := extP_len4 ex
    have hpr := prof_in (shortM ex)
    have e : extHM ex ++ (y ++ padM pad) = beM (profM (shortM ex)) 2 ++ (beM (((extPM ex).length / 4 : Nat) : Int) 2 ++ (extPM ex ++ (y ++ padM pad))) := by
      rw [extHM, if_neg hne]
      simp [putM]
    obtain ⟨a1, a2, a3⟩ := take_be (n := profM (shortM ex)) (k := 2) (j := 2) (r := beM (((extPM ex).length / 4 : Nat) : Int) 2 ++ (extPM ex ++ (y ++ padM pad))) rfl hpr.1 hpr.2 false
    obtain ⟨b1, b2, b3⟩ := take_be (n := (((extPM ex).length / 4 : Nat) : Int)) (k := 2) (j := 2) (r := extPM ex ++ (y ++ padM pad)) rfl (by omega) (show (((extPM ex).length / 4 : Nat) : Int) < 65536 by omega) false
    rw [decXM, if_pos (h16.2 h), e, a2, b2, b1, a1, a3, b3, show (4 * (((extPM ex).length / 4 : Nat) : Int)).toNat = (extPM ex).length by omega, List.take_left, List.drop_left, exts_enc h ho hn, decT_enc h64 hp h32, if_neg (by rw [List.length_append]; omega)]
theorem decX_dec {sh : Bool} {fl p : Int} {ex : List Xt} {l y : List UInt8} (h : decXM sh fl l = (ex, 0, p, y)) : sh = false ∧ fl / 64 = 2 ∧ (0 ≤ p ∧ p ≤ 255) ∧ (fl / 32 % 2 = 1 ↔ 0 < p) ∧ (fl / 16 % 2 = 1 ↔ ex ≠ []) ∧ extsOkM 0 ex = true ∧ ex.length ≤ 16 ∧ l = extHM ex ++ (y ++ padM p) := by
  unfold decXM at h
  split at h
  · rename_i h16
    split at h
    · simp at h
    rename_i hc
    generalize hX : extsM (takeNM l 2) ((takeLM (takeLM l 2) 2).take (4 * takeNM (takeLM l 2) 2).toNat) = X at h
    obtain ⟨ex', bad⟩ := X
    simp only [Prod.mk.injEq] at h
    obtain ⟨rfl, h⟩ := h
    obtain ⟨c1, rfl, c3, c4, c5, c6⟩ := decT_dec h
    obtain ⟨d1, d2⟩ := takeS_false c1
    obtain ⟨rfl, d4⟩ := takeS_false d1
    obtain ⟨a1, _, a3⟩ := take_put (l := l) (k := 2) (j := 2) rfl d4 false
    obtain ⟨b1, _, b3⟩ := take_put (l := takeLM l 2) (k := 2) (j := 2) rfl d2 false
    have hw := (takeN_in (takeLM l 2) 2).1
    have hlen : ((takeLM (takeLM l 2) 2).take (4 * takeNM (takeLM l 2) 2).toNat).length = (4 * takeNM (takeLM l 2) 2).toNat := by rw [List.length_take]; omega
    obtain ⟨e1, e2, e3, e4, e5⟩ := exts_dec hX (by rw [hlen]; omega)
    refine ⟨rfl, c3, c4, c5, ⟨fun _ => e1, fun _ => h16⟩, e2, e3, ?_⟩
    rw [extHM, if_neg (fun q => e1 (List.length_eq_zero_iff.1 q)), ← e5, e4, hlen, ← c6, show ((((4 * takeNM (takeLM l 2) 2).toNat / 4 : Nat)) : Int) = takeNM (takeLM l 2) 2 by omega]
    conv => lhs; rw [a1, b1]
    rw [putM, putM, putM, List.append_nil, List.append_assoc, List.append_assoc, List.take_append_drop]
  · rename_i h16
    simp only [Prod.mk.injEq] at h
    obtain ⟨rfl, h⟩ := h
    obtain ⟨c1, _, c3, c4, c5, c6⟩ := decT_dec h
    exact ⟨c1, c3, c4, c5, ⟨fun q => absurd q h16, fun q => absurd rfl q⟩, rfl, by simp, by simpa [extHM] using c6⟩
/-! ## all of it -/
theorem enc_split (mk : Bool) (ty sq ti ss : Int) (cs : List Int) (ex : List Xt) (pad : Int) (pl : List UInt8) : encM mk ty sq ti ss cs ex pad pl = beM (fstM cs ex.length pad) 1 ++ (beM (kindM mk ty) 1 ++ (beM sq 2 ++ (beM ti 4 ++ (beM ss 4 ++ (putM 4 cs ++ (extHM ex ++ (pl ++ padM pad))))))) := by
  rw [encM, headM, headBM, ← extHM]
  simp [putM]
theorem dec_enc {mk : Bool} {ty sq ti ss : Int} {cs : List Int} {ex : List Xt} {pad : Int} {pl : List UInt8} (hr : rightM ty sq ti ss cs ex pad = true) (hl : (encM mk ty sq ti ss cs ex pad pl).length ≤ 1200) : decM (encM mk ty sq ti ss cs ex pad pl) = (mk, ty, sq, ti, ss, cs, ex, pad, pl, 0) := by
  rw [rightM, Bool.and_eq_true, flagsM, decide_eq_true_eq] at hr
  obtain ⟨⟨r1, r2, r3, r4, r5, r6, r7, r8, r9, r10, r11, r12, r13⟩, ho⟩ := hr
  have hX : (extPM ex).length ≤ 1200 := by
    rw [enc_split, extHM] at hl
    split at hl
    · rename_i h
      rw [List.length_eq_zero_iff.1 h]
      decide
    · simp only [List.length_append] at hl
      omega
  have hfb : fstM cs ex.length pad % 16 = cs.length ∧ 0 ≤ fstM cs ex.length pad ∧ fstM cs ex.length pad < 256 ∧ fstM cs ex.length pad / 64 = 2 ∧ (fstM cs ex.length pad / 32 % 2 = 1 ↔ 0 < pad) ∧ (fstM cs ex.length pad / 16 % 2 = 1 ↔ ex ≠ []) := by
    have : ex ≠ [] ↔ 0 < ex.length := by
      rw [List.length_pos_iff]
    rw [this, fstM]
    split <;> split <;> omega
  obtain ⟨f1, f2, f3, f4, f5, f6⟩ := hfb
  have hk : 0 ≤ kindM mk ty ∧ kindM mk ty < 256 ∧ decide (128 ≤ kindM mk ty) = mk ∧ kindM mk ty % 128 = ty := by
    rw [kindM]
    cases mk
    · simp only [Bool.false_eq_true, if_false, decide_eq_false_iff_not]; omega
    · simp only [if_true, decide_eq_true_eq]; omega
  obtain ⟨k1, k2, k3, k4⟩ := hk
  rw [enc_split] at hl ⊢
  generalize hR : putM 4 cs ++ (extHM ex ++ (pl ++ padM pad)) = R at *
  obtain ⟨a1, a2, a3⟩ := take_be (n := fstM cs ex.length pad) (k := 1) (j := 1) (r := beM (kindM mk ty) 1 ++ (beM sq 2 ++ (beM ti 4 ++ (beM ss 4 ++ R)))) rfl f2 f3 false
  obtain ⟨b1, b2, b3⟩ := take_be (n := kindM mk ty) (k := 1) (j := 1) (r := beM sq 2 ++ (beM ti 4 ++ (beM ss 4 ++ R))) rfl k1 k2 false
  obtain ⟨c1, c2, c3⟩ := take_be (n := sq) (k := 2) (j := 2) (r := beM ti 4 ++ (beM ss 4 ++ R)) rfl r3 (show sq < 65536 by omega) false
  obtain ⟨d1, d2, d3⟩ := take_be (n := ti) (k := 4) (j := 4) (r := beM ss 4 ++ R) rfl r5 (show ti < 4294967296 by omega) false
  obtain ⟨e1, e2, e3⟩ := take_be (n := ss) (k := 4) (j := 4) (r := R) rfl r7 (show ss < 4294967296 by omega) false
  have hL : l5M (beM (fstM cs ex.length pad) 1 ++ (beM (kindM mk ty) 1 ++ (beM sq 2 ++ (beM ti 4 ++ (beM ss 4 ++ R))))) = R := by rw [l5M, a2, b2, c2, d2, e2]
  have hS : s5M (beM (fstM cs ex.length pad) 1 ++ (beM (kindM mk ty) 1 ++ (beM sq 2 ++ (beM ti 4 ++ (beM ss 4 ++ R))))) = false := by rw [s5M, a2, b2, c2, d2, a3, b3, c3, d3, e3]
  obtain ⟨g1, g2⟩ := cs_enc (rest := extHM ex ++ (pl ++ padM pad)) cs r9 cs.length (Nat.le_refl _)
  have hlk := (cs_put (l := R) (sh := false) cs.length (by rw [← hR, List.length_append, put_len]; omega)).1
  rw [hR] at g1 g2
  rw [List.take_length] at g1
  rw [List.drop_length, putM, List.nil_append] at g2
  rw [decM, if_neg (by omega), hL, hS, a1, f1, Int.toNat_natCast, hlk, g2, decX_enc f4 ⟨r10, r11⟩ f5 f6 ho r13 hX, decPM, if_pos rfl, a2, b1, b2, c1, c2, d1, d2, e1, hL, g1, k3, k4]
theorem s5_put {s : List UInt8} (h : s5M s = false) : s = beM (takeNM s 1) 1 ++ (beM (takeNM (takeLM s 1) 1) 1 ++ (beM (takeNM (takeLM (takeLM s 1) 1) 2) 2 ++ (beM (takeNM (takeLM (takeLM (takeLM s 1) 1) 2) 4) 4 ++ (beM (takeNM (takeLM (takeLM (takeLM (takeLM s 1) 1) 2) 4) 4) 4 ++ l5M s)))) := by
  rw [s5M] at h
  obtain ⟨h, h5⟩ := takeS_false h
  obtain ⟨h, h4⟩ := takeS_false h
  obtain ⟨h, h3⟩ := takeS_false h
  obtain ⟨h, h2⟩ := takeS_false h
  obtain ⟨_, h1⟩ := takeS_false h
  rw [l5M, ← (take_put (k := 4) (j := 4) rfl h5 false).1, ← (take_put (k := 4) (j := 4) rfl h4 false).1, ← (take_put (k := 2) (j := 2) rfl h3 false).1, ← (take_put (k := 1) (j := 1) rfl h2 false).1, ← (take_put (k := 1) (j := 1) rfl h1 false).1]
theorem dec_ok {s : List UInt8} {mk : Bool} {ty sq ti ss : Int} {cs : List Int} {ex : List Xt} {p : Int} {y : List UInt8} (h : decM s = (mk, ty, sq, ti, ss, cs, ex, p, y, 0)) : rightM ty sq ti ss cs ex p = true ∧ encM mk ty sq ti ss cs ex p y = s ∧ s.length ≤ 1200 := by
  rw [decM] at h
  split at h
  · simp [zerM] at h
  rename_i hl
  have hn : (takeNM s 1 % 16).toNat ≤ 15 := by omega
  have hn' : ((takeNM s 1 % 16).toNat : Int) = takeNM s 1 % 16 := by omega
  generalize (takeNM s 1 % 16).toNat = n at *
  generalize hX : decXM (lackM (s5M s) (l5M s) n) (takeNM s 1) (leftM (l5M s) n) = X at h
  obtain ⟨ex', e', p', y'⟩ := X
  rw [decPM] at h
  dsimp only at h
  have he : e' = 0 := by
    by_cases q : e' = 0
    · exact q
    · rw [if_neg q] at h
      simp only [zerM, Prod.mk.injEq] at h
      exact h.2.2.2.2.2.2.2.2.2
  subst he
  rw [if_pos rfl] at h
  simp only [Prod.mk.injEq, and_true] at h
  obtain ⟨rfl, rfl, rfl, rfl, rfl, rfl, rfl, rfl, rfl⟩ := h
  obtain ⟨x1, x2, x3, x4, x5, x6, x7, x8⟩ := decX_dec hX
  have h4 : 4 * n ≤ (l5M s).length := by
    by_cases q : 4 * n ≤ (l5M s).length
    · exact q
    · rw [cs_lack n (by omega)] at x1; cases x1
  obtain ⟨c1, c2, c3⟩ := cs_put (l := l5M s) (sh := s5M s) n h4
  rw [c1] at x1
  have hs := s5_put x1
  have b1 := takeN_in s 1
  have b2 := takeN_in (takeLM s 1) 1
  have b3 := takeN_in (takeLM (takeLM s 1) 1) 2
  have b4 := takeN_in (takeLM (takeLM (takeLM s 1) 1) 2) 4
  have b5 := takeN_in (takeLM (takeLM (takeLM (takeLM s 1) 1) 2) 4) 4
  rw [show (256 : Int) ^ Int.toNat 1 = 256 from rfl] at b1 b2
  rw [show (256 : Int) ^ Int.toNat 2 = 65536 from rfl] at b3
  rw [show (256 : Int) ^ Int.toNat 4 = 4294967296 from rfl] at b4 b5
  have hlen := cs_len (l5M s) n
  have hfst : fstM (csM (l5M s) n) ex'.length p' = takeNM s 1 := by
    have : ex' ≠ [] ↔ 0 < ex'.length := by rw [List.length_pos_iff]
    rw [this] at x5
    rw [fstM, hlen]
    split <;> split <;> omega
  have hkd : kindM (decide (128 ≤ takeNM (takeLM s 1) 1)) (takeNM (takeLM s 1) 1 % 128) = takeNM (takeLM s 1) 1 := by
    rw [kindM]
    by_cases q : 128 ≤ takeNM (takeLM s 1) 1
    · rw [if_pos (decide_eq_true q)]; omega
    · rw [if_neg (by simpa using q)]; omega
  refine ⟨?_, ?_, by omega⟩
  · rw [rightM, x6, Bool.and_true, flagsM, decide_eq_true_eq, hlen]
    exact ⟨by omega, by omega, by omega, by omega, by omega, by omega, by omega, by omega, cs_in _ _, by omega, by omega, by omega, x7⟩
  · rw [enc_split, hfst, hkd, ← x8, ← c2, ← hs]
theorem dec_err {s : List UInt8} {mk : Bool} {ty sq ti ss : Int} {cs : List Int} {ex : List Xt} {p : Int} {y : List UInt8} {e : Int} (h : decM s = (mk, ty, sq, ti, ss, cs, ex, p, y, e)) (h0 : e ≠ 0) : decM s = zerM e ∧ (e = 3 ∨ e = 5 ∨ e = 7) := by
  have hx : ∀ sh fl l, (decXM sh fl l).2.1 = 7 ∨ (decXM sh fl l).2.1 = 5 ∨ (decXM sh fl l).2.1 = 0 := fun sh fl l => by
    unfold decXM
    split
    · split
      · exact .inl rfl
      · exact decT_code _ _ _ _
    · exact decT_code _ _ _ _
  rw [decM] at h ⊢
  split at h
  · rename_i hl
    rw [if_pos hl]
    simp only [zerM, Prod.mk.injEq] at h
    obtain rfl := h.2.2.2.2.2.2.2.2.2
    exact ⟨rfl, .inl rfl⟩
  · rename_i hl
    rw [if_neg hl]
    have := hx (lackM (s5M s) (l5M s) (takeNM s 1 % 16).toNat) (takeNM s 1) (leftM (l5M s) (takeNM s 1 % 16).toNat)
    generalize decXM (lackM (s5M s) (l5M s) (takeNM s 1 % 16).toNat) (takeNM s 1) (leftM (l5M s) (takeNM s 1 % 16).toNat) = X at *
    rw [decPM] at h ⊢
    split at h
    · simp only [Prod.mk.injEq] at h
      exact absurd h.2.2.2.2.2.2.2.2.2.symm h0
    · rename_i hX
      rw [if_neg hX]
      simp only [zerM, Prod.mk.injEq] at h
      obtain rfl := h.2.2.2.2.2.2.2.2.2
      exact ⟨rfl, by omega⟩
end Go.Proofs.YtbchmkhliehbfaaDoor

/-
  Chapter 18: contracts of the reference's Decode and Shown; residual of Valid.
-/
import Derived.Test.YtifjpcdpmimccaaGreatDoorBmI
import Derived.Test.YtifjpcdpmimccaaGreatDoorBmF
set_option linter.unusedSimpArgs false
set_option linter.unusedVariables false
set_option linter.unusedSectionVars false
namespace Go.Proofs.YtifjpcdpmimccaaGreatDoor
open Go.RowKit
set_option maxRecDepth 1000000

theorem dec15_ok : ValidF Tryz.prog gl0 15 cDecB := by
  refine valid_flat (enters_of (by kernel_rfl)) gl0_noY fun args H Q hc => ?_
  unfold cDecB at hc
  split at hc
  · rename_i s
    obtain ⟨⟨h1⟩, hq⟩ := hc
    obtain ⟨hv, hb', h⟩ := dec15_run s h1 (Q := fun o H' _ => H' = [] ∧ (∃ v, o = .ret v ∧ old 0 v = true ∧ noY v = true) ∧ Q o H) (fun n k f u m e he => ⟨rfl, ⟨_, rfl, rfl, rfl⟩, hq n k f u m e ⟨he⟩⟩)
    exact ⟨rfl, rfl, _, 1000, envFor18 smRd_ok _ _ _, rfl, h⟩
  · exact hc.elim
def cShown : Con
  | [.str s], H, K => Lf (s.length ≤ 1000000) ∧ ∀ x, Lf (x = shownM s) → K (.ret (.str x)) H
  | _, _, _ => False
theorem shown16_ok : ValidF Tryz.prog gl0 16 cShown := by
  refine valid_flat (enters_of (by kernel_rfl)) gl0_noY fun args H Q hc => ?_
  unfold cShown at hc
  split at hc
  · rename_i s
    obtain ⟨⟨h1⟩, hq⟩ := hc
    obtain ⟨hv, hb', h⟩ := shown16_run s h1 (Q := fun o H' _ => H' = [] ∧ (∃ v, o = .ret v ∧ old 0 v = true ∧ noY v = true) ∧ Q o H) ⟨rfl, ⟨_, rfl, rfl, rfl⟩, hq _ ⟨rfl⟩⟩
    exact ⟨rfl, rfl, _, 1000, envFor18 smRd_ok _ _ _, rfl, h⟩
  · exact hc.elim
def smVa : SM := lookS [(54, cDig54), (16, cShown)]
theorem smVa_ok : ∀ f g, smVa f = some g → ValidF Tryz.prog gl0 f g := lookS_ok _ (by simp only [List.mem_cons, List.not_mem_nil, or_false, forall_eq_or_imp, forall_eq]; exact ⟨dig54_ok, shown16_ok⟩)
def parM (t q : List UInt8) : Prop := q.length ≤ 32 ∧ ∀ j, j < q.length → [t.getD (8 + 3 * j) 0, t.getD (9 + 3 * j) 0] = hex2M (q.getD j 0)
def inv_18 (t : List UInt8) (_ : S) : List (List LInv) := [[{ α := List UInt8, pre := fun q => Lf (parM t q), st := fun q => ⟨mkT [(0, .str t), (3, .str q), (4, .int .i64 (q.length : Nat))], []⟩, mu := fun q => 32 - q.length }]]
noncomputable def env_18 (hv : Nat → Option Pa) (hb : Nat → Option Bool) (t : List UInt8) : Env := e18 smVa (fun i => bif Nat.beq i 18000 then some (inv_18 t) else none) hv hb
noncomputable def goal_18 (hv : Nat → Option Pa) (hb : Nat → Option Bool) (t : List UInt8) (Q : Out → List Blk → Gh → Prop) : Prop :=
  callx (env_18 hv hb t) (wpx (env_18 hv hb t) 1000) 18 [.str t] [] {} Q
theorem vc_18 (t : List UInt8) (Q : Out → List Blk → Gh → Prop) : goal_18 (lookV [(73736, .int .i64), (73738, .int .i64), (73743, .int .i64), (73744, .int .i64), (73745, .int .i64), (73746, .int .u8), (73749, .int .i64), (73750, .int .i64),
 (73751, .int .i64), (73752, .int .u8), (73762, .int .i64), (73764, .int .i64), (73765, .int .u8), (73767, .str), (73768, .str), (73740, .int .i64), (73741, .int .i64)]) (lookB []) t Q = (exI .i64 (t.length : Int) fun n_0 => bif n_0 != 103
 then Q (.ret (.bool false)) [] {} else (∃ x_1 : List UInt8, Lf (parM t x_1) ∧ eqqQ (AV.str t) ∧ AV.str [] = AV.str x_1 ∧ AV.int .i64 0 = AV.int .i64 (x_1.length : Int) ∧ True) ∧ ∀ x_1 : List UInt8, Lf (parM t x_1) → exI .i64 (x_1.length :
 Int) fun n_2 => bif decide (n_2 < 32) then exI .i64 (x_1.length : Int) fun n_3 => exW .i64 (3 * n_3) fun n_4 => exW .i64 (8 + n_4) fun n_5 => ckQ (decide (0 ≤ n_5) && Nat.blt n_5.toNat t.length) (exI .u8 (UInt8.toNat (t.getD n_5.toNat
 (UInt8.ofNat 0)) : Int) fun n_6 => exI .i64 (x_1.length : Int) fun n_7 => exW .i64 (3 * n_7) fun n_8 => exW .i64 (9 + n_8) fun n_9 => ckQ (decide (0 ≤ n_9) && Nat.blt n_9.toNat t.length) (exI .u8 (UInt8.toNat (t.getD n_9.toNat (UInt8.ofNat
 0)) : Int) fun n_10 => Lf (0 ≤ n_6 ∧ n_6 ≤ 255) ∧ ∀ x_11 : Int, Lf ((∃ q_12 : Nat, x_11 = (q_12 : Int) ∧ q_12 < 16 ∧ hexL.getD q_12 0 = UInt8.ofNat n_6.toNat) ∨ x_11 = -1 ∧ ∀ j_12 : Nat, j_12 < 16 → hexL.getD j_12 0 ≠ UInt8.ofNat
 n_6.toNat) → Lf (0 ≤ n_10 ∧ n_10 ≤ 255) ∧ ∀ x_12 : Int, Lf ((∃ q_13 : Nat, x_12 = (q_13 : Int) ∧ q_13 < 16 ∧ hexL.getD q_13 0 = UInt8.ofNat n_10.toNat) ∨ x_12 = -1 ∧ ∀ j_13 : Nat, j_13 < 16 → hexL.getD j_13 0 ≠ UInt8.ofNat n_10.toNat) →
 bif decide (x_11 < 0) then Q (.ret (.bool false)) [] {} else bif decide (x_12 < 0) then Q (.ret (.bool false)) [] {} else exW .i64 (16 * x_11) fun n_13 => exW .i64 (n_13 + x_12) fun n_14 => exW .u8 n_14 fun n_15 => exS (.str [toB (.int .u8
 n_15)]) fun s_16 => ckQ (decide (x_1.length + s_16.length ≤ 9223372036854775807) && true) (exS (.str (x_1 ++ s_16)) fun s_17 => exI .i64 (x_1.length : Int) fun n_18 => exW .i64 (n_18 + 1) fun n_19 => (True ∧ (0 : Nat) = (0 : Nat)) ∧ ∃ y_20
 : List UInt8, Lf (parM t y_20) ∧ 32 - y_20.length < 32 - x_1.length ∧ eqqQ (AV.str t) ∧ AV.str s_17 = AV.str y_20 ∧ AV.int .i64 n_19 = AV.int .i64 (y_20.length : Int) ∧ True))) else Lf (x_1.length ≤ 1000000) ∧ ∀ x_3 : List UInt8, Lf (x_3 =
 shownM x_1) → bif eqB x_3 t then Q (.ret (.bool true)) [] {} else Q (.ret (.bool false)) [] {}) := by kernel_rfl

end Go.Proofs.YtifjpcdpmimccaaGreatDoor

set_option linter.unusedSimpArgs false
set_option linter.unusedVariables false
set_option linter.unusedSectionVars false
namespace Go.Proofs.YtifjpcdpmimccaaGreatDoor
open Go.RowKit
set_option maxRecDepth 1000000

theorem jt_of : ∀ (q r : List UInt8), r.length = 3 * q.length → (∀ j, j < q.length → r.getD (3 * j) 0 = 58 ∧ [r.getD (3 * j + 1) 0, r.getD (3 * j + 2) 0] = hex2M (q.getD j 0)) → r = Lib.joinTail [58] (hx q)
  | [], r, h, _ => by
    cases r with
    | nil => rfl
    | cons a t => simp at h
  | c :: t, r, h, hj => by
    rw [jt_cons]
    match r, h with
    | [], h => simp at h; 
    | [_], h => simp at h; omega
    | [_, _], h => simp at h; omega
    | a :: b :: d :: r', h =>
      obtain ⟨e1, e2⟩ := hj 0 (by simp)
      have e1' : a = 58 := e1
      have e2' : [b, d] = [hexL.getD (c.toNat / 16) (UInt8.ofNat 0), hexL.getD (c.toNat % 16) (UInt8.ofNat 0)] := e2
      simp only [List.cons.injEq, and_true] at e2'
      rw [e1', e2'.1, e2'.2, ← jt_of t r' (by simp at h; omega) (fun j hjj => by
        have := hj (j + 1) (by simp; omega)
        simpa [Nat.mul_add] using this)]
theorem ch_col {j : Nat} {c : UInt8} (hj : j % 3 = 2) (h : chOk j c = true) : c = 58 := by
  rw [chOk, if_pos hj, beq_iff_eq] at h
  exact h
theorem ch_dig {j : Nat} {c : UInt8} (hj : j % 3 ≠ 2) (h : chOk j c = true) : 0 ≤ idxM hexL (c.toNat : Int) := by
  rw [chOk, if_neg hj] at h
  exact of_decide_eq_true h
theorem idx_all : ∀ c : Fin 256, decide (0 ≤ idxM hexL (c.val : Int)) = (List.range 16).any fun j => hexL.getD j 0 == UInt8.ofNat c.val := by decide +kernel
theorem idx_no {c : UInt8} (h : ∀ j, j < 16 → hexL.getD j 0 ≠ c) : ¬ 0 ≤ idxM hexL (c.toNat : Int) := fun hh => by
  have := idx_all ⟨c.toNat, c.toNat_lt⟩
  rw [decide_eq_true hh] at this
  have := this.symm
  rw [List.any_eq_true] at this
  obtain ⟨j, hj, he⟩ := this
  rw [beq_iff_eq] at he
  exact h j (List.mem_range.1 hj) (by rw [he]; exact UInt8.ofNat_toNat)
theorem drop_getD (t : List UInt8) (n j : Nat) : (t.drop n).getD j 0 = t.getD (n + j) 0 := by
  rw [List.getD_eq_getElem?_getD, List.getD_eq_getElem?_getD, List.getElem?_drop]
theorem fing_shown {t q : List UInt8} (ht : t.length = 103) (hq : q.length = 32) (hp : parM t q) : eqB (shownM q) t = fingM t := by
  rw [Bool.eq_iff_iff]
  refine ⟨fun h => ?_, fun h => ?_⟩
  · rw [eqB_iff, beq_iff_eq] at h
    rw [← h]; exact shown_fing hq
  · obtain ⟨_, h1, h2, h3⟩ := (fing_iff t).1 h
    rw [eqB_iff, beq_iff_eq] at h1 ⊢
    have hr : t.drop 8 = joinM (hx q) [58] := by
      match q, hq, hp with
      | c :: q', hq, hp =>
        rw [join_hx]
        obtain ⟨_, hp⟩ := hp
        have e0 := hp 0 (by simp)
        have e0' : [t.getD 8 0, t.getD 9 0] = [hexL.getD (c.toNat / 16) (UInt8.ofNat 0), hexL.getD (c.toNat % 16) (UInt8.ofNat 0)] := e0
        simp only [List.cons.injEq, and_true] at e0'
        generalize hs : t.drop 8 = r at h2 h3 ⊢
        have hg : ∀ j, r.getD j 0 = t.getD (8 + j) 0 := fun j => by rw [← hs, drop_getD]
        match r, h2 with
        | a :: b :: r', h2 =>
          have ga : a = t.getD 8 0 := hg 0
          have gb : b = t.getD 9 0 := hg 1
          rw [ga, gb, e0'.1, e0'.2]
          congr 2
          rw [List.length_cons] at hq
          refine jt_of q' r' (by simp at h2; omega) fun j hj => ?_
          have g2 : ∀ i, r'.getD i 0 = t.getD (10 + i) 0 := fun i => by
            have := hg (i + 2)
            rw [show 8 + (i + 2) = 10 + i by omega] at this
            exact this
          refine ⟨?_, ?_⟩
          · have := ch_col (by omega) (h3 (3 * j + 2) (by omega))
            exact this
          · have := hp (j + 1) (by simp; omega)
            rw [g2, g2, show 10 + (3 * j + 1) = 8 + 3 * (j + 1) by omega, show 10 + (3 * j + 2) = 9 + 3 * (j + 1) by omega]
            exact this
    show preM ++ joinM (hx q) [58] = t
    rw [← h1, ← hr, List.take_append_drop]
theorem hex2_of {a b : Nat} (ha : a < 16) (hb : b < 16) : hex2M (UInt8.ofNat (16 * a + b)) = [hexL.getD a 0, hexL.getD b 0] := by
  have e : (UInt8.ofNat (16 * a + b)).toNat = 16 * a + b := by rw [UInt8.toNat_ofNat']; omega
  rw [hex2M, e, show (16 * a + b) / 16 = a by omega, show (16 * a + b) % 16 = b by omega]
  rfl
theorem valid18_run (t : List UInt8) (ht : t.length ≤ 1000000) (Q : Out → List Blk → Gh → Prop) (hq : Q (.ret (.bool (fingM t))) [] {}) : ∃ hv hb, goal_18 hv hb t Q := by
  obtain ⟨hv', hb', e'⟩ : ∃ hv hb, goal_18 hv hb t Q = _ := ⟨_, _, vc_18 t Q⟩
  refine ⟨hv', hb', e'.mpr ?_⟩
  clear e'
  have no : ¬ fingM t = true → Q (.ret (.bool false)) [] {} := fun h => by
    rw [Bool.not_eq_true] at h; rwa [h] at hq
  refine ⟨_, rfl, splitNE (fun h1 => no fun h => by
    obtain ⟨_, _, h2, _⟩ := (fing_iff t).1 h
    rw [List.length_drop] at h2; omega) (fun h1 => ⟨⟨[], ⟨Nat.zero_le _, fun j hj => absurd hj (Nat.not_lt_zero _)⟩, rfl, rfl, rfl, trivial⟩, ?_⟩)⟩
  have h103 : t.length = 103 := by omega
  rintro q ⟨hq1, hq2⟩
  refine ⟨_, rfl, splitD (fun h2 => ?_) (fun h2 => ?_)⟩
  · have c1 := (t.getD (8 + 3 * q.length) 0).toNat_lt
    have c2 := (t.getD (9 + 3 * q.length) 0).toNat_lt
    refine ⟨_, rfl, wrapI (by omega) (by omega) (wrapI (by omega) (by omega) (ckI (idxOk (by omega) (by omega)) ⟨((t.getD (8 + 3 * q.length) 0).toNat : Int), ?_, _, rfl, wrapI (by omega) (by omega) (wrapI (by omega) (by omega) (ckI (idxOk (by omega) (by omega)) ⟨((t.getD (9 + 3 * q.length) 0).toNat : Int), ?_, ⟨by omega, by omega⟩, ?_⟩))⟩))⟩
    · rw [show (8 + 3 * (q.length : Int)).toNat = 8 + 3 * q.length by omega]; rfl
    · rw [show (9 + 3 * (q.length : Int)).toNat = 9 + 3 * q.length by omega]; rfl
    have u1 : UInt8.ofNat (((t.getD (8 + 3 * q.length) 0).toNat : Int)).toNat = t.getD (8 + 3 * q.length) 0 := by rw [Int.toNat_natCast, UInt8.ofNat_toNat]
    have u2 : UInt8.ofNat (((t.getD (9 + 3 * q.length) 0).toNat : Int)).toNat = t.getD (9 + 3 * q.length) 0 := by rw [Int.toNat_natCast, UInt8.ofNat_toNat]
    have nx : ∀ k, k = 8 + 3 * q.length ∨ k = 9 + 3 * q.length → (∀ j, j < 16 → hexL.getD j 0 ≠ t.getD k 0) → ¬ fingM t = true := fun k hk hn h => by
      obtain ⟨_, _, h2, h3⟩ := (fing_iff t).1 h
      have := ch_dig (by omega) (h3 (k - 8) (by omega))
      rw [drop_getD, show 8 + (k - 8) = k by omega] at this
      exact idx_no hn this
    rintro x ⟨hx⟩
    rw [u1] at hx
    refine ⟨⟨by omega, by omega⟩, ?_⟩
    rintro y ⟨hy⟩
    rw [u2] at hy
    rcases hx with ⟨a, rfl, ha, ea⟩ | ⟨rfl, hn⟩
    · rcases hy with ⟨b, rfl, hb, eb⟩ | ⟨rfl, hn⟩
      · refine splitD (fun h => absurd h (by omega)) (fun _ => splitD (fun h => absurd h (by omega)) (fun _ => wrapI (by omega) (by omega) (wrapI (by omega) (by omega) (wrapU8 (by omega) (by omega) ⟨[UInt8.ofNat (16 * a + b)], ?_, ckI ?_ ⟨_, rfl, _, rfl, wrapI (by omega) (by omega) ⟨⟨trivial, rfl⟩, q ++ [UInt8.ofNat (16 * a + b)], ⟨?_, ?_⟩, ?_, rfl, rfl, ?_, trivial⟩⟩⟩))))
        · rw [show (16 * (a : Int) + b) = ((16 * a + b : Nat) : Int) by omega]
          rfl
        · rw [Bool.and_true, decide_eq_true_eq, List.length_singleton]; omega
        · rw [List.length_append, List.length_singleton]; omega
        · intro j hj
          rw [List.length_append, List.length_singleton] at hj
          rcases Nat.lt_or_ge j q.length with g | g
          · rw [hq2 j g, List.getD_eq_getElem?_getD, List.getD_eq_getElem?_getD, List.getElem?_append_left g]
          · obtain rfl : j = q.length := by omega
            rw [List.getD_eq_getElem?_getD (l := q ++ _), List.getElem?_append_right (Nat.le_refl _), Nat.sub_self, List.getElem?_cons_zero, Option.getD_some, hex2_of ha hb, ea, eb]
        · rw [List.length_append, List.length_singleton]; omega
        · rw [List.length_append, List.length_singleton]; rfl
      · exact splitD (fun h => absurd h (by omega)) (fun _ => splitD (fun _ => no (nx _ (.inr rfl) hn)) (fun h => absurd (show (-1 : Int) < 0 by omega) h))
    · exact splitD (fun _ => no (nx _ (.inl rfl) hn)) (fun h => absurd (show (-1 : Int) < 0 by omega) h)
  · have h32 : q.length = 32 := by omega
    refine ⟨⟨by omega⟩, ?_⟩
    rintro x ⟨rfl⟩
    have he := fing_shown h103 h32 ⟨hq1, hq2⟩
    rw [← he] at hq
    cases hh : eqB (shownM q) t with
    | true => rw [hh] at hq; exact hq
    | false => rw [hh] at hq; exact hq
def cVal18 : Con
  | [.str s], H, K => Lf (s.length ≤ 1000000) ∧ ∀ b, Lf (b = fingM s) → K (.ret (.bool b)) H
  | _, _, _ => False
theorem valid18_ok : ValidF Tryz.prog gl0 18 cVal18 := by
  refine valid_flat (enters_of (by kernel_rfl)) gl0_noY fun args H Q hc => ?_
  unfold cVal18 at hc
  split at hc
  · rename_i s
    obtain ⟨⟨h1⟩, hq⟩ := hc
    obtain ⟨hv, hb', h⟩ := valid18_run s h1 (Q := fun o H' _ => H' = [] ∧ (∃ v, o = .ret v ∧ old 0 v = true ∧ noY v = true) ∧ Q o H) ⟨rfl, ⟨_, rfl, rfl, rfl⟩, hq _ ⟨rfl⟩⟩
    exact ⟨rfl, rfl, _, 1000, envFor18 smVa_ok _ _ _, rfl, h⟩
  · exact hc.elim
end Go.Proofs.YtifjpcdpmimccaaGreatDoor

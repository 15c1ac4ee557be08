/-
  Chapter 18: BadgeKnown's run.
-/
import Derived.Test.YtifjpcdpmimccaaGreatDoorB18KA
import Derived.Test.YtifjpcdpmimccaaGreatDoorB18BB
import Derived.Test.YtifjpcdpmimccaaGreatDoorBmJ
set_option linter.unusedSimpArgs false
set_option linter.unusedVariables false
set_option linter.unusedSectionVars false
namespace Go.Proofs.YtifjpcdpmimccaaGreatDoor
open Go.RowKit
set_option maxRecDepth 1000000

theorem kD {x : List UInt8} {F K : Prop} (hx : x.length ≤ 1000000) (h : (decBM x).2.2.2.2.2 = 5) (hK : K) : Lf (x.length ≤ 1000000) ∧ ∀ (n k : List UInt8) (f u m e : Int), Lf (decBM x = (n, k, f, u, m, e)) → (bif e != 5 then F else K) := by
  refine ⟨⟨hx⟩, ?_⟩
  rintro n k f u m e ⟨g⟩
  rw [g] at h
  obtain rfl : e = 5 := h
  exact bF rfl hK
theorem kC {x : List UInt8} {F K : Prop} (hx : x.length ≤ 9223372036854775807) (h : ¬ fingM x = true) (hK : K) : Lf (x.length ≤ 9223372036854775807) ∧ ∀ e : Int, Lf (e = ckpM x) → (bif e != 5 then F else K) := by
  refine ⟨⟨hx⟩, ?_⟩
  rintro e ⟨g⟩
  exact bF (by rw [g, ckpM, if_neg h]; rfl) hK
theorem kP {x p : List UInt8} {F G K : Prop} (hp : fingM p = true) (hx : x.length ≤ 9223372036854775807) (h : ¬ fingM x = true) (hK : K) : bif eqB x p then G else (Lf (x.length ≤ 9223372036854775807) ∧ ∀ e : Int, Lf (e = ckpM x) → (bif e != 5 then F else K)) := by
  refine bF ?_ (kC hx h hK)
  rw [← Bool.not_eq_true]
  intro he
  rw [eqB_iff, beq_iff_eq] at he
  rw [he] at h
  exact h hp
theorem kH {n k : List UInt8} {f u m : Int} {F K : Prop} (hn : n.length ≤ 9223372036854775807) (h : rightBM n k f u m = false) (hK : K) : Lf (n.length ≤ 9223372036854775807) ∧ ∀ e : Int, Lf (e = chkM n k f u m) → (bif e != 180 then F else K) := by
  refine ⟨⟨hn⟩, ?_⟩
  rintro e ⟨g⟩
  exact bF (by rw [g, chkM, h]; rfl) hK
theorem fing_len {s : List UInt8} (h : fingM s = true) : s.length = 103 := by
  obtain ⟨h1, _, h2, _⟩ := (fing_iff s).1 h
  rw [List.length_drop] at h2
  omega
theorem fing_ch {s : List UInt8} (h : fingM s = true) (j : Nat) (hj : j < 95) : chOk j (s.getD (8 + j) 0) = true := by
  obtain ⟨_, _, _, h3⟩ := (fing_iff s).1 h
  have := h3 j hj
  rwa [drop_getD] at this
theorem put_at {p q : List UInt8} {i : Nat} {c : UInt8} (hi : i ≤ p.length) : (((p.take i) ++ [c]) ++ q).getD i 0 = c := by
  rw [List.append_assoc, List.getD_eq_getElem?_getD, List.getElem?_append_right (by rw [List.length_take]; omega), List.length_take, Nat.min_eq_left hi, Nat.sub_self]
  rfl
theorem rightS4 : rightBM nS kS 1 2 4 = true := by decide
theorem wrong0 : rightBM [] [] 0 0 0 = false := by decide
theorem known_match {p q : List UInt8} (hp : shB nS kS 1 2 3 = p) (fp : fingM p = true) (fq : fingM q = true) :
    matchM nS kS 1 2 3 [q, p] = (bif eqB p q then (0, 0) else (1, 0)) ∧ matchM nS kS 1 2 3 [] = (0, 4) ∧ matchM nS kS 1 2 3 [p, [115, 104, 97, 45, 50, 53, 54]] = (0, 5) ∧ matchM nS kS 1 2 3 [p] = (0, 0) := by
  refine ⟨?_, ?_, ?_, ?_⟩
  · rw [matchM, if_pos rightS, if_neg (by simp), if_pos (by simp [fp, fq]), hp]
    simp only [List.findIdx?_cons, eqB_refl]
    cases eqB p q <;> rfl
  · rw [matchM, if_pos rightS, if_neg (by simp), if_pos (by rfl)]; rfl
  · rw [matchM, if_pos rightS, if_neg (by simp), if_neg (fun h => by
      rw [List.all_eq_true] at h
      exact absurd (h [115, 104, 97, 45, 50, 53, 54] (by simp)) (by decide))]
  · rw [matchM, if_pos rightS, if_neg (by simp), if_pos (by simp [fp]), hp]
    simp [List.findIdx?_cons, eqB_refl]
theorem knT0_ok {p s : List UInt8} {Q : Out → List Blk → Gh → Prop} (hp : shB nS kS 1 2 3 = p) (fp : fingM p = true) (hs : s.length = 86) (hq : Q (.ret (.bool true)) [] {}) {n : List UInt8} (hn : n = [97, 46, 45, 46, 45, 46, 45, 46, 45, 46, 45, 46, 45, 46, 45, 46, 45, 46, 45, 46, 45, 46, 45, 46, 45, 46, 45, 46, 45, 46, 45, 98]) : knT0 5 3 180 p 0 0 s 0 n (repM [UInt8.ofNat 7] 32) 1099511627776 1099511627776 281474976710655 Q := by
  obtain ⟨_, m2, _, m4⟩ := known_match (q := p) hp fp fp
  have hl : ∀ s ∈ [p], s.length ≤ 9223372036854775807 := fun s h => by
    rw [List.mem_singleton] at h
    subst h
    have := fing_len fp
    omega
  unfold knT0
  refine bT rfl (bT rfl (bT rfl ⟨[p], ⟨⟨rfl, rfl⟩, by decide, hl⟩, ?_⟩))
  rintro e ⟨rfl⟩
  refine bT (by rw [accM, m4]; rfl) ⟨[p], ⟨⟨rfl, rfl⟩, by decide, hl⟩, ?_⟩
  rintro e ⟨rfl⟩
  refine bT (by rw [accM, m4]; rfl) ⟨[], ⟨⟨rfl, rfl⟩, by decide, fun s h => by cases h⟩, ?_⟩
  rintro e ⟨rfl⟩
  refine bT (by rw [accM, m2]; rfl) ⟨[p], ⟨⟨rfl, rfl⟩, by decide, hl⟩, ?_⟩
  rintro e ⟨rfl⟩
  refine bT (by rw [accM, m4]; rfl) ⟨[p], ⟨⟨rfl, rfl⟩, by decide, hl⟩, ?_⟩
  rintro e ⟨rfl⟩
  refine bT (by rw [accM, m4]; rfl) (bT rfl (bT rfl ⟨_, rfl, bT (by rw [hs]; rfl) (bT rfl (bT ?_ hq))⟩))
  subst hn
  decide
theorem known_run (Q : Out → List Blk → Gh → Prop) (hq : Q (.ret (.bool true)) [] {}) : ∃ hv hb, goal_8 hv hb Q := by
  obtain ⟨hv', hb', e'⟩ : ∃ hv hb, goal_8 hv hb Q = _ := ⟨_, _, vc_8 Q⟩
  refine ⟨hv', hb', e'.mpr ?_⟩
  clear e'
  have hS : prtM nS kS 1 2 3 = (shB nS kS 1 2 3, 0) := by rw [prtM, if_pos rightS]; rfl
  have hS4 : prtM nS kS 1 2 4 = (shB nS kS 1 2 4, 0) := by rw [prtM, if_pos rightS4]; rfl
  generalize hp : shB nS kS 1 2 3 = p at hS
  generalize hr : shB nS kS 1 2 4 = r at hS4
  have sl : p.length = 103 := hp ▸ shown_len (sumS_len _)
  have rl : r.length = 103 := hr ▸ shown_len (sumS_len _)
  have sf : fingM p = true := hp ▸ shown_fing (sumS_len _)
  have rf : fingM r = true := hr ▸ shown_fing (sumS_len _)
  obtain ⟨m1, m2, m3, m4⟩ := known_match hp sf rf
  have nl : nS.length ≤ 9223372036854775807 := by decide
  refine ⟨⟨nl⟩, ?_⟩
  rintro s0 e1 ⟨h⟩
  rw [hS] at h
  obtain ⟨rfl, rfl⟩ := Prod.mk.inj h
  refine ⟨⟨nl⟩, ?_⟩
  rintro s2 e3 ⟨h⟩
  rw [hS4] at h
  obtain ⟨rfl, rfl⟩ := Prod.mk.inj h
  refine ⟨[r, p], ⟨⟨rfl, rfl⟩, nl, fun s h => by
    simp only [List.mem_cons, List.not_mem_nil, or_false] at h
    rcases h with rfl | rfl <;> omega⟩, ?_⟩
  rintro i5 e6 ⟨h5⟩
  rw [m1] at h5
  refine ⟨[], ⟨⟨rfl, rfl⟩, nl, fun s h => by cases h⟩, ?_⟩
  rintro i8 e9 ⟨h8⟩
  rw [m2] at h8
  obtain ⟨rfl, rfl⟩ := Prod.mk.inj h8
  refine ⟨[p, [115, 104, 97, 45, 50, 53, 54]], ⟨⟨rfl, rfl⟩, nl, fun s h => by
    simp only [List.mem_cons, List.not_mem_nil, or_false] at h
    rcases h with rfl | rfl
    · omega
    · decide⟩, ?_⟩
  rintro i11 e12 ⟨h11⟩
  rw [m3] at h11
  obtain ⟨rfl, rfl⟩ := Prod.mk.inj h11
  have nine : ∀ s ∈ List.replicate 9 [(120 : UInt8)], s.length ≤ 9223372036854775807 := fun s h => by
    rw [List.eq_of_mem_replicate h]; decide
  refine ⟨List.replicate 9 [120], ⟨⟨rfl, rfl⟩, nl, nine⟩, ?_⟩
  rintro i14 e15 ⟨h14⟩
  rw [matchM, if_pos rightS, if_pos (by simp)] at h14
  obtain ⟨rfl, rfl⟩ := Prod.mk.inj h14
  refine ⟨List.replicate 9 [120], ⟨⟨rfl, rfl⟩, by decide, nine⟩, ?_⟩
  rintro i17 e18 ⟨h17⟩
  rw [matchM, if_neg (by rw [wrong0]; exact fun h => by cases h)] at h17
  obtain ⟨rfl, rfl⟩ := Prod.mk.inj h17
  refine bF rfl (bF rfl ⟨_, rfl, bF (by rw [sl]; rfl) ⟨⟨by decide, by decide⟩, ?_⟩⟩)
  rintro x20 ⟨hx⟩
  have x20l : x20.length ≤ 1000000 := by rw [hx]; decide
  have x20d : (decBM x20).2.2.2.2.2 = 5 := by rw [hx]; decide
  refine kD (by decide) (by decide) (kD (by decide) (by decide) (kD (by decide) (by decide) (kD (by decide) (by decide) (kD (by decide) (by decide) (kD (by decide) (by decide) (kD (by decide) (by decide) (kD (by decide) (by decide) (kD x20l x20d ?_))))))))
  refine ckI (by rw [sl]; rfl) ⟨p.take 102, rfl, ckI (by rw [sl]; rfl) ⟨p ++ [58], rfl, ckI (by rw [sl]; rfl) ⟨p.take 10, rfl, ckI ?_ ⟨p.take 10 ++ [59], rfl, ckI (by rw [sl]; rfl) ⟨(p.drop 11).take (p.length - 11), rfl, ckI ?_ ⟨(p.take 10 ++ [59]) ++ (p.drop 11).take (p.length - 11), rfl,
    ckI (by rw [sl]; rfl) ⟨p.take 8, rfl, ckI ?_ ⟨p.take 8 ++ [103], rfl, ckI (by rw [sl]; rfl) ⟨(p.drop 9).take (p.length - 9), rfl, ckI ?_ ⟨(p.take 8 ++ [103]) ++ (p.drop 9).take (p.length - 9), rfl, ckI (by rw [sl]; rfl) ⟨[32] ++ p, rfl, ckI (by rw [sl]; rfl) ⟨(p.drop 7).take (p.length - 7), rfl, ckI ?_ ⟨[115, 104, 97, 45, 50, 53, 53] ++ (p.drop 7).take (p.length - 7), rfl, ?_⟩⟩⟩⟩⟩⟩⟩⟩⟩⟩⟩⟩⟩
  case refine_6 =>
    have lenE : ∀ a : List UInt8, a.length ≤ 1000 → a.length ≤ 9223372036854775807 := fun a h => by omega
    refine kP sf (by decide) (by decide) (kP sf (by decide) (by decide) (kP sf (lenE _ (by simp [sl])) (fun h => ?_) (kP sf (lenE _ (by simp [sl])) (fun h => ?_) (kP sf (lenE _ (by simp [sl])) (fun h => ?_) (kP sf (lenE _ (by simp [sl])) (fun h => ?_) (kP sf (lenE _ (by simp [sl])) (fun h => ?_) (kP sf (lenE _ (by simp [sl])) (fun h => ?_) ?_)))))))
    · have := fing_len h; simp [sl] at this
    · have := fing_len h; simp [sl] at this
    · have := fing_ch h 2 (by omega)
      rw [put_at (by omega)] at this
      exact absurd this (by decide)
    · have := fing_ch h 0 (by omega)
      rw [put_at (by omega)] at this
      exact absurd this (by decide)
    · have := fing_len h; simp [sl] at this
    · have := ((fing_iff _).1 h).2.1
      rw [eqB_iff, beq_iff_eq] at this
      have h6 := congrArg (fun l : List UInt8 => l.getD 6 0) this
      have h7 : (53 : UInt8) = 54 := h6
      exact absurd h7 (by decide)
    · refine kH (by decide) (by decide) (kH (by decide) (by decide) (kH (by decide) (by decide) (kH (by decide) (by decide) (kH (by decide) (by decide) (kH (by decide) (by decide) (kH (by decide) (by decide) (kH (by decide) (by decide) (kH (by decide) (by decide) (kH (by decide) (by decide) (kH (by decide) (by decide) (kH (by decide) (by decide) ⟨⟨by decide⟩, ?_⟩)))))))))))
      have rg : rightBM [97, 46, 45, 46, 45, 46, 45, 46, 45, 46, 45, 46, 45, 46, 45, 46, 45, 46, 45, 46, 45, 46, 45, 46, 45, 46, 45, 46, 45, 46, 45, 98] (repM [7] 32) 1099511627776 1099511627776 281474976710655 = true := by decide
      rintro s e ⟨h⟩
      have h2 : encBM [97, 46, 45, 46, 45, 46, 45, 46, 45, 46, 45, 46, 45, 46, 45, 46, 45, 46, 45, 46, 45, 46, 45, 46, 45, 46, 45, 46, 45, 46, 45, 98] (repM [7] 32) 1099511627776 1099511627776 281474976710655 = (s, e) := h
      rw [encBM, if_pos rg] at h2
      obtain ⟨rfl, rfl⟩ := Prod.mk.inj h2
      have l86 : (octBM [97, 46, 45, 46, 45, 46, 45, 46, 45, 46, 45, 46, 45, 46, 45, 46, 45, 46, 45, 46, 45, 46, 45, 46, 45, 46, 45, 46, 45, 46, 45, 98] (repM [7] 32) 1099511627776 1099511627776 281474976710655).length = 86 := by rw [octB_len]; rfl
      refine ⟨⟨by omega⟩, ?_⟩
      rintro n k f u m e ⟨h⟩
      rw [dec_oct rg] at h
      simp only [Prod.mk.injEq] at h
      obtain ⟨rfl, rfl, rfl, rfl, rfl, rfl⟩ := h
      refine bT rfl ?_
      cases he : eqB p r with
      | true =>
        rw [he] at h5
        obtain ⟨rfl, rfl⟩ := Prod.mk.inj h5
        exact bT rfl (bT rfl (knT0_ok hp sf l86 hq rfl))
      | false =>
        rw [he] at h5
        obtain ⟨rfl, rfl⟩ := Prod.mk.inj h5
        exact bF rfl (bT (eqB_refl _) (bT rfl (knT0_ok hp sf l86 hq rfl)))
  all_goals simp [sl]
end Go.Proofs.YtifjpcdpmimccaaGreatDoor

/-
  Chapter 18: BadgeMatches' run.
-/
import Derived.Test.YtifjpcdpmimccaaGreatDoorB18FC
import Derived.Test.YtifjpcdpmimccaaGreatDoorBnL
set_option linter.unusedSimpArgs false
set_option linter.unusedVariables false
set_option linter.unusedSectionVars false
namespace Go.Proofs.YtifjpcdpmimccaaGreatDoor
open Go.RowKit
set_option maxRecDepth 1000000

theorem accK {n k : List UInt8} {f u m t : Int} {l : List (List UInt8)} {F K : Prop} (hn : n.length ≤ 9223372036854775807) (hl : ∀ s ∈ l, s.length ≤ 100000) (hK : K) :
    ∃ l' : List (List UInt8), Lf ((cellsSM l = cellsSM l' ∧ l.length = l'.length) ∧ n.length ≤ 9223372036854775807 ∧ ∀ s ∈ l', s.length ≤ 9223372036854775807) ∧ ∀ e : Int, Lf (e = accM n k f u m l' t) →
      (bif (eqAVL [AV.str n, .str k, .int .i64 f, .int .i64 u, .int .i64 m] [AV.str n, .str k, .int .i64 f, .int .i64 u, .int .i64 m] && true) then
        (∃ l'' : List (List UInt8), Lf ((cellsSM l = cellsSM l'' ∧ l.length = l''.length) ∧ ∀ s ∈ l'', s.length ≤ 1000000) ∧ ∀ e' : Int, Lf (e' = accM n k f u m l'' t) → (bif e != e' then F else K)) else False) := by
  refine ⟨l, ⟨⟨rfl, rfl⟩, hn, fun s hs => by have := hl s hs; omega⟩, ?_⟩
  rintro e ⟨rfl⟩
  refine ckI (eq_bdg _ _ _ _ _) ⟨l, ⟨⟨rfl, rfl⟩, fun s hs => by have := hl s hs; omega⟩, ?_⟩
  rintro e ⟨rfl⟩
  exact bF (by rw [bne_self_eq_false]) hK
theorem matchK {n k : List UInt8} {f u m : Int} {l : List (List UInt8)} {F K : Prop} (hn : n.length ≤ 9223372036854775807) (hl : ∀ s ∈ l, s.length ≤ 100000) (hK : K) :
    ∃ l' : List (List UInt8), Lf ((cellsSM l = cellsSM l' ∧ l.length = l'.length) ∧ n.length ≤ 9223372036854775807 ∧ ∀ s ∈ l', s.length ≤ 9223372036854775807) ∧ ∀ i e : Int, Lf (matchM n k f u m l' = (i, e)) →
        (∃ l'' : List (List UInt8), Lf ((cellsSM l = cellsSM l'' ∧ l.length = l''.length) ∧ ∀ s ∈ l'', s.length ≤ 1000000) ∧ ∀ i' e' : Int, Lf (matchM n k f u m l'' = (i', e')) → (bif i != i' then F else bif e != e' then F else K)) := by
  refine ⟨l, ⟨⟨rfl, rfl⟩, hn, fun s hs => by have := hl s hs; omega⟩, ?_⟩
  rintro i e ⟨h⟩
  refine ⟨l, ⟨⟨rfl, rfl⟩, fun s hs => by have := hl s hs; omega⟩, ?_⟩
  rintro i' e' ⟨h'⟩
  obtain ⟨rfl, rfl⟩ := Prod.mk.inj (h.symm.trans h')
  exact bF (by rw [bne_self_eq_false]) (bF (by rw [bne_self_eq_false]) hK)
theorem matches_run (d : List UInt8) (ky fr af nu : Int) (w v : Int) (s : List UInt8) (l : List Dr) (at' a b : Int) (c : List UInt8) (now small : Int) (hd : d.length ≤ 9223372036854775807) (hf : 0 ≤ fr ∧ fr ≤ 65535) (hf2 : 0 ≤ af ∧ af ≤ 65535) (hnu : 0 ≤ nu ∧ nu ≤ 4294967295) (hl : ∀ x ∈ l, okDr x)
    (hat : 0 ≤ at' ∧ at' ≤ 255) (ha : 0 ≤ a ∧ a ≤ 255) (hb : 0 ≤ b ∧ b ≤ 255) (Q : Out → List Blk → Gh → Prop) (hq : Q (.ret (.bool true)) [] {}) : ∃ hv hb, goal_7 hv hb d ky fr af nu w v s l at' a b c now small Q := by
  obtain ⟨hv', hb', e'⟩ : ∃ hv hb, goal_7 hv hb d ky fr af nu w v s l at' a b c now small Q = _ := ⟨_, _, vc_7 d ky fr af nu w v s l at' a b c now small Q⟩
  refine ⟨hv', hb', e'.mpr ?_⟩
  clear e'
  refine ⟨d, ⟨⟨rfl, rfl⟩, hd, hf, hf2, hnu⟩, ?_⟩
  rintro n1 k1 f1 u1 m1 ⟨r1⟩ n2 k2 f2 u2 m2 _
  refine ckI (eq_bdg _ _ _ _ _) ?_
  rintro n3 k3 ⟨rfl, rfl⟩
  refine ckI (eq_bdg _ _ _ _ _) ⟨⟨r1⟩, ?_⟩
  rintro s1 ⟨h1⟩
  have hs1 : s1.length = 103 := by rw [h1]; exact shown_len (sumS_len _)
  have hn := ((name_iff n1).1 ((right_iff _ _ _ _ _).1 r1).1).2.1
  have l2 := few_len n2
  refine ckI (by simp [eqAVL, eqAV, eqB_refl]) ⟨l, ⟨⟨rfl, rfl⟩, hl, by omega, hat, ha, hb⟩, ?_⟩
  rintro l0 l1 l2' ⟨hs⟩
  have q0 : ∀ s ∈ l0, s.length ≤ 100000 := fun s h => hs s (.inl h)
  have q1 : ∀ s ∈ l1, s.length ≤ 100000 := fun s h => hs s (.inr (.inl h))
  have q2 : ∀ s ∈ l2', s.length ≤ 100000 := fun s h => hs s (.inr (.inr h))
  have hn1 : n1.length ≤ 9223372036854775807 := by omega
  have hn2 : (few60 n2).length ≤ 9223372036854775807 := by omega
  refine matchK hn1 q0 ⟨_, rfl, _, rfl, _, rfl, _, rfl, _, rfl, _, rfl, _, rfl, _, rfl, accK hn1 q0 (accK hn1 q0 (accK hn1 q0 ?_))⟩
  refine matchK hn1 q1 ⟨_, rfl, _, rfl, _, rfl, _, rfl, _, rfl, _, rfl, _, rfl, _, rfl, accK hn1 q1 (accK hn1 q1 (accK hn1 q1 ?_))⟩
  refine matchK hn1 q2 ⟨_, rfl, _, rfl, _, rfl, _, rfl, _, rfl, _, rfl, _, rfl, _, rfl, accK hn1 q2 (accK hn1 q2 (accK hn1 q2 ?_))⟩
  refine ⟨⟨r1⟩, ?_⟩
  rintro s2 ⟨h2⟩
  have hs2 : s2.length = 103 := by rw [h2]; exact shown_len (sumS_len _)
  refine ckI (by simp [eqAVL, eqAV, eqB_refl]) ⟨l, ⟨⟨rfl, rfl⟩, hl, by omega, hat, ha, hb⟩, ?_⟩
  clear hs q0 q1 q2
  rintro l0 l1 l2' ⟨hs⟩
  have q0 : ∀ s ∈ l0, s.length ≤ 100000 := fun s h => hs s (.inl h)
  have q1 : ∀ s ∈ l1, s.length ≤ 100000 := fun s h => hs s (.inr (.inl h))
  have q2 : ∀ s ∈ l2', s.length ≤ 100000 := fun s h => hs s (.inr (.inr h))
  refine matchK hn2 q0 ⟨_, rfl, _, rfl, _, rfl, _, rfl, _, rfl, _, rfl, _, rfl, _, rfl, accK hn2 q0 (accK hn2 q0 (accK hn2 q0 ?_))⟩
  refine matchK hn2 q1 ⟨_, rfl, _, rfl, _, rfl, _, rfl, _, rfl, _, rfl, _, rfl, _, rfl, accK hn2 q1 (accK hn2 q1 (accK hn2 q1 ?_))⟩
  exact matchK hn2 q2 ⟨_, rfl, _, rfl, _, rfl, _, rfl, _, rfl, _, rfl, _, rfl, _, rfl, accK hn2 q2 (accK hn2 q2 (accK hn2 q2 hq))⟩
end Go.Proofs.YtifjpcdpmimccaaGreatDoor

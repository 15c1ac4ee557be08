/-
  Chapter 18: BadgeBack's run.
-/
import Derived.Test.YtifjpcdpmimccaaGreatDoorB18BA
set_option linter.unusedSimpArgs false
set_option linter.unusedVariables false
set_option linter.unusedSectionVars false
namespace Go.Proofs.YtifjpcdpmimccaaGreatDoor
open Go.RowKit
set_option maxRecDepth 1000000

theorem eq5 {n1 k1 n2 k2 : List UInt8} {f1 u1 m1 f2 u2 m2 : Int} : (eqB n1 n2 && (eqB k1 k2 && (f1 == f2 && (u1 == u2 && (m1 == m2 && true))))) = true ↔ n1 = n2 ∧ k1 = k2 ∧ f1 = f2 ∧ u1 = u2 ∧ m1 = m2 := by
  simp only [Bool.and_eq_true, beq_iff_eq, eqB_iff, and_true]
theorem backT {n1 k1 n2 k2 : List UInt8} {f1 u1 m1 f2 u2 m2 : Int} (r1 : rightBM n1 k1 f1 u1 m1 = true) (r2 : rightBM n2 k2 f2 u2 m2 = true) {F T : Prop} (hT : T) :
    Lf (n1.length ≤ 9223372036854775807) ∧ ∀ (s20 : List UInt8) (e21 : Int), Lf (encBM n1 k1 f1 u1 m1 = (s20, e21)) → Lf (n2.length ≤ 9223372036854775807) ∧ ∀ (s22 : List UInt8) (e23 : Int), Lf (encBM n2 k2 f2 u2 m2 = (s22, e23)) → Lf (s20.length ≤ 1000000) ∧ ∀ (a1 a2 : List UInt8) (a3 a4 a5 e29 : Int), Lf (decBM s20 = (a1, a2, a3, a4, a5, e29)) → Lf (s22.length ≤ 1000000) ∧ ∀ (b1 b2 : List UInt8) (b3 b4 b5 e35 : Int), Lf (decBM s22 = (b1, b2, b3, b4, b5, e35)) →
    Lf (n1.length ≤ 9223372036854775807) ∧ ∀ (s36 : List UInt8) (e37 : Int), Lf (prtM n1 k1 f1 u1 m1 = (s36, e37)) → Lf (n2.length ≤ 9223372036854775807) ∧ ∀ (s38 : List UInt8) (e39 : Int), Lf (prtM n2 k2 f2 u2 m2 = (s38, e39)) →
    (bif e21 == 0 then (bif e23 == 0 then (bif e29 == 0 then (bif e35 == 0 then (bif e37 == 0 then (bif e39 == 0 then (bif eqB a1 n1 && (eqB a2 k1 && (a3 == f1 && (a4 == u1 && (a5 == m1 && true)))) then (bif eqB b1 n2 && (eqB b2 k2 && (b3 == f2 && (b4 == u2 && (b5 == m2 && true)))) then
      (bif eqB s20 s22 then (bif eqB n1 n2 && (eqB k1 k2 && (f1 == f2 && (u1 == u2 && (m1 == m2 && true)))) then (bif eqB s36 s38 then (Lf (s36.length ≤ 9223372036854775807) ∧ ∀ e40 : Int, Lf (e40 = ckpM s36) → (bif e40 == 0 then T else F)) else (bif !(eqB s20 s22) then (Lf (s36.length ≤ 9223372036854775807) ∧ ∀ e40 : Int, Lf (e40 = ckpM s36) → (bif e40 == 0 then T else F)) else F)) else F)
      else (bif eqB n1 n2 && (eqB k1 k2 && (f1 == f2 && (u1 == u2 && (m1 == m2 && true)))) then F else (bif eqB s36 s38 then (Lf (s36.length ≤ 9223372036854775807) ∧ ∀ e40 : Int, Lf (e40 = ckpM s36) → (bif e40 == 0 then T else F)) else (bif !(eqB s20 s22) then (Lf (s36.length ≤ 9223372036854775807) ∧ ∀ e40 : Int, Lf (e40 = ckpM s36) → (bif e40 == 0 then T else F)) else F)))) else F) else F) else F) else F) else F) else F) else F) else F) := by
  have l1 := ((name_iff n1).1 ((right_iff _ _ _ _ _).1 r1).1).2.1
  have l2 := ((name_iff n2).1 ((right_iff _ _ _ _ _).1 r2).1).2.1
  have q1 := ((right_iff _ _ _ _ _).1 r1).2.1
  have q2 := ((right_iff _ _ _ _ _).1 r2).2.1
  have o1 := octB_len n1 k1 f1 u1 m1
  have o2 := octB_len n2 k2 f2 u2 m2
  refine ⟨⟨by omega⟩, ?_⟩
  rintro s20 e21 ⟨h⟩
  rw [encBM, if_pos r1] at h
  obtain ⟨rfl, rfl⟩ := Prod.mk.inj h
  refine ⟨⟨by omega⟩, ?_⟩
  rintro s22 e23 ⟨h⟩
  rw [encBM, if_pos r2] at h
  obtain ⟨rfl, rfl⟩ := Prod.mk.inj h
  refine ⟨⟨by omega⟩, ?_⟩
  rintro a1 a2 a3 a4 a5 e29 ⟨h⟩
  rw [dec_oct r1] at h
  simp only [Prod.mk.injEq] at h
  obtain ⟨rfl, rfl, rfl, rfl, rfl, rfl⟩ := h
  refine ⟨⟨by omega⟩, ?_⟩
  rintro b1 b2 b3 b4 b5 e35 ⟨h⟩
  rw [dec_oct r2] at h
  simp only [Prod.mk.injEq] at h
  obtain ⟨rfl, rfl, rfl, rfl, rfl, rfl⟩ := h
  refine ⟨⟨by omega⟩, ?_⟩
  rintro s36 e37 ⟨h⟩
  rw [prtM, if_pos r1] at h
  obtain ⟨rfl, rfl⟩ := Prod.mk.inj h
  refine ⟨⟨by omega⟩, ?_⟩
  rintro s38 e39 ⟨h⟩
  rw [prtM, if_pos r2] at h
  obtain ⟨rfl, rfl⟩ := Prod.mk.inj h
  have c : Lf ((shownM (sumSM (octBM n1 k1 f1 u1 m1))).length ≤ 9223372036854775807) ∧ ∀ e40 : Int, Lf (e40 = ckpM (shownM (sumSM (octBM n1 k1 f1 u1 m1)))) → (bif e40 == 0 then T else F) := by
    refine ⟨⟨by rw [shown_len (sumS_len _)]; decide⟩, ?_⟩
    rintro e40 ⟨rfl⟩
    exact bT (by rw [ckpM, if_pos (shown_fing (sumS_len _))]; rfl) hT
  refine bT rfl (bT rfl (bT rfl (bT rfl (bT rfl (bT rfl (bT (eq5.2 ⟨rfl, rfl, rfl, rfl, rfl⟩) (bT (eq5.2 ⟨rfl, rfl, rfl, rfl, rfl⟩) ?_)))))))
  cases he : eqB (octBM n1 k1 f1 u1 m1) (octBM n2 k2 f2 u2 m2) with
  | true =>
    have he' := he
    rw [eqB_iff, beq_iff_eq] at he'
    have e1 := dec_oct r1
    rw [he', dec_oct r2] at e1
    simp only [Prod.mk.injEq] at e1
    obtain ⟨x1, x2, x3, x4, x5, _⟩ := e1
    refine bT rfl (bT (eq5.2 ⟨x1.symm, x2.symm, x3.symm, x4.symm, x5.symm⟩) (bT ?_ c))
    rw [he']; exact eqB_refl _
  | false =>
    refine bF rfl (bF ?_ ?_)
    · rw [← Bool.not_eq_true, eq5]
      rintro ⟨rfl, rfl, rfl, rfl, rfl⟩
      rw [eqB_refl] at he
      cases he
    · cases hs : eqB (shownM (sumSM (octBM n1 k1 f1 u1 m1))) (shownM (sumSM (octBM n2 k2 f2 u2 m2))) with
      | true => exact bT rfl c
      | false => exact bF rfl (bT rfl c)
theorem eqAVL_bytes : ∀ c : List UInt8, eqAVL (ofBytes c) (ofBytes c) = true
  | [] => rfl
  | a :: t => by
    have := eqAVL_bytes t
    rw [show ofBytes (a :: t) = AV.int .u8 (a.toNat : Int) :: ofBytes t from rfl, eqAVL, this]
    simp [eqAV]
theorem back_run (d c : List UInt8) (ky fr af nu ky2 fr2 af2 nu2 a v : Int) (s : List UInt8) (hd : d.length ≤ 9223372036854775807) (hf : 0 ≤ fr ∧ fr ≤ 65535) (hf2 : 0 ≤ af ∧ af ≤ 65535) (hnu : 0 ≤ nu ∧ nu ≤ 4294967295)
    (hc : c.length ≤ 9223372036854775807) (gf : 0 ≤ fr2 ∧ fr2 ≤ 65535) (gf2 : 0 ≤ af2 ∧ af2 ≤ 65535) (gnu : 0 ≤ nu2 ∧ nu2 ≤ 4294967295) (Q : Out → List Blk → Gh → Prop) (hq : Q (.ret (.bool true)) [] {}) : ∃ hv hb, goal_4 hv hb d c ky fr af nu ky2 fr2 af2 nu2 a v s Q := by
  obtain ⟨hv', hb', e'⟩ : ∃ hv hb, goal_4 hv hb d c ky fr af nu ky2 fr2 af2 nu2 a v s Q = _ := ⟨_, _, vc_4 d c ky fr af nu ky2 fr2 af2 nu2 a v s Q⟩
  refine ⟨hv', hb', e'.mpr ?_⟩
  clear e'
  refine ⟨d, ⟨⟨rfl, rfl⟩, hd, hf, hf2, hnu⟩, ?_⟩
  rintro n k f u m ⟨r1⟩
  refine ckI (by simp [eqAVL, eqAV, eqAVL_bytes]) ⟨c, ⟨⟨rfl, rfl⟩, hc, gf, gf2, gnu⟩, ?_⟩
  rintro n7 k8 f9 u10 m11 ⟨r2⟩ n' k' f' u' m' _ n2 k2 ⟨rfl, rfl⟩
  refine ⟨⟨by have := few_len n'; omega⟩, ?_⟩
  rintro e ⟨h⟩
  refine splitE (fun h0 => ?_) (fun h0 => ?_)
  · have r3 : rightBM (few60 n') (few60 k') f' u' m' = true := by
      rw [h, chkM] at h0
      by_cases g : rightBM (few60 n') (few60 k') f' u' m' = true
      · exact g
      · rw [if_neg g] at h0; cases h0
    exact backT r1 r3 hq
  · exact backT r1 r2 hq
end Go.Proofs.YtifjpcdpmimccaaGreatDoor

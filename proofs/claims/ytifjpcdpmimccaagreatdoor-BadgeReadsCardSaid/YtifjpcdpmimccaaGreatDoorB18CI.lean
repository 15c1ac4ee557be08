/-
  Chapter 18: BadgeReads' run.
-/
import Derived.Test.YtifjpcdpmimccaaGreatDoorB18CH
import Derived.Test.YtifjpcdpmimccaaGreatDoorB18BB
set_option linter.unusedSimpArgs false
set_option linter.unusedVariables false
set_option linter.unusedSectionVars false
namespace Go.Proofs.YtifjpcdpmimccaaGreatDoor
open Go.RowKit
set_option maxRecDepth 1000000

theorem rdD {x : List UInt8} {F K : Prop} (hx : x.length ≤ 1000000) (hK : K) : Lf (x.length ≤ 1000000) ∧ ∀ (n k : List UInt8) (f u m e : Int), Lf (decBM x = (n, k, f, u, m, e)) → (Lf (x.length ≤ 1000000) ∧ ∀ (n' k' : List UInt8) (f' u' m' e' : Int), Lf (decBM x = (n', k', f', u', m', e')) →
    (bif !(eqB n n' && (eqB k k' && (f == f' && (u == u' && (m == m' && true))))) then F else (bif e != e' then F else K))) := by
  refine ⟨⟨hx⟩, ?_⟩
  rintro n k f u m e ⟨h⟩
  refine ⟨⟨hx⟩, ?_⟩
  rintro n' k' f' u' m' e' ⟨h'⟩
  rw [h] at h'
  simp only [Prod.mk.injEq] at h'
  obtain ⟨rfl, rfl, rfl, rfl, rfl, rfl⟩ := h'
  exact bF (by rw [eq5.2 ⟨rfl, rfl, rfl, rfl, rfl⟩]; rfl) (bF (by simp) hK)
theorem rdV {x : List UInt8} {F K : Prop} (hx : x.length ≤ 1000000) (hK : K) : Lf (x.length ≤ 9223372036854775807) ∧ ∀ e : Int, Lf (e = ckpM x) → (bif e == 0 then (Lf (x.length ≤ 1000000) ∧ ∀ b : Bool, Lf (b = fingM x) → (bif b then (Lf (x.length ≤ 9223372036854775807) ∧ ∀ e : Int, Lf (e = ckpM x) → (bif e != 0 then (Lf (x.length ≤ 9223372036854775807) ∧ ∀ e : Int, Lf (e = ckpM x) → (bif e != 5 then F else K)) else K)) else F))
    else (Lf (x.length ≤ 1000000) ∧ ∀ b : Bool, Lf (b = fingM x) → (bif b then F else (Lf (x.length ≤ 9223372036854775807) ∧ ∀ e : Int, Lf (e = ckpM x) → (bif e != 0 then (Lf (x.length ≤ 9223372036854775807) ∧ ∀ e : Int, Lf (e = ckpM x) → (bif e != 5 then F else K)) else K))))) := by
  have l : x.length ≤ 9223372036854775807 := by omega
  refine ⟨⟨l⟩, ?_⟩
  rintro e ⟨he⟩
  cases hf : fingM x with
  | true =>
    have e0 : ckpM x = 0 := by rw [ckpM, if_pos hf]
    refine bT (by rw [he, e0]; rfl) ⟨⟨hx⟩, ?_⟩
    rintro b ⟨hb⟩
    refine bT hb ⟨⟨l⟩, ?_⟩
    rintro e2 ⟨h2⟩
    exact bF (by rw [h2, e0]; rfl) hK
  | false =>
    have e5 : ckpM x = 5 := by rw [ckpM, hf]; rfl
    refine bF (by rw [he, e5]; rfl) ⟨⟨hx⟩, ?_⟩
    rintro b ⟨hb⟩
    refine bF hb ⟨⟨l⟩, ?_⟩
    rintro e2 ⟨h2⟩
    refine bT (by rw [h2, e5]; rfl) ⟨⟨l⟩, ?_⟩
    rintro e3 ⟨h3⟩
    exact bF (by rw [h3, e5]; rfl) hK
theorem rdT0_ok {x s : List UInt8} {Q : Out → List Blk → Gh → Prop} (hx : x.length ≤ 1000000) (hs : s.length ≤ 1000000) (hq : Q (.ret (.bool true)) [] {}) : rdT0 x Q s := by
  unfold rdT0
  exact rdV hx (rdV hs hq)
theorem eq_ed {a b : Int} {c : List UInt8} : (eqAVL [AV.int .u8 a, .int .u8 b, .str c] [AV.int .u8 a, .int .u8 b, .str c] && true) = true := by
  simp [eqAVL, eqAV, eqB_refl]
theorem reads_run (d r c1 c2 : List UInt8) (ky fr af nu a1 b1 a2 b2 : Int) (hd : d.length ≤ 9223372036854775807) (hf : 0 ≤ fr ∧ fr ≤ 65535) (hf2 : 0 ≤ af ∧ af ≤ 65535) (hnu : 0 ≤ nu ∧ nu ≤ 4294967295) (hr : r.length ≤ 9223372036854775807)
    (ha1 : 0 ≤ a1 ∧ a1 ≤ 255) (hb1 : 0 ≤ b1 ∧ b1 ≤ 255) (ha2 : 0 ≤ a2 ∧ a2 ≤ 255) (hb2 : 0 ≤ b2 ∧ b2 ≤ 255) (Q : Out → List Blk → Gh → Prop) (hq : Q (.ret (.bool true)) [] {}) : ∃ hv hb, goal_3 hv hb d r c1 c2 ky fr af nu a1 b1 a2 b2 Q := by
  obtain ⟨hv', hb', e'⟩ : ∃ hv hb, goal_3 hv hb d r c1 c2 ky fr af nu a1 b1 a2 b2 Q = _ := ⟨_, _, vc_3 d r c1 c2 ky fr af nu a1 b1 a2 b2 Q⟩
  refine ⟨hv', hb', e'.mpr ?_⟩
  clear e'
  have i1 := imin_le (r.length : Int) 100
  have i2 := imin_le (r.length : Int) 120
  refine ⟨d, ⟨⟨rfl, rfl⟩, hd, hf, hf2, hnu⟩, ?_⟩
  rintro n k f u m ⟨hb⟩
  refine ⟨⟨hb⟩, ?_⟩
  rintro s ⟨hs⟩
  have hn := ((name_iff n).1 ((right_iff _ _ _ _ _).1 hb).1).2.1
  have hk := ((right_iff _ _ _ _ _).1 hb).2.1
  have sl : s.length = 22 + n.length + k.length := by rw [hs, octB_len]
  refine ⟨_, rfl, _, rfl, ckI (by simp only [Bool.and_true, Bool.and_eq_true, decide_eq_true_eq, Nat.ble_eq]; omega) ⟨(r.drop 0).take ((imin (r.length : Int) 100).toNat - 0), rfl, ⟨ha1, hb1, by omega⟩, ?_⟩⟩
  have l9 : ((r.drop 0).take ((imin (r.length : Int) 100).toNat - 0)).length ≤ 1000000 := by rw [List.length_take]; omega
  rintro x10 ⟨h10⟩
  have e10 := ed_len a1 b1 c1 s
  rw [← h10] at e10
  refine ckI eq_ed (ckI eq_ed ⟨⟨ha1, hb1, by omega⟩, ?_⟩)
  rintro x11 ⟨h11⟩
  have e11 := ed_len a1 b1 c1 s
  rw [← h11] at e11
  refine ckI eq_ed ⟨⟨ha2, hb2, by omega⟩, ?_⟩
  rintro x12 ⟨h12⟩
  have e12 := ed_len a2 b2 c2 x11
  rw [← h12] at e12
  refine rdD (by omega) (rdD (by omega) (rdD (by omega) (rdD l9 ⟨_, rfl, wrapI (by omega) (by omega) (ckI (by simp only [Bool.and_true, Bool.and_eq_true, decide_eq_true_eq, Nat.ble_eq]; omega) ⟨(s.drop ((s.length : Int) - 32).toNat).take (s.length - ((s.length : Int) - 32).toNat), rfl, ⟨by rw [List.length_take]; omega⟩, ?_⟩)⟩)))
  rintro x64 ⟨h64⟩
  have l64 : x64.length ≤ 8 + 3 * 32 := by
    have := shown_le ((s.drop ((s.length : Int) - 32).toNat).take (s.length - ((s.length : Int) - 32).toNat))
    rw [← h64, List.length_take] at this
    omega
  refine ⟨_, rfl, _, rfl, ckI (by simp only [Bool.and_true, Bool.and_eq_true, decide_eq_true_eq, Nat.ble_eq]; omega) ⟨(r.drop 0).take ((imin (r.length : Int) 120).toNat - 0), rfl, ⟨ha1, hb1, by omega⟩, ?_⟩⟩
  have l67 : ((r.drop 0).take ((imin (r.length : Int) 120).toNat - 0)).length ≤ 1000000 := by rw [List.length_take]; omega
  rintro x68 ⟨h68⟩
  have e68 := ed_len a1 b1 c1 x64
  rw [← h68] at e68
  refine ckI eq_ed (ckI eq_ed ⟨⟨ha1, hb1, by omega⟩, ?_⟩)
  rintro x69 ⟨h69⟩
  have e69 := ed_len a1 b1 c1 x64
  rw [← h69] at e69
  refine ckI eq_ed ⟨⟨ha2, hb2, by omega⟩, ?_⟩
  rintro x70 ⟨h70⟩
  have e70 := ed_len a2 b2 c2 x69
  rw [← h70] at e70
  exact rdV (by omega) (rdV (by omega) (rdT0_ok (by omega) l67 hq))
end Go.Proofs.YtifjpcdpmimccaaGreatDoor

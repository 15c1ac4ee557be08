/-
  Chapter 18: BadgeTampers' run.
-/
import Derived.Test.YtifjpcdpmimccaaGreatDoorB18ZM
set_option linter.unusedSimpArgs false
set_option linter.unusedVariables false
set_option linter.unusedSectionVars false
namespace Go.Proofs.YtifjpcdpmimccaaGreatDoor
open Go.RowKit
set_option maxRecDepth 1000000

theorem bF {b : Bool} {A B : Prop} (h : b = false) (ha : B) : bif b then A else B := by
  rw [h]; exact ha
theorem roundT {x n1 k2 : List UInt8} {f3 u4 m5 : Int} {F K1 K2 : Prop} (hx : x.length ≤ 1000000) (ne : x ≠ octBM n1 k2 f3 u4 m5) (h1 : K1) (h2 : K2) :
    Lf (x.length ≤ 1000000) ∧ ∀ (n k : List UInt8) (f u m e : Int), Lf (decBM x = (n, k, f, u, m, e)) → (bif e != 0 then (bif e != 5 then F else (bif !(eqB n [] && (eqB k [] && ((f == 0) && ((u == 0) && ((m == 0) && true))))) then F else K1)) else (Lf (n.length ≤ 9223372036854775807) ∧ ∀ (s : List UInt8) (e' : Int), Lf (encBM n k f u m = (s, e')) → (bif (eqB n n1 && (eqB k k2 && (f == f3 && (u == u4 && (m == m5 && true))))) then F else (bif e' != 0 then F else (bif !(eqB s x) then F else K2))))) := by
  refine ⟨⟨hx⟩, ?_⟩
  rintro n k f u m e ⟨h⟩
  rcases dec_cases x with g | ⟨n', k', f', u', m', g, gr, go⟩
  · rw [g] at h
    simp only [Prod.mk.injEq] at h
    obtain ⟨rfl, rfl, rfl, rfl, rfl, rfl⟩ := h
    exact bT rfl (bF rfl (bF (by rw [eqB_refl]; rfl) h1))
  · rw [g] at h
    simp only [Prod.mk.injEq] at h
    obtain ⟨rfl, rfl, rfl, rfl, rfl, rfl⟩ := h
    have hn := ((name_iff n').1 ((right_iff _ _ _ _ _).1 gr).1).2.1
    refine bF rfl ⟨⟨by omega⟩, ?_⟩
    rintro s e' ⟨h⟩
    rw [encBM, if_pos gr, go] at h
    obtain ⟨rfl, rfl⟩ := Prod.mk.inj h
    refine bF ?_ (bF rfl (bF (by rw [eqB_refl]; rfl) h2))
    rw [← Bool.not_eq_true]
    intro hh
    simp only [Bool.and_eq_true, beq_iff_eq, eqB_iff] at hh
    obtain ⟨rfl, rfl, rfl, rfl, rfl, _⟩ := hh
    exact ne go.symm
theorem xor_ne {c y : Nat} (hc : c < 256) (hy : y < 256) (h0 : y ≠ 0) : c ^^^ y < 256 ∧ c ^^^ y ≠ c := by
  refine ⟨Nat.xor_lt_two_pow (n := 8) hc hy, fun h => h0 ?_⟩
  have := congrArg (c ^^^ ·) h
  simp only [← Nat.xor_assoc, Nat.xor_self, Nat.zero_xor] at this
  exact this
theorem flip_ne {s : List UInt8} {p : Nat} (hp : p < s.length) {c : UInt8} (hc : c ≠ s.getD p 0) : (s.take p ++ [c]) ++ s.drop (p + 1) ≠ s := fun h => by
  have := congrArg (·.getD p 0) h
  simp only [List.getD_eq_getElem?_getD] at this hc
  rw [List.append_assoc, List.getElem?_append_right (by simp; omega)] at this
  simp only [List.length_take, Nat.min_eq_left (Nat.le_of_lt hp), Nat.sub_self, List.singleton_append, List.getElem?_cons_zero, Option.getD_some] at this
  exact hc this
theorem tampers_run (d : List UInt8) (ky fr af nu a b : Int) (hd : d.length ≤ 9223372036854775807) (hf : 0 ≤ fr ∧ fr ≤ 65535) (hf2 : 0 ≤ af ∧ af ≤ 65535) (hnu : 0 ≤ nu ∧ nu ≤ 4294967295) (ha : 0 ≤ a ∧ a ≤ 255) (hb : 0 ≤ b ∧ b ≤ 255) (Q : Out → List Blk → Gh → Prop) (hq : Q (.ret (.bool true)) [] {}) : ∃ hv hb, goal_5 hv hb d ky fr af nu a b Q := by
  obtain ⟨hv', hb', e'⟩ : ∃ hv hb, goal_5 hv hb d ky fr af nu a b Q = _ := ⟨_, _, vc_5 d ky fr af nu a b Q⟩
  refine ⟨hv', hb', e'.mpr ?_⟩
  clear e'
  refine ⟨d, ⟨⟨rfl, rfl⟩, hd, hf, hf2, hnu⟩, ?_⟩
  rintro n k f u m ⟨hr⟩
  have hn := ((name_iff n).1 ((right_iff _ _ _ _ _).1 hr).1)
  have hk := ((right_iff _ _ _ _ _).1 hr).2.1
  refine ⟨⟨by omega⟩, ?_⟩
  rintro s e ⟨h⟩
  rw [encBM, if_pos hr] at h
  obtain ⟨hs, rfl⟩ := Prod.mk.inj h
  have sl : s.length = 22 + n.length + k.length := by rw [← hs, octB_len]
  refine bF rfl ⟨_, rfl, splitD (fun h1 => by omega) (fun _ => wrapI (by omega) (by omega) ⟨_, rfl, ckI (by rw [Bool.and_true, bne_iff_ne]; omega) ?_⟩)⟩
  obtain ⟨p, hp0, hp1⟩ : ∃ p : Nat, Int.tmod a (s.length : Int) = (p : Int) ∧ p < s.length := ⟨(Int.tmod a (s.length : Int)).toNat, by have := Int.tmod_nonneg (s.length : Int) ha.1; omega, by have := Int.tmod_lt_of_pos a (show (0 : Int) < (s.length : Int) by omega); omega⟩
  refine ⟨(p : Int), congrArg _ hp0, ckI (by simp; omega) ⟨_, rfl, ckI (idxOk (by omega) (by omega)) ⟨_, rfl, ?_⟩⟩⟩
  obtain ⟨y, hy0, hy1⟩ : ∃ y : Nat, Int.tmod b 255 = (y : Int) ∧ y < 255 := ⟨(Int.tmod b 255).toNat, by have := Int.tmod_nonneg 255 hb.1; omega, by have := Int.tmod_lt_of_pos b (show (0 : Int) < 255 by omega); omega⟩
  refine ⟨(y : Int), congrArg _ hy0, wrapU8 (by omega) (by omega) ?_⟩
  have hc := (s.getD p 0).toNat_lt
  have hx := xor_ne (c := (s.getD p 0).toNat) (y := 1 + y) hc (by omega) (by omega)
  have hxe : ((((s.getD (Int.toNat (p : Int)) (UInt8.ofNat 0)).toNat : Int) % 256).toNat ^^^ ((1 + (y : Int)) % 256).toNat : Nat) = (s.getD p 0).toNat ^^^ (1 + y) := by
    have e1 : (((s.getD (Int.toNat (p : Int)) (UInt8.ofNat 0)).toNat : Int) % 256).toNat = (s.getD p 0).toNat := by
      show (((s.getD p 0).toNat : Int) % 256).toNat = _
      omega
    have e2 : ((1 + (y : Int)) % 256).toNat = 1 + y := by omega
    rw [e1, e2]
  have hxi : ((((s.getD p 0).toNat ^^^ (1 + y) : Nat) : Int)) ≤ 255 := by omega
  refine ⟨(((s.getD p 0).toNat ^^^ (1 + y) : Nat) : Int), ?_, ?_⟩
  · refine Eq.trans (congrArg (fun z : Nat => AV.int .u8 (IntKind.wrap .u8 (z : Int))) hxe) ?_
    rw [show IntKind.wrap .u8 (((s.getD p 0).toNat ^^^ (1 + y) : Nat) : Int) = (((s.getD p 0).toNat ^^^ (1 + y) : Nat) : Int) % 256 from rfl, Int.emod_eq_of_lt (by omega) (by omega)]
  have hcne : UInt8.ofNat ((s.getD p 0).toNat ^^^ (1 + y)) ≠ s.getD p 0 := fun h => hx.2 (by
    have := congrArg UInt8.toNat h
    rwa [UInt8.toNat_ofNat', Nat.mod_eq_of_lt hx.1] at this)
  have hne := flip_ne hp1 hcne
  have eP : (s.drop 0).take (Int.toNat (p : Int) - 0) = s.take p := rfl
  have eD : (s.drop ((p : Int) + 1).toNat).take (s.length - ((p : Int) + 1).toNat) = s.drop (p + 1) := by
    rw [show ((p : Int) + 1).toNat = p + 1 by omega, List.take_of_length_le (by rw [List.length_drop]; omega)]
  have eC : (s.drop (Int.toNat (p : Int))).take (((p : Int) + 1).toNat - Int.toNat (p : Int)) = (s.drop p).take 1 := by
    rw [show ((p : Int) + 1).toNat - Int.toNat (p : Int) = 1 by omega]; rfl
  refine ⟨[UInt8.ofNat ((s.getD p 0).toNat ^^^ (1 + y))], rfl, ckI ?_ ⟨_, rfl, wrapI (by omega) (by omega) (ckI ?_ ⟨s.drop (p + 1), congrArg AV.str eD, ckI ?_ ⟨_, rfl, ckI ?_ ⟨s.take p, rfl, wrapI (by omega) (by omega) (ckI ?_ ⟨(s.drop p).take 1, congrArg AV.str eC, ckI ?_ ⟨_, rfl, ?_⟩⟩)⟩⟩⟩)⟩⟩
  case refine_7 =>
    have n1 : (s.take p ++ [UInt8.ofNat ((s.getD p 0).toNat ^^^ (1 + y))]) ++ s.drop (p + 1) ≠ octBM n k f u m := by rw [hs]; exact hne
    have n2 : s.take p ≠ octBM n k f u m := fun h => by
      have := congrArg List.length h
      rw [hs, List.length_take] at this
      omega
    have n3 : s ++ (s.drop p).take 1 ≠ octBM n k f u m := fun h => by
      have := congrArg List.length h
      rw [hs, List.length_append, List.length_take, List.length_drop] at this
      omega
    have l1 : ((s.take p ++ [UInt8.ofNat ((s.getD p 0).toNat ^^^ (1 + y))]) ++ s.drop (p + 1)).length ≤ 1000000 := by
      rw [List.length_append, List.length_append, List.length_take, List.length_drop, List.length_singleton]; omega
    have l2 : (s.take p).length ≤ 1000000 := by rw [List.length_take]; omega
    have l3 : (s ++ (s.drop p).take 1).length ≤ 1000000 := by
      rw [List.length_append, List.length_take, List.length_drop]; omega
    exact roundT l1 n1 (roundT l2 n2 (roundT l3 n3 hq hq) (roundT l3 n3 hq hq)) (roundT l2 n2 (roundT l3 n3 hq hq) (roundT l3 n3 hq hq))
  all_goals first
    | (simp only [Bool.and_true, Bool.and_eq_true, decide_eq_true_eq, Nat.ble_eq, List.length_append, List.length_take, List.length_drop, List.length_singleton]; omega)
end Go.Proofs.YtifjpcdpmimccaaGreatDoor

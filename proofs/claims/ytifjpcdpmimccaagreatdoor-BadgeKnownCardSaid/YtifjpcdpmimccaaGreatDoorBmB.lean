/-
  Chapter 18: is a text a shown badge?
-/
import Derived.Test.YtifjpcdpmimccaaGreatDoorBmA
import Derived.Test.YtifjpcdpmimccaaGreatDoorB18Y
set_option linter.unusedSimpArgs false
set_option linter.unusedVariables false
set_option linter.unusedSectionVars false
namespace Go.Proofs.YtifjpcdpmimccaaGreatDoor
open Go.RowKit
set_option maxRecDepth 1000000

def idxM (s : List UInt8) (c : Int) : Int := Lib.indexByte s c.toNat.toUInt8
def cIdx : Con
  | [.str s, .int .u8 c], H, K => ∀ x, Lf (x = idxM s c) → K (.ret (.int .i64 x)) H
  | _, _, _ => False
theorem idx_ok : ValidF Tryz.prog gl0 80 cIdx := by
  refine valid_below (enters_of (by kernel_rfl)) fun args H Q hc m w vs hv => ?_
  unfold cIdx at hc
  split at hc
  · rename_i s c
    obtain ⟨v, u, rfl, h1, h2⟩ := VRL_two hv
    simp only [VR] at h1 h2
    subst h1 h2
    exact ⟨_, .int .i64 (idxM s c), hc _ ⟨rfl⟩, by simp [VR], (Tryz.strings_IndexByte ⟨s.toArray⟩ c w).mono fun e w' h => ⟨by rw [h.1]; simp [idxM], h.2 ▸ Below.refl _ _⟩⟩
  · exact hc.elim
def lowM (s : List UInt8) : List UInt8 := Lib.toLowerA s
def cLow : Con
  | [.str s], H, K => Lf (s.length ≤ 1000000 ∧ s.all (fun c => Nat.blt c.toNat 128) = true) ∧ ∀ x, Lf (x = lowM s) → K (.ret (.str x)) H
  | _, _, _ => False
theorem low_ok : ValidF Tryz.prog gl0 41 cLow := by
  refine valid_below (enters_of (by kernel_rfl)) fun args H Q hc m w vs hv => ?_
  unfold cLow at hc
  split at hc
  · rename_i s
    obtain ⟨⟨h0, h9⟩, hq⟩ := hc
    obtain ⟨v, rfl, h1⟩ := VRL_one hv
    simp only [VR] at h1
    subst h1
    refine ⟨_, .string ⟨(lowM s).toArray⟩, hq _ ⟨rfl⟩, by simp [VR], (Tryz.strings_ToLower_ascii ⟨s.toArray⟩ w (by simp [ByteArray.size]; omega) (fun j b hb => ?_)).mono fun e w' h => ⟨by rw [h.1]; simp [lowM], h.2⟩⟩
    rw [List.all_eq_true] at h9
    simpa using h9 b (List.mem_of_getElem? hb)
  · exact hc.elim
def chOk (j : Nat) (c : UInt8) : Bool := if j % 3 = 2 then c == 58 else decide (0 ≤ idxM hexL (c.toNat : Int))
def okTo (r : List UInt8) (i : Nat) : Prop := ∀ j, j < i → chOk j (r.getD j 0) = true
def fingM (s : List UInt8) : Bool := Nat.ble 8 s.length && (eqB (s.take 8) preM && (Nat.beq (s.drop 8).length 95 && (List.range 95).all fun j => chOk j ((s.drop 8).getD j 0)))
def inv_53 (r : List UInt8) (s : S) : List (List LInv) := match s.hp with
  | [a, _, c] => [[{ α := Nat, pre := fun i => Lf (i ≤ r.length ∧ r.length = 95 ∧ okTo r i), st := fun i => ⟨mkT [(0, s.tm.get 0), (1, s.tm.get 1), (3, .int .i64 (i : Nat))], [a, ⟨.exact, true, [.int .i64 (i : Nat)]⟩, c]⟩, mu := fun i => r.length - i }]]
  | _ => []
def smFg : SM := lookS [(80, cIdx)]
theorem smFg_ok : ∀ f g, smFg f = some g → ValidF Tryz.prog gl0 f g := lookS_ok _ (by simp only [List.mem_cons, List.not_mem_nil, or_false, forall_eq_or_imp, forall_eq]; exact idx_ok)
noncomputable def env_53 (hv : Nat → Option Pa) (hb : Nat → Option Bool) (r : List UInt8) : Env := e18 smFg (fun i => bif Nat.beq i 110000 then some (inv_53 r) else none) hv hb
noncomputable def goal_53 (hv : Nat → Option Pa) (hb : Nat → Option Bool) (s : List UInt8) (Q : Out → List Blk → Gh → Prop) : Prop :=
  callx (env_53 hv hb (s.drop 8)) (wpx (env_53 hv hb (s.drop 8)) 1000) 53 [.str s] [] {} Q
theorem vc_53 (s : List UInt8) (Q : Out → List Blk → Gh → Prop) : goal_53 (lookV [(294918, .int .i64), (294926, .str), (454670, .str), (217104, .int .i64), (450564, .int .i64), (450566, .int .i64), (450571, .int .i64), (450572, .int .u8),
 (217110, .int .i64), (217111, .int .i64), (217118, .int .i64), (217119, .int .i64), (217127, .int .i64), (217128, .int .i64), (450575, .int .i64), (450576, .int .i64)]) (lookB []) s Q = (exI .i64 (s.length : Int) fun n_0 => bif decide (n_0
 ≥ 8) then ckQ (Nat.ble 8 s.length) (exS (.str ((s.drop 0).take 8)) fun s_1 => bif eqB s_1 [UInt8.ofNat 115, UInt8.ofNat 104, UInt8.ofNat 97, UInt8.ofNat 45, UInt8.ofNat 50, UInt8.ofNat 53, UInt8.ofNat 54, UInt8.ofNat 32] then ckQ (Nat.ble
 8 s.length && Nat.ble s.length s.length) (exS (.str ((s.drop 8).take (s.length - 8))) fun s_2 => exI .i64 (s_2.length : Int) fun n_3 => bif n_3 != 95 then Q (.ret (.bool false)) [] {} else (∃ x_4 : Nat, Lf (x_4 ≤ (s.drop 8).length ∧
 (s.drop 8).length = 95 ∧ okTo (s.drop 8) x_4) ∧ eqqQ [AV.bool false] ∧ [AV.int .i64 0] = [AV.int .i64 (x_4 : Int)] ∧ eqqQ [AV.str s_2] ∧ eqqQ (AV.yld 0) ∧ eqqQ (AV.ptr 2 1 0) ∧ AV.int .i64 0 = AV.int .i64 (x_4 : Int) ∧ True) ∧ ∀ x_4 : Nat,
 Lf (x_4 ≤ (s.drop 8).length ∧ (s.drop 8).length = 95 ∧ okTo (s.drop 8) x_4) → exI .i64 (x_4 : Int) fun n_5 => exI .i64 (s_2.length : Int) fun n_6 => bif decide (n_5 < n_6) then exI .i64 (x_4 : Int) fun n_7 => ckQ (decide (0 ≤ n_7) &&
 Nat.blt n_7.toNat s_2.length) (exI .u8 (UInt8.toNat (s_2.getD n_7.toNat (UInt8.ofNat 0)) : Int) fun n_8 => exI .i64 (x_4 : Int) fun n_9 => exI .i64 (n_9.tmod 3) fun n_10 => bif n_10 == 2 then bif n_8 != 58 then Q (.ret (.bool false)) []
 (Gh.mk 0 1 []) else exI .i64 (x_4 : Int) fun n_11 => exI .i64 (n_11.tmod 3) fun n_12 => bif decide (n_12 < 2) then ∀ x_13 : Int, Lf (x_13 = idxM [48, 49, 50, 51, 52, 53, 54, 55, 56, 57, 65, 66, 67, 68, 69, 70] n_8) → bif decide (x_13 < 0)
 then Q (.ret (.bool false)) [] (Gh.mk 0 1 []) else exI .i64 (x_4 : Int) fun n_14 => exW .i64 (n_14 + 1) fun n_15 => exI .i64 (x_4 : Int) fun n_16 => exW .i64 (n_16 + 1) fun n_17 => (eqqQ [Lp.mk 0 (T.n (T.n (T.n (T.n (T.n T.e (.str s_2)
 T.e) (.tup [.str s_2, .bool true]) T.e) (.str s_2) (T.n (T.n T.e (.str s_2) T.e) (.bool true) T.e)) .undef (T.n (T.n (T.n T.e (.bool false) T.e) (.tup [.str s_2, .bool true]) T.e) (.ptr 1 1 0) (T.n T.e (.bool false) T.e))) (.str s) (T.n
 (T.n (T.n (T.n T.e (.int .i64 n_3) T.e) (.str s) T.e) (.bool true) (T.n (T.n T.e (.fn (Fn.func 110) [] [.ptr 2 1 0]) T.e) (.bool true) T.e)) (.ptr 0 1 0) (T.n (T.n (T.n T.e (.bool false) T.e) (.str s_2) T.e) .undef (T.n T.e (.bool false)
 T.e)))) [21] (rfA fn53.body) (rfB fn53.body) Lst.ready 53] ∧ (1 : Nat) = (1 : Nat)) ∧ ∃ y_18 : Nat, Lf (y_18 ≤ (s.drop 8).length ∧ (s.drop 8).length = 95 ∧ okTo (s.drop 8) y_18) ∧ (s.drop 8).length - y_18 < (s.drop 8).length - x_4 ∧ eqqQ
 [AV.bool false] ∧ [AV.int .i64 n_15] = [AV.int .i64 (y_18 : Int)] ∧ eqqQ [AV.str s_2] ∧ eqqQ (AV.yld 0) ∧ eqqQ (AV.ptr 2 1 0) ∧ AV.int .i64 n_17 = AV.int .i64 (y_18 : Int) ∧ True else exI .i64 (x_4 : Int) fun n_13 => exW .i64 (n_13 + 1)
 fun n_14 => exI .i64 (x_4 : Int) fun n_15 => exW .i64 (n_15 + 1) fun n_16 => (eqqQ [Lp.mk 0 (T.n (T.n (T.n (T.n (T.n T.e (.str s_2) T.e) (.tup [.str s_2, .bool true]) T.e) (.str s_2) (T.n (T.n T.e (.str s_2) T.e) (.bool true) T.e)) .undef
 (T.n (T.n (T.n T.e (.bool false) T.e) (.tup [.str s_2, .bool true]) T.e) (.ptr 1 1 0) (T.n T.e (.bool false) T.e))) (.str s) (T.n (T.n (T.n (T.n T.e (.int .i64 n_3) T.e) (.str s) T.e) (.bool true) (T.n (T.n T.e (.fn (Fn.func 110) [] [.ptr
 2 1 0]) T.e) (.bool true) T.e)) (.ptr 0 1 0) (T.n (T.n (T.n T.e (.bool false) T.e) (.str s_2) T.e) .undef (T.n T.e (.bool false) T.e)))) [21] (rfA fn53.body) (rfB fn53.body) Lst.ready 53] ∧ (1 : Nat) = (1 : Nat)) ∧ ∃ y_17 : Nat, Lf (y_17 ≤
 (s.drop 8).length ∧ (s.drop 8).length = 95 ∧ okTo (s.drop 8) y_17) ∧ (s.drop 8).length - y_17 < (s.drop 8).length - x_4 ∧ eqqQ [AV.bool false] ∧ [AV.int .i64 n_14] = [AV.int .i64 (y_17 : Int)] ∧ eqqQ [AV.str s_2] ∧ eqqQ (AV.yld 0) ∧ eqqQ
 (AV.ptr 2 1 0) ∧ AV.int .i64 n_16 = AV.int .i64 (y_17 : Int) ∧ True else exI .i64 (x_4 : Int) fun n_11 => exI .i64 (n_11.tmod 3) fun n_12 => bif decide (n_12 < 2) then ∀ x_13 : Int, Lf (x_13 = idxM [48, 49, 50, 51, 52, 53, 54, 55, 56, 57,
 65, 66, 67, 68, 69, 70] n_8) → bif decide (x_13 < 0) then Q (.ret (.bool false)) [] (Gh.mk 0 1 []) else exI .i64 (x_4 : Int) fun n_14 => exW .i64 (n_14 + 1) fun n_15 => exI .i64 (x_4 : Int) fun n_16 => exW .i64 (n_16 + 1) fun n_17 => (eqqQ
 [Lp.mk 0 (T.n (T.n (T.n (T.n (T.n T.e (.str s_2) T.e) (.tup [.str s_2, .bool true]) T.e) (.str s_2) (T.n (T.n T.e (.str s_2) T.e) (.bool true) T.e)) .undef (T.n (T.n (T.n T.e (.bool false) T.e) (.tup [.str s_2, .bool true]) T.e) (.ptr 1 1
 0) (T.n T.e (.bool false) T.e))) (.str s) (T.n (T.n (T.n (T.n T.e (.int .i64 n_3) T.e) (.str s) T.e) (.bool true) (T.n (T.n T.e (.fn (Fn.func 110) [] [.ptr 2 1 0]) T.e) (.bool true) T.e)) (.ptr 0 1 0) (T.n (T.n (T.n T.e (.bool false) T.e)
 (.str s_2) T.e) .undef (T.n T.e (.bool false) T.e)))) [21] (rfA fn53.body) (rfB fn53.body) Lst.ready 53] ∧ (1 : Nat) = (1 : Nat)) ∧ ∃ y_18 : Nat, Lf (y_18 ≤ (s.drop 8).length ∧ (s.drop 8).length = 95 ∧ okTo (s.drop 8) y_18) ∧ (s.drop
 8).length - y_18 < (s.drop 8).length - x_4 ∧ eqqQ [AV.bool false] ∧ [AV.int .i64 n_15] = [AV.int .i64 (y_18 : Int)] ∧ eqqQ [AV.str s_2] ∧ eqqQ (AV.yld 0) ∧ eqqQ (AV.ptr 2 1 0) ∧ AV.int .i64 n_17 = AV.int .i64 (y_18 : Int) ∧ True else exI
 .i64 (x_4 : Int) fun n_13 => exW .i64 (n_13 + 1) fun n_14 => exI .i64 (x_4 : Int) fun n_15 => exW .i64 (n_15 + 1) fun n_16 => (eqqQ [Lp.mk 0 (T.n (T.n (T.n (T.n (T.n T.e (.str s_2) T.e) (.tup [.str s_2, .bool true]) T.e) (.str s_2) (T.n
 (T.n T.e (.str s_2) T.e) (.bool true) T.e)) .undef (T.n (T.n (T.n T.e (.bool false) T.e) (.tup [.str s_2, .bool true]) T.e) (.ptr 1 1 0) (T.n T.e (.bool false) T.e))) (.str s) (T.n (T.n (T.n (T.n T.e (.int .i64 n_3) T.e) (.str s) T.e)
 (.bool true) (T.n (T.n T.e (.fn (Fn.func 110) [] [.ptr 2 1 0]) T.e) (.bool true) T.e)) (.ptr 0 1 0) (T.n (T.n (T.n T.e (.bool false) T.e) (.str s_2) T.e) .undef (T.n T.e (.bool false) T.e)))) [21] (rfA fn53.body) (rfB fn53.body) Lst.ready
 53] ∧ (1 : Nat) = (1 : Nat)) ∧ ∃ y_17 : Nat, Lf (y_17 ≤ (s.drop 8).length ∧ (s.drop 8).length = 95 ∧ okTo (s.drop 8) y_17) ∧ (s.drop 8).length - y_17 < (s.drop 8).length - x_4 ∧ eqqQ [AV.bool false] ∧ [AV.int .i64 n_14] = [AV.int .i64
 (y_17 : Int)] ∧ eqqQ [AV.str s_2] ∧ eqqQ (AV.yld 0) ∧ eqqQ (AV.ptr 2 1 0) ∧ AV.int .i64 n_16 = AV.int .i64 (y_17 : Int) ∧ True) else Q (.ret (.bool true)) [] (Gh.mk 0 1 [])) else Q (.ret (.bool false)) [] {}) else Q (.ret (.bool false)) []
 {}) := by kernel_rfl

end Go.Proofs.YtifjpcdpmimccaaGreatDoor

set_option linter.unusedSimpArgs false
set_option linter.unusedVariables false
set_option linter.unusedSectionVars false
namespace Go.Proofs.YtifjpcdpmimccaaGreatDoor
open Go.RowKit
set_option maxRecDepth 1000000

theorem ok_step {r : List UInt8} {i : Nat} (h : okTo r i) (h1 : chOk i (r.getD i 0) = true) : okTo r (i + 1) := fun j hj => by
  rcases Nat.lt_or_ge j i with g | g
  · exact h j g
  · obtain rfl : j = i := by omega
    exact h1
theorem fing_iff (s : List UInt8) : fingM s = true ↔ 8 ≤ s.length ∧ eqB (s.take 8) preM = true ∧ (s.drop 8).length = 95 ∧ okTo (s.drop 8) 95 := by
  simp only [fingM, Bool.and_eq_true, Nat.ble_eq, Nat.beq_eq, List.all_eq_true, List.mem_range]
  exact Iff.rfl
theorem fing_run (s : List UInt8) (hs : s.length ≤ 9223372036854775807) (Q : Out → List Blk → Gh → Prop) (hq : ∀ g, Q (.ret (.bool (fingM s))) [] g) : ∃ hv hb, goal_53 hv hb s Q := by
  obtain ⟨hv', hb', e'⟩ : ∃ hv hb, goal_53 hv hb s Q = _ := ⟨_, _, vc_53 s Q⟩
  refine ⟨hv', hb', e'.mpr ?_⟩
  clear e'
  have no : ¬ (8 ≤ s.length ∧ eqB (s.take 8) preM = true ∧ (s.drop 8).length = 95 ∧ okTo (s.drop 8) 95) → ∀ g, Q (.ret (.bool false)) [] g := fun h g => by
    have := hq g
    rwa [show fingM s = false by rw [← Bool.not_eq_true, fing_iff]; exact h] at this
  have hl : (s.drop 8).length = s.length - 8 := List.length_drop ..
  refine ⟨_, rfl, splitD (fun h1 => ckI (by rw [Nat.ble_eq]; omega) ⟨_, rfl, ?_⟩) (fun h1 => no (fun h => by omega) _)⟩
  cases he : eqB (s.take 8) preM with
  | false => 
    have e0 : eqB ((s.drop 0).take 8) preM = false := he
    show (bif eqB ((s.drop 0).take 8) preM then _ else _)
    rw [e0]
    exact no (fun h => by rw [he] at h; cases h.2.1) _
  | true =>
    have e0 : eqB ((s.drop 0).take 8) preM = true := he
    show (bif eqB ((s.drop 0).take 8) preM then _ else _)
    rw [e0]
    refine ckI (by rw [Bool.and_eq_true, Nat.ble_eq, Nat.ble_eq]; omega) ⟨s.drop 8, congrArg AV.str (List.take_of_length_le (by omega)), _, rfl, splitNE (fun h2 => no (fun h => by omega) _) (fun h2 => ?_)⟩
    have h95 : (s.drop 8).length = 95 := by omega
    refine ⟨⟨0, ⟨by omega, h95, fun j hj => by omega⟩, rfl, rfl, rfl, rfl, rfl, rfl, trivial⟩, ?_⟩
    rintro i ⟨i1, _, io⟩
    have yes : okTo (s.drop 8) 95 → ∀ g, Q (.ret (.bool true)) [] g := fun h g => by
      have := hq g
      rwa [(fing_iff s).2 ⟨by omega, he, h95, h⟩] at this
    have ht : Int.tmod (i : Int) 3 = ((i % 3 : Nat) : Int) := by
      rw [Int.tmod_eq_emod_of_nonneg (by omega)]; omega
    refine ⟨_, rfl, _, rfl, splitD (fun h3 => ?_) (fun h3 => ?_)⟩
    · have bad : chOk i ((s.drop 8).getD i 0) = false → ∀ g, Q (.ret (.bool false)) [] g := fun h => no (fun h4 => by
        have := h4.2.2.2 i (by omega)
        rw [h] at this
        cases this)
      have c1 : i % 3 = 2 → (chOk i ((s.drop 8).getD i 0) = true ↔ ((s.drop 8).getD i 0).toNat = 58) := fun h => by
        rw [chOk, if_pos h, beq_iff_eq]
        exact ⟨fun h => by rw [h]; rfl, fun h => UInt8.toNat_inj.1 h⟩
      have c2 : i % 3 ≠ 2 → (chOk i ((s.drop 8).getD i 0) = true ↔ 0 ≤ idxM hexL (((s.drop 8).getD i 0).toNat : Int)) := fun h => by
        rw [chOk, if_neg h, decide_eq_true_eq]
      refine ⟨_, rfl, ckI (idxOk (by omega) (by omega)) ⟨_, rfl, _, rfl, _, rfl, ?_⟩⟩
      rw [ht]
      have go : chOk i ((s.drop 8).getD i 0) = true → i + 1 ≤ (s.drop 8).length ∧ (s.drop 8).length = 95 ∧ okTo (s.drop 8) (i + 1) := fun h => ⟨by omega, h95, ok_step io h⟩
      refine splitE (fun h4 => splitNE (fun h5 => bad (by rw [← Bool.not_eq_true, c1 (by omega)]; intro h6; exact h5 (congrArg Nat.cast h6)) _) (fun h5 => ⟨_, rfl, _, rfl, splitD (fun h6 => by omega) (fun h6 => ?_)⟩)) (fun h4 => ⟨_, rfl, _, rfl, splitD (fun h6 => ?_) (fun h6 => by omega)⟩)
      · exact ⟨_, rfl, wrapI (by omega) (by omega) ⟨_, rfl, wrapI (by omega) (by omega) ⟨⟨rfl, rfl⟩, i + 1, ⟨go ((c1 (by omega)).2 (by exact Int.ofNat.inj h5))⟩, by omega, rfl, rfl, rfl, rfl, rfl, rfl, trivial⟩⟩⟩
      · rintro x ⟨hx0⟩
        refine splitD (fun h7 => bad (by rw [← Bool.not_eq_true, c2 (by omega)]; have : x = idxM hexL (((s.drop 8).getD i 0).toNat : Int) := hx0; omega) _) (fun h7 => ?_)
        exact ⟨_, rfl, wrapI (by omega) (by omega) ⟨_, rfl, wrapI (by omega) (by omega) ⟨⟨rfl, rfl⟩, i + 1, ⟨go ((c2 (by omega)).2 (by have : x = idxM hexL (((s.drop 8).getD i 0).toNat : Int) := hx0; omega))⟩, by omega, rfl, rfl, rfl, rfl, rfl, rfl, trivial⟩⟩⟩
    · obtain rfl : i = 95 := by omega
      exact yes io _
def cFing : Con
  | [.str s], H, K => Lf (s.length ≤ 9223372036854775807) ∧ ∀ b, Lf (b = fingM s) → K (.ret (.bool b)) H
  | _, _, _ => False
theorem fing_ok : ValidF Tryz.prog gl0 53 cFing := by
  refine valid_flat (enters_of (by kernel_rfl)) gl0_noY fun args H Q hc => ?_
  unfold cFing at hc
  split at hc
  · rename_i s
    obtain ⟨⟨h1⟩, hq⟩ := hc
    obtain ⟨hv, hb', h⟩ := fing_run s h1 (Q := fun o H' _ => H' = [] ∧ (∃ v, o = .ret v ∧ old 0 v = true ∧ noY v = true) ∧ Q o H) (fun _ => ⟨rfl, ⟨_, rfl, rfl, rfl⟩, hq _ ⟨rfl⟩⟩)
    exact ⟨rfl, rfl, _, 1000, envFor18 smFg_ok _ _ _, rfl, h⟩
  · exact hc.elim
end Go.Proofs.YtifjpcdpmimccaaGreatDoor

/-
  Chapter 18: is a text a shown badge?
-/
import Derived.Test.YtifjpcdpmimccaaGreatDoorBmA
import Derived.Test.YtifjpcdpmimccaaGreatDoorB18Y
set_option linter.unusedSimpArgs false
set_option linter.unusedVariables false
set_option linter.unusedSectionVars false
namespace Go.Proofs.YtifjpcdpmimccaaGreatDoor
open Go.RowKit
set_option maxRecDepth 1000000

def idxM (s : List UInt8) (c : Int) : Int := Lib.indexByte s c.toNat.toUInt8
def cIdx : Con
 | [.str s, .int .u8 c], H, K => ∀ x, Lf (x = idxM s c) → K (.ret (.int .i64 x)) H
 | _, _, _ => False
theorem idx_ok : ValidF Tryz.prog gl0 80 cIdx := by
 refine valid_below (enters_of (by kernel_rfl)) fun args H Q hc m w vs hv => ?_
 unfold cIdx at hc
 split at hc
 ·rename_i s c
  obtain ⟨v, u, rfl, h1, h2⟩ := VRL_two hv
  simp only [VR] at h1 h2
  subst h1 h2
  exact ⟨_, .int .i64 (idxM s c), hc _ ⟨rfl⟩, by simp [VR], (Tryz.strings_IndexByte ⟨s.toArray⟩ c w).mono fun e w' h => ⟨by rw [h.1]; simp [idxM], h.2 ▸ Below.refl _ _⟩⟩
 ·exact hc.elim
def lowM (s : List UInt8) : List UInt8 := Lib.toLowerA s
def cLow : Con
 | [.str s], H, K => Lf (s.length ≤ 1000000 ∧ s.all (fun c => Nat.blt c.toNat 128) = true) ∧ ∀ x, Lf (x = lowM s) → K (.ret (.str x)) H
 | _, _, _ => False
theorem low_ok : ValidF Tryz.prog gl0 41 cLow := by
 refine valid_below (enters_of (by kernel_rfl)) fun args H Q hc m w vs hv => ?_
 unfold cLow at hc
 split at hc
 ·rename_i s
  obtain ⟨⟨h0, h9⟩, hq⟩ := hc
  obtain ⟨v, rfl, h1⟩ := VRL_one hv
  simp only [VR] at h1
  subst h1
  refine ⟨_, .string ⟨(lowM s).toArray⟩, hq _ ⟨rfl⟩, by simp [VR], (Tryz.strings_ToLower_ascii ⟨s.toArray⟩ w (by simp [ByteArray.size]; omega) (fun j b hb => ?_)).mono fun e w' h => ⟨by rw [h.1]; simp [lowM], h.2⟩⟩
  rw [List.all_eq_true] at h9
  simpa using h9 b (List.mem_of_getElem? hb)
 ·exact hc.elim
def chOk (j : Nat) (c : UInt8) : Bool := if j % 3 = 2 then c == 58 else decide (0 ≤ idxM hexL (c.toNat : Int))
def okTo (r : List UInt8) (i : Nat) : Prop := ∀ j, j < i → chOk j (r.getD j 0) = true
def fingM (s : List UInt8) : Bool := Nat.ble 8 s.length && (eqB (s.take 8) preM && (Nat.beq (s.drop 8).length 95 && (List.range 95).all fun j => chOk j ((s.drop 8).getD j 0)))
def inv_53 (r : List UInt8) (s : S) : List (List LInv) := match s.hp with
 | [a, _, c] => [[{ α := Nat, pre := fun i => Lf (i ≤ r.length ∧ r.length = 95 ∧ okTo r i), st := fun i => ⟨mkT [(0, s.tm.get 0), (1, s.tm.get 1), (3, .int .i64 (i : Nat))], [a, ⟨.exact, true, [.int .i64 (i : Nat)]⟩, c]⟩, mu := fun i => r.length - i }]]
 | _ => []
def smFg : SM := lookS [(80, cIdx)]
theorem smFg_ok : ∀ f g, smFg f = some g → ValidF Tryz.prog gl0 f g := lookS_ok _ (by simp only [List.mem_cons, List.not_mem_nil, or_false, forall_eq_or_imp, forall_eq]; exact idx_ok)
noncomputable def env_53 (hv : Nat → Option Pa) (hb : Nat → Option Bool) (r : List UInt8) : Env := e18 smFg (fun i => bif Nat.beq i 110000 then some (inv_53 r) else none) hv hb
noncomputable def goal_53 (hv : Nat → Option Pa) (hb : Nat → Option Bool) (s : List UInt8) (Q : Out → List Blk → Gh → Prop) : Prop :=
 callx (env_53 hv hb (s.drop 8)) (wpx (env_53 hv hb (s.drop 8)) 1000) 53 [.str s] [] {} Q
abbrev q18Z_53_0 (x_4 : Nat) (n_14 : Int) (s_2 : List UInt8) (s : List UInt8) (n_3 : Int) : Prop :=
AV.int .i64 (x_4 : Int) = AV.int .i64 n_14 ∧ exW .i64 (n_14 + 1) fun n_15 => exI .i64 (x_4 : Int) fun n_16 => exW .i64 (n_16 + 1) fun n_17 => (eqqQ [Lp.mk 0 (T.n (T.n (T.n (T.n (T.n T.e (.str s_2) T.e) (.tup [.str s_2, .bool true]) T.e)
 (.str s_2) (T.n (T.n T.e (.str s_2) T.e) (.bool true) T.e)) .undef (T.n (T.n (T.n T.e (.bool false) T.e) (.tup [.str s_2, .bool true]) T.e) (.ptr 1 1 0) (T.n T.e (.bool false) T.e))) (.str s) (T.n (T.n (T.n (T.n T.e (.int .i64 n_3) T.e)
 (.str s) T.e) (.bool true) (T.n (T.n T.e (.fn (Fn.func 110) [] [.ptr 2 1 0]) T.e) (.bool true) T.e)) (.ptr 0 1 0) (T.n (T.n (T.n T.e (.bool false) T.e) (.str s_2) T.e) .undef (T.n T.e (.bool false) T.e)))) [21] (rfA fn53.body) (rfB
 fn53.body) Lst.ready 53] ∧ (1 : Nat) = (1 : Nat)) ∧ ∃ y_18 : Nat, Lf (y_18 ≤ (s.drop 8).length ∧ (s.drop 8).length = 95 ∧ okTo (s.drop 8) y_18) ∧ (s.drop 8).length - y_18 < (s.drop 8).length - x_4 ∧ eqqQ [AV.bool false] ∧ [AV.int .i64
 n_15] = [AV.int .i64 (y_18 : Int)] ∧ eqqQ [AV.str s_2] ∧ eqqQ (AV.yld 0) ∧ eqqQ (AV.ptr 2 1 0) ∧ AV.int .i64 n_17 = AV.int .i64 (y_18 : Int) ∧ True
theorem vc_53 (s : List UInt8) (Q : Out → List Blk → Gh → Prop) : goal_53 (lookV [(294918, .int .i64), (294926, .str), (454670, .str), (217104, .int .i64), (450564, .int .i64), (450566, .int .i64), (450571, .int .i64), (450572, .int .u8),
 (217110, .int .i64), (217111, .int .i64), (217118, .int .i64), (217119, .int .i64), (217127, .int .i64), (217128, .int .i64), (450575, .int .i64), (450576, .int .i64)]) (lookB []) s Q = (exI .i64 (s.length : Int) (fun n_0 => bif decide
 (n_0 ≥ 8) then ckQ (Nat.ble 8 s.length) (exS (.str ((s.drop 0).take 8)) (fun s_1 => bif eqB s_1 [UInt8.ofNat 115, UInt8.ofNat 104, UInt8.ofNat 97, UInt8.ofNat 45, UInt8.ofNat 50, UInt8.ofNat 53, UInt8.ofNat 54, UInt8.ofNat 32] then ckQ
 (Nat.ble 8 s.length && Nat.ble s.length s.length) (exS (.str ((s.drop 8).take (s.length - 8))) (fun s_2 => exI .i64 (s_2.length : Int) (fun n_3 => bif n_3 != 95 then Q (.ret (.bool false)) [] {} else (∃ x_4 : Nat, Lf (x_4 ≤ (s.drop
 8).length ∧ (s.drop 8).length = 95 ∧ okTo (s.drop 8) x_4) ∧ eqqQ [AV.bool false] ∧ [AV.int .i64 0] = [AV.int .i64 (x_4 : Int)] ∧ eqqQ [AV.str s_2] ∧ eqqQ (AV.yld 0) ∧ eqqQ (AV.ptr 2 1 0) ∧ AV.int .i64 0 = AV.int .i64 (x_4 : Int) ∧ True) ∧
 ∀ x_4 : Nat, Lf (x_4 ≤ (s.drop 8).length ∧ (s.drop 8).length = 95 ∧ okTo (s.drop 8) x_4) → exI .i64 (x_4 : Int) (fun n_5 => exI .i64 (s_2.length : Int) (fun n_6 => bif decide (n_5 < n_6) then exI .i64 (x_4 : Int) (fun n_7 => ckQ (decide (0
 ≤ n_7) && Nat.blt n_7.toNat s_2.length) (exI .u8 (UInt8.toNat (s_2.getD n_7.toNat (UInt8.ofNat 0)) : Int) (fun n_8 => exI .i64 (x_4 : Int) (fun n_9 => exI .i64 (n_9.tmod 3) (fun n_10 => bif n_10 == 2 then bif n_8 != 58 then Q (.ret (.bool
 false)) [] (Gh.mk 0 1 []) else exI .i64 (x_4 : Int) (fun n_11 => exI .i64 (n_11.tmod 3) (fun n_12 => bif decide (n_12 < 2) then ∀ x_13 : Int, Lf (x_13 = idxM [48, 49, 50, 51, 52, 53, 54, 55, 56, 57, 65, 66, 67, 68, 69, 70] n_8) → bif
 decide (x_13 < 0) then Q (.ret (.bool false)) [] (Gh.mk 0 1 []) else ∃ n_14 : Int, q18Z_53_0 x_4 n_14 s_2 s n_3 else ∃ n_13 : Int, q18Z_53_0 x_4 n_13 s_2 s n_3)) else exI .i64 (x_4 : Int) (fun n_11 => exI .i64 (n_11.tmod 3) (fun n_12 =>
 bif decide (n_12 < 2) then ∀ x_13 : Int, Lf (x_13 = idxM [48, 49, 50, 51, 52, 53, 54, 55, 56, 57, 65, 66, 67, 68, 69, 70] n_8) → bif decide (x_13 < 0) then Q (.ret (.bool false)) [] (Gh.mk 0 1 []) else ∃ n_14 : Int, q18Z_53_0 x_4 n_14 s_2
 s n_3 else ∃ n_13 : Int, q18Z_53_0 x_4 n_13 s_2 s n_3))))))) else Q (.ret (.bool true)) [] (Gh.mk 0 1 [])))))) else Q (.ret (.bool false)) [] {})) else Q (.ret (.bool false)) [] {})) := by kernel_rfl

end Go.Proofs.YtifjpcdpmimccaaGreatDoor

set_option linter.unusedSimpArgs false
set_option linter.unusedVariables false
set_option linter.unusedSectionVars false
namespace Go.Proofs.YtifjpcdpmimccaaGreatDoor
open Go.RowKit
set_option maxRecDepth 1000000

theorem ok_step {r : List UInt8} {i : Nat} (h : okTo r i) (h1 : chOk i (r.getD i 0) = true) : okTo r (i + 1) := fun j hj => by
 rcases Nat.lt_or_ge j i with g | g
 ·exact h j g
 ·obtain rfl : j = i := by omega
  exact h1
theorem fing_iff (s : List UInt8) : fingM s = true ↔ 8 ≤ s.length ∧ eqB (s.take 8) preM = true ∧ (s.drop 8).length = 95 ∧ okTo (s.drop 8) 95 := by
 simp only [fingM, Bool.and_eq_true, Nat.ble_eq, Nat.beq_eq, List.all_eq_true, List.mem_range]
 exact Iff.rfl
theorem fing_run (s : List UInt8) (hs : s.length ≤ 9223372036854775807) (Q : Out → List Blk → Gh → Prop) (hq : ∀ g, Q (.ret (.bool (fingM s))) [] g) : ∃ hv hb, goal_53 hv hb s Q := by
 obtain ⟨hv', hb', e'⟩ : ∃ hv hb, goal_53 hv hb s Q = _ := ⟨_, _, vc_53 s Q⟩
 refine ⟨hv', hb', e'.mpr ?_⟩
 clear e'
 have no : ¬ (8 ≤ s.length ∧ eqB (s.take 8) preM = true ∧ (s.drop 8).length = 95 ∧ okTo (s.drop 8) 95) → ∀ g, Q (.ret (.bool false)) [] g := fun h g => by
  have := hq g
  rwa [show fingM s = false by rw [← Bool.not_eq_true, fing_iff]; exact h] at this
 have hl : (s.drop 8).length = s.length - 8 := List.length_drop ..
 refine ⟨_, rfl, splitD (fun h1 => ckI (by rw [Nat.ble_eq]; omega) ⟨_, rfl, ?_⟩) (fun h1 => no (fun h => by omega) _)⟩
 cases he : eqB (s.take 8) preM with
 | false => 
  have e0 : eqB ((s.drop 0).take 8) preM = false := he
  show (bif eqB ((s.drop 0).take 8) preM then _ else _)
  rw [e0]
  exact no (fun h => by rw [he] at h; cases h.2.1) _
 | true =>
  have e0 : eqB ((s.drop 0).take 8) preM = true := he
  show (bif eqB ((s.drop 0).take 8) preM then _ else _)
  rw [e0]
  refine ckI (by rw [Bool.and_eq_true, Nat.ble_eq, Nat.ble_eq]; omega) ⟨s.drop 8, congrArg AV.str (List.take_of_length_le (by omega)), _, rfl, splitNE (fun h2 => no (fun h => by omega) _) (fun h2 => ?_)⟩
  have h95 : (s.drop 8).length = 95 := by omega
  refine ⟨⟨0, ⟨by omega, h95, fun j hj => by omega⟩, rfl, rfl, rfl, rfl, rfl, rfl, trivial⟩, ?_⟩
  rintro i ⟨i1, _, io⟩
  have yes : okTo (s.drop 8) 95 → ∀ g, Q (.ret (.bool true)) [] g := fun h g => by
   have := hq g
   rwa [(fing_iff s).2 ⟨by omega, he, h95, h⟩] at this
  have ht : Int.tmod (i : Int) 3 = ((i % 3 : Nat) : Int) := by
   rw [Int.tmod_eq_emod_of_nonneg (by omega)]; omega
  refine ⟨_, rfl, _, rfl, splitD (fun h3 => ?_) (fun h3 => ?_)⟩
  ·have bad : chOk i ((s.drop 8).getD i 0) = false → ∀ g, Q (.ret (.bool false)) [] g := fun h => no (fun h4 => by
    have := h4.2.2.2 i (by omega)
    rw [h] at this
    cases this)
   have c1 : i % 3 = 2 → (chOk i ((s.drop 8).getD i 0) = true ↔ ((s.drop 8).getD i 0).toNat = 58) := fun h => by
    rw [chOk, if_pos h, beq_iff_eq]
    exact ⟨fun h => by rw [h]; rfl, fun h => UInt8.toNat_inj.1 h⟩
   have c2 : i % 3 ≠ 2 → (chOk i ((s.drop 8).getD i 0) = true ↔ 0 ≤ idxM hexL (((s.drop 8).getD i 0).toNat : Int)) := fun h => by
    rw [chOk, if_neg h, decide_eq_true_eq]
   refine ⟨_, rfl, ckI (idxOk (by omega) (by omega)) ⟨_, rfl, _, rfl, _, rfl, ?_⟩⟩
   rw [ht]
   have go : chOk i ((s.drop 8).getD i 0) = true → i + 1 ≤ (s.drop 8).length ∧ (s.drop 8).length = 95 ∧ okTo (s.drop 8) (i + 1) := fun h => ⟨by omega, h95, ok_step io h⟩
   refine splitE (fun h4 => splitNE (fun h5 => bad (by rw [← Bool.not_eq_true, c1 (by omega)]; intro h6; exact h5 (congrArg Nat.cast h6)) _) (fun h5 => ⟨_, rfl, _, rfl, splitD (fun h6 => by omega) (fun h6 => ?_)⟩)) (fun h4 => ⟨_, rfl, _, rfl, splitD (fun h6 => ?_) (fun h6 => by omega)⟩)
   ·exact ⟨_, rfl, wrapI (by omega) (by omega) ⟨_, rfl, wrapI (by omega) (by omega) ⟨⟨rfl, rfl⟩, i + 1, ⟨go ((c1 (by omega)).2 (by exact Int.ofNat.inj h5))⟩, by omega, rfl, rfl, rfl, rfl, rfl, rfl, trivial⟩⟩⟩
   ·rintro x ⟨hx0⟩
    refine splitD (fun h7 => bad (by rw [← Bool.not_eq_true, c2 (by omega)]; have : x = idxM hexL (((s.drop 8).getD i 0).toNat : Int) := hx0; omega) _) (fun h7 => ?_)
    exact ⟨_, rfl, wrapI (by omega) (by omega) ⟨_, rfl, wrapI (by omega) (by omega) ⟨⟨rfl, rfl⟩, i + 1, ⟨go ((c2 (by omega)).2 (by have : x = idxM hexL (((s.drop 8).getD i 0).toNat : Int) := hx0; omega))⟩, by omega, rfl, rfl, rfl, rfl, rfl, rfl, trivial⟩⟩⟩
  ·obtain rfl : i = 95 := by omega
   exact yes io _
def cFing : Con
 | [.str s], H, K => Lf (s.length ≤ 9223372036854775807) ∧ ∀ b, Lf (b = fingM s) → K (.ret (.bool b)) H
 | _, _, _ => False
theorem fing_ok : ValidF Tryz.prog gl0 53 cFing := by
 refine valid_flat (enters_of (by kernel_rfl)) gl0_noY fun args H Q hc => ?_
 unfold cFing at hc
 split at hc
 ·rename_i s
  obtain ⟨⟨h1⟩, hq⟩ := hc
  obtain ⟨hv, hb', h⟩ := fing_run s h1 (Q := fun o H' _ => H' = [] ∧ (∃ v, o = .ret v ∧ old 0 v = true ∧ noY v = true) ∧ Q o H) (fun _ => ⟨rfl, ⟨_, rfl, rfl, rfl⟩, hq _ ⟨rfl⟩⟩)
  exact ⟨rfl, rfl, _, 1000, envFor18 smFg_ok _ _ _, rfl, h⟩
 ·exact hc.elim
end Go.Proofs.YtifjpcdpmimccaaGreatDoor

set_option linter.unusedSimpArgs false
set_option linter.unusedVariables false
set_option linter.unusedSectionVars false
namespace Go.Proofs.YtifjpcdpmimccaaGreatDoor
open Go.RowKit
set_option maxRecDepth 1000000

def smCk : SM := lookS [(50, cValid), (53, cFing), (56, cPrintB)]
theorem smCk_ok : ∀ f g, smCk f = some g → ValidF Tryz.prog gl0 f g := lookS_ok _ (by simp only [List.mem_cons, List.not_mem_nil, or_false, forall_eq_or_imp, forall_eq]; exact ⟨valid50_ok, fing_ok, printB_ok⟩)
noncomputable def goal_17 (hv : Nat → Option Pa) (hb : Nat → Option Bool) (s : List UInt8) (Q : Out → List Blk → Gh → Prop) : Prop :=
 callx (e18 smCk (fun _ => none) hv hb) (wpx (e18 smCk (fun _ => none) hv hb) 1000) 17 [.str s] [] {} Q
theorem vc_17 (s : List UInt8) (Q : Out → List Blk → Gh → Prop) : goal_17 (lookV []) (lookB []) s Q = (
((Lf ((List.length s) ≤ (9223372036854775807 : Nat))) ∧
 (∀ b_0 : Bool, ((Lf (b_0 = (fingM s))) →
(bif b_0 then (Q (Out.ret (AV.int .i64 (0 : Int))) [] (Gh.mk (0 : Nat) (0 : Nat) []))
else (Q (Out.ret (AV.int .i64 (5 : Int))) [] (Gh.mk (0 : Nat) (0 : Nat) []))))))) := by kernel_rfl

noncomputable def goal_21 (hv : Nat → Option Pa) (hb : Nat → Option Bool) (n k : List UInt8) (f u m : Int) (Q : Out → List Blk → Gh → Prop) : Prop :=
 callx (e18 smCk (fun _ => none) hv hb) (wpx (e18 smCk (fun _ => none) hv hb) 1000) 21 [.agg (bdg n k f u m)] [] {} Q
theorem vc_21 (n : List UInt8) (k : List UInt8) (f : Int) (u : Int) (m : Int) (Q : Out → List Blk → Gh → Prop) : goal_21 (lookV []) (lookB []) n k f u m Q = (
((Lf ((List.length n) ≤ (9223372036854775807 : Nat))) ∧
 (∀ b_0 : Bool, ((Lf (b_0 = (rightBM n k f u m))) →
(bif b_0 then (Q (Out.ret (AV.int .i64 (0 : Int))) [] (Gh.mk (0 : Nat) (0 : Nat) []))
else (Q (Out.ret (AV.int .i64 (180 : Int))) [] (Gh.mk (0 : Nat) (0 : Nat) []))))))) := by kernel_rfl

noncomputable def goal_23 (hv : Nat → Option Pa) (hb : Nat → Option Bool) (n k : List UInt8) (f u m : Int) (Q : Out → List Blk → Gh → Prop) : Prop :=
 callx (e18 smCk (fun _ => none) hv hb) (wpx (e18 smCk (fun _ => none) hv hb) 1000) 23 [.agg (bdg n k f u m)] [] {} Q
theorem vc_23 (n : List UInt8) (k : List UInt8) (f : Int) (u : Int) (m : Int) (Q : Out → List Blk → Gh → Prop) : goal_23 (lookV []) (lookB []) n k f u m Q = (
((Lf ((List.length n) ≤ (9223372036854775807 : Nat))) ∧
 (∀ b_0 : Bool, ((Lf (b_0 = (rightBM n k f u m))) →
(bif b_0 then ((Lf ((List.length n) ≤ (9223372036854775807 : Nat))) ∧
 (∀ s_1 : (List UInt8), ((Lf (s_1 = (shownM (sumSM (Prod.fst (encBM n k f u m)))))) →
(Q (Out.ret (AV.tup ((AV.str s_1) :: ((AV.int .i64 (0 : Int)) :: [])))) [] (Gh.mk (0 : Nat) (0 : Nat) [])))))
else (Q (Out.ret (AV.tup ((AV.str []) :: ((AV.int .i64 (180 : Int)) :: [])))) [] (Gh.mk (0 : Nat) (0 : Nat) []))))))) := by kernel_rfl

def ckpM (s : List UInt8) : Int := if fingM s = true then 0 else 5
def cCkp : Con
 | [.str s], H, K => Lf (s.length ≤ 9223372036854775807) ∧ ∀ e, Lf (e = ckpM s) → K (.ret (.int .i64 e)) H
 | _, _, _ => False
def chkM (n k : List UInt8) (f u m : Int) : Int := if rightBM n k f u m = true then 0 else 180
def cChk : Con
 | [.agg [.str n, .str k, .int .i64 f, .int .i64 u, .int .i64 m]], H, K => Lf (n.length ≤ 9223372036854775807) ∧ ∀ e, Lf (e = chkM n k f u m) → K (.ret (.int .i64 e)) H
 | _, _, _ => False
def prtM (n k : List UInt8) (f u m : Int) : List UInt8 × Int := if rightBM n k f u m = true then (shownM (sumSM (octBM n k f u m)), 0) else ([], 180)
def cPrt : Con
 | [.agg [.str n, .str k, .int .i64 f, .int .i64 u, .int .i64 m]], H, K => Lf (n.length ≤ 9223372036854775807) ∧ ∀ s e, Lf (prtM n k f u m = (s, e)) → K (.ret (.tup [.str s, .int .i64 e])) H
 | _, _, _ => False
theorem ckp_run (s : List UInt8) (hs : s.length ≤ 9223372036854775807) (Q : Out → List Blk → Gh → Prop) (hq : ∀ g, Q (.ret (.int .i64 (ckpM s))) [] g) : ∃ hv hb, goal_17 hv hb s Q := by
 obtain ⟨hv', hb', e'⟩ : ∃ hv hb, goal_17 hv hb s Q = _ := ⟨_, _, vc_17 s Q⟩
 refine ⟨hv', hb', e'.mpr ?_⟩
 clear e'
 refine ⟨⟨hs⟩, ?_⟩
 rintro b ⟨hb⟩
 cases b with
 | false => have := hq {}; rwa [show ckpM s = 5 by rw [ckpM, ← hb]; rfl] at this
 | true => have := hq {}; rwa [show ckpM s = 0 by rw [ckpM, ← hb]; rfl] at this
theorem chk_run (n k : List UInt8) (f u m : Int) (hn : n.length ≤ 9223372036854775807) (Q : Out → List Blk → Gh → Prop) (hq : ∀ g, Q (.ret (.int .i64 (chkM n k f u m))) [] g) : ∃ hv hb, goal_21 hv hb n k f u m Q := by
 obtain ⟨hv', hb', e'⟩ : ∃ hv hb, goal_21 hv hb n k f u m Q = _ := ⟨_, _, vc_21 n k f u m Q⟩
 refine ⟨hv', hb', e'.mpr ?_⟩
 clear e'
 refine ⟨⟨hn⟩, ?_⟩
 rintro b ⟨hb⟩
 cases b with
 | false => have := hq {}; rwa [show chkM n k f u m = 180 by rw [chkM, ← hb]; rfl] at this
 | true => have := hq {}; rwa [show chkM n k f u m = 0 by rw [chkM, ← hb]; rfl] at this
theorem prt_run (n k : List UInt8) (f u m : Int) (hn : n.length ≤ 9223372036854775807) (Q : Out → List Blk → Gh → Prop) (hq : ∀ g, Q (.ret (.tup [.str (prtM n k f u m).1, .int .i64 (prtM n k f u m).2])) [] g) : ∃ hv hb, goal_23 hv hb n k f u m Q := by
 obtain ⟨hv', hb', e'⟩ : ∃ hv hb, goal_23 hv hb n k f u m Q = _ := ⟨_, _, vc_23 n k f u m Q⟩
 refine ⟨hv', hb', e'.mpr ?_⟩
 clear e'
 refine ⟨⟨hn⟩, ?_⟩
 rintro b ⟨hb⟩
 cases b with
 | false => have := hq {}; rwa [show prtM n k f u m = ([], 180) by rw [prtM, ← hb]; rfl] at this
 | true =>
  refine ⟨⟨hn⟩, ?_⟩
  rintro x ⟨rfl⟩
  have := hq {}
  rwa [show prtM n k f u m = (shownM (sumSM (encBM n k f u m).1), 0) by rw [prtM, encBM, ← hb]; rfl] at this
theorem ckp_ok : ValidF Tryz.prog gl0 17 cCkp := by
 refine valid_flat (enters_of (by kernel_rfl)) gl0_noY fun args H Q hc => ?_
 unfold cCkp at hc
 split at hc
 ·rename_i s
  obtain ⟨⟨h1⟩, hq⟩ := hc
  obtain ⟨hv, hb', h⟩ := ckp_run s h1 (Q := fun o H' _ => H' = [] ∧ (∃ v, o = .ret v ∧ old 0 v = true ∧ noY v = true) ∧ Q o H) (fun _ => ⟨rfl, ⟨_, rfl, rfl, rfl⟩, hq _ ⟨rfl⟩⟩)
  exact ⟨rfl, rfl, _, 1000, envFor18 smCk_ok _ _ _, rfl, h⟩
 ·exact hc.elim
theorem chk_ok : ValidF Tryz.prog gl0 21 cChk := by
 refine valid_flat (enters_of (by kernel_rfl)) gl0_noY fun args H Q hc => ?_
 unfold cChk at hc
 split at hc
 ·rename_i n k f u m
  obtain ⟨⟨h1⟩, hq⟩ := hc
  obtain ⟨hv, hb', h⟩ := chk_run n k f u m h1 (Q := fun o H' _ => H' = [] ∧ (∃ v, o = .ret v ∧ old 0 v = true ∧ noY v = true) ∧ Q o H) (fun _ => ⟨rfl, ⟨_, rfl, rfl, rfl⟩, hq _ ⟨rfl⟩⟩)
  exact ⟨rfl, rfl, _, 1000, envFor18 smCk_ok _ _ _, rfl, h⟩
 ·exact hc.elim
theorem prt_ok : ValidF Tryz.prog gl0 23 cPrt := by
 refine valid_flat (enters_of (by kernel_rfl)) gl0_noY fun args H Q hc => ?_
 unfold cPrt at hc
 split at hc
 ·rename_i n k f u m
  obtain ⟨⟨h1⟩, hq⟩ := hc
  obtain ⟨hv, hb', h⟩ := prt_run n k f u m h1 (Q := fun o H' _ => H' = [] ∧ (∃ v, o = .ret v ∧ old 0 v = true ∧ noY v = true) ∧ Q o H) (fun _ => ⟨rfl, ⟨_, rfl, rfl, rfl⟩, hq _ _ ⟨rfl⟩⟩)
  exact ⟨rfl, rfl, _, 1000, envFor18 smCk_ok _ _ _, rfl, h⟩
 ·exact hc.elim
end Go.Proofs.YtifjpcdpmimccaaGreatDoor

set_option linter.unusedSimpArgs false
set_option linter.unusedVariables false
set_option linter.unusedSectionVars false
namespace Go.Proofs.YtifjpcdpmimccaaGreatDoor
open Go.RowKit
set_option maxRecDepth 1000000

def inv_89 (l : List (List UInt8)) (s : S) : List (List LInv) := [[{ α := Nat, pre := fun i => Lf (i ≤ l.length ∧ ∀ j, j < i → fingM (l.getD j []) = true), st := fun i => ⟨mkT [(0, s.tm.get 0), (1, s.tm.get 1), (7, s.tm.get 7), (8, .int .i64 (i : Nat))], s.hp⟩, mu := fun i => l.length - i }]]
def inv_36 (l : List (List UInt8)) (s : S) : List (List LInv) := match s.tm.get 1 with
 | .str x => [[{ α := Nat, pre := fun i => Lf (i ≤ l.length ∧ ∀ j, j < i → eqB x (l.getD j []) = false), st := fun i => ⟨mkT [(0, s.tm.get 0), (1, s.tm.get 1), (7, s.tm.get 7), (8, .int .i64 (i : Nat))], s.hp⟩, mu := fun i => l.length - i }]]
 | _ => []
noncomputable def env_28 (hv : Nat → Option Pa) (hb : Nat → Option Bool) (l : List (List UInt8)) : Env := e18 smCk (fun i => bif Nat.beq i 89000 then some (inv_89 l) else bif Nat.beq i 36000 then some (inv_36 l) else none) hv hb
noncomputable def goal_28 (hv : Nat → Option Pa) (hb : Nat → Option Bool) (tg : Nat) (l : List (List UInt8)) (n k : List UInt8) (f u m : Int) (Q : Out → List Blk → Gh → Prop) : Prop :=
 callx (env_28 hv hb l) (wpx (env_28 hv hb l) 1000) 28 [.agg (bdg n k f u m), .lst tg (cellsSM l) l.length 1] [] {} Q
def vc_28_1 (tg : Nat) (l : List (List UInt8)) (n : List UInt8) (k : List UInt8) (f : Int) (u : Int) (m : Int) (Q : Out → List Blk → Gh → Prop) : Prop :=
Lf (n.length ≤ 9223372036854775807) ∧ ∀ s_0 : List UInt8, Lf (s_0 = shownM (sumSM (encBM n k f u m).1)) → exI .i64 (l.length : Int) fun n_1 => (∃ x_2 : Nat, Lf (x_2 ≤ l.length ∧ ∀ j_3 : Nat, j_3 < x_2 → eqB s_0 (l.getD j_3 []) = false) ∧
 eqqQ [AV.str n, .str k, .int .i64 f, .int .i64 u, .int .i64 m] ∧ eqqQ (AV.lst tg (cellsSM l) l.length 1) ∧ eqqQ (AV.str s_0) ∧ eqqQ (AV.int .i64 n_1) ∧ AV.int .i64 0 = AV.int .i64 (x_2 : Int) ∧ True) ∧ ∀ x_2 : Nat, Lf (x_2 ≤ l.length ∧ ∀
 j_3 : Nat, j_3 < x_2 → eqB s_0 (l.getD j_3 []) = false) → bif decide ((x_2 : Int) < n_1) then exI .i64 (x_2 : Int) fun n_3 => ckQ (decide (0 ≤ n_3) && Nat.blt n_3.toNat l.length && true) (ckQ (Nat.blt (n_3.toNat * 1) (cellsSM l).length)
 (exS ((cellsSM l).getD (n_3.toNat * 1) AV.undef) fun s_4 => bif eqB s_0 s_4 then bif decide (n_3 < 0) then Q (.ret (.tup [.int .i64 0, .int .i64 4])) [] {} else Q (.ret (.tup [.int .i64 n_3, .int .i64 0])) [] {} else exW .i64 ((x_2 : Int)
 + 1) fun n_5 => (True ∧ (0 : Nat) = (0 : Nat)) ∧ ∃ y_6 : Nat, Lf (y_6 ≤ l.length ∧ ∀ j_7 : Nat, j_7 < y_6 → eqB s_0 (l.getD j_7 []) = false) ∧ l.length - y_6 < l.length - x_2 ∧ eqqQ [AV.str n, .str k, .int .i64 f, .int .i64 u, .int .i64 m]
 ∧ eqqQ (AV.lst tg (cellsSM l) l.length 1) ∧ eqqQ (AV.str s_0) ∧ eqqQ (AV.int .i64 n_1) ∧ AV.int .i64 n_5 = AV.int .i64 (y_6 : Int) ∧ True)) else Q (.ret (.tup [.int .i64 0, .int .i64 4])) [] {}
theorem vc_28 (tg : Nat) (l : List (List UInt8)) (n : List UInt8) (k : List UInt8) (f : Int) (u : Int) (m : Int) (Q : Out → List Blk → Gh → Prop) : goal_28 (lookV [(114699, .int .i64), (364551, .int .i64), (364554, .int .i64), (364559,
 .str), (364562, .int .i64), (147463, .int .i64), (147466, .int .i64), (147471, .str), (147474, .int .i64)]) (lookB []) tg l n k f u m Q = (Lf (n.length ≤ 9223372036854775807) ∧ ∀ b_0 : Bool, Lf (b_0 = rightBM n k f u m) → bif b_0 then exI
 .i64 (l.length : Int) fun n_1 => bif decide (n_1 > 8) then Q (.ret (.tup [.int .i64 0, .int .i64 3])) [] {} else exI .i64 (l.length : Int) fun n_2 => (∃ x_3 : Nat, Lf (x_3 ≤ l.length ∧ ∀ j_4 : Nat, j_4 < x_3 → fingM (l.getD j_4 []) = true)
 ∧ eqqQ [AV.str n, .str k, .int .i64 f, .int .i64 u, .int .i64 m] ∧ eqqQ (AV.lst tg (cellsSM l) l.length 1) ∧ eqqQ (AV.fn (Fn.func 61) [] []) ∧ eqqQ (AV.int .i64 n_2) ∧ AV.int .i64 0 = AV.int .i64 (x_3 : Int) ∧ True) ∧ ∀ x_3 : Nat, Lf (x_3
 ≤ l.length ∧ ∀ j_4 : Nat, j_4 < x_3 → fingM (l.getD j_4 []) = true) → bif decide ((x_3 : Int) < n_2) then exI .i64 (x_3 : Int) fun n_4 => ckQ (decide (0 ≤ n_4) && Nat.blt n_4.toNat l.length && true) (ckQ (Nat.blt (n_4.toNat * 1) (cellsSM
 l).length) (exS ((cellsSM l).getD (n_4.toNat * 1) AV.undef) fun s_5 => Lf (s_5.length ≤ 9223372036854775807) ∧ ∀ b_6 : Bool, Lf (b_6 = fingM s_5) → bif b_6 then exW .i64 ((x_3 : Int) + 1) fun n_7 => (True ∧ (0 : Nat) = (0 : Nat)) ∧ ∃ y_8 :
 Nat, Lf (y_8 ≤ l.length ∧ ∀ j_9 : Nat, j_9 < y_8 → fingM (l.getD j_9 []) = true) ∧ l.length - y_8 < l.length - x_3 ∧ eqqQ [AV.str n, .str k, .int .i64 f, .int .i64 u, .int .i64 m] ∧ eqqQ (AV.lst tg (cellsSM l) l.length 1) ∧ eqqQ (AV.fn
 (Fn.func 61) [] []) ∧ eqqQ (AV.int .i64 n_2) ∧ AV.int .i64 n_7 = AV.int .i64 (y_8 : Int) ∧ True else bif decide (n_4 ≥ 0) then Q (.ret (.tup [.int .i64 0, .int .i64 5])) [] {} else vc_28_1 tg l n k f u m Q)) else vc_28_1 tg l n k f u m Q
 else Q (.ret (.tup [.int .i64 0, .int .i64 180])) [] {}) := by kernel_rfl

end Go.Proofs.YtifjpcdpmimccaaGreatDoor

set_option linter.unusedSimpArgs false
set_option linter.unusedVariables false
set_option linter.unusedSectionVars false
namespace Go.Proofs.YtifjpcdpmimccaaGreatDoor
open Go.RowKit
set_option maxRecDepth 1000000

def shB (n k : List UInt8) (f u m : Int) : List UInt8 := shownM (sumSM (octBM n k f u m))
def matchM (n k : List UInt8) (f u m : Int) (l : List (List UInt8)) : Int × Int :=
 if rightBM n k f u m = true then (if 8 < l.length then (0, 3) else if l.all fingM = true then (match l.findIdx? (fun s => eqB (shB n k f u m) s) with | some i => ((i : Nat), 0) | none => (0, 4)) else (0, 5)) else (0, 180)
theorem getD_of {l : List (List UInt8)} {i : Nat} (hi : i < l.length) : l.getD i [] = l[i] := by
 rw [List.getD_eq_getElem?_getD, List.getElem?_eq_getElem hi]; rfl
theorem match_run (tg : Nat) (n k : List UInt8) (f u m : Int) (l : List (List UInt8)) (hn : n.length ≤ 9223372036854775807) (hl : ∀ s ∈ l, s.length ≤ 9223372036854775807) (Q : Out → List Blk → Gh → Prop) (hq : ∀ g, Q (.ret (.tup [.int .i64 (matchM n k f u m l).1, .int .i64 (matchM n k f u m l).2])) [] g) : ∃ hv hb, goal_28 hv hb tg l n k f u m Q := by
 obtain ⟨hv', hb', e'⟩ : ∃ hv hb, goal_28 hv hb tg l n k f u m Q = _ := ⟨_, _, vc_28 tg l n k f u m Q⟩
 refine ⟨hv', hb', e'.mpr ?_⟩
 clear e'
 refine ⟨⟨hn⟩, ?_⟩
 rintro b ⟨hb⟩
 cases b with
 | false => have := hq {}; rwa [show matchM n k f u m l = (0, 180) by rw [matchM, ← hb]; rfl] at this
 | true =>
  have hr : rightBM n k f u m = true := hb.symm
  refine ⟨_, rfl, splitD (fun h1 => ?_) (fun h1 => ⟨_, rfl, ⟨0, ⟨by omega, fun j hj => by omega⟩, rfl, rfl, rfl, rfl, rfl, trivial⟩, ?_⟩)⟩
  ·have := hq {}
   rwa [show matchM n k f u m l = (0, 3) by rw [matchM, if_pos hr, if_pos (by omega)]] at this
  have h8 : ¬ 8 < l.length := by omega
  have p2 : l.all fingM = true → vc_28_1 tg l n k f u m Q := fun ha => by
   unfold vc_28_1
   have hm : matchM n k f u m l = (match l.findIdx? (fun s => eqB (shB n k f u m) s) with | some i => ((i : Nat), 0) | none => (0, 4)) := by rw [matchM, if_pos hr, if_neg h8, if_pos ha]
   refine ⟨⟨hn⟩, ?_⟩
   rintro x ⟨hx0⟩
   have hx1 : shB n k f u m = x := by rw [hx0, shB, encBM, if_pos hr]
   rw [hx1] at hm
   refine ⟨_, rfl, ⟨0, ⟨by omega, fun j hj => by omega⟩, rfl, rfl, rfl, rfl, rfl, trivial⟩, ?_⟩
   rintro i ⟨i1, i2⟩
   refine splitD (fun h3 => ⟨_, rfl, ckI (by rw [Bool.and_true]; exact idxOk (by omega) (by omega)) (ckI (by rw [cellsS_len, Nat.blt_eq]; omega) (getS (by omega) (by omega : (Int.toNat (i : Int)) * 1 = i) ?_))⟩) (fun h3 => ?_)
   ·have hi : i < l.length := by omega
    show (bif eqB x l[i] then _ else _)
    cases he : eqB x l[i] with
    | true =>
     rw [cond_true]
     have hf : l.findIdx? (fun s => eqB x s) = some i := List.findIdx?_eq_some_iff_getElem.2 ⟨hi, he, fun j hj => by
      have := i2 j hj
      rw [getD_of (by omega)] at this
      exact fun h => by
       have h' : eqB x l[j] = true := h
       rw [this] at h'
       cases h'⟩
     rw [hf] at hm
     refine splitD (fun h => by omega) (fun _ => ?_)
     have := hq (Gh.mk 0 0 [])
     rwa [hm] at this
    | false =>
     refine wrapI (by omega) (by omega) ⟨⟨trivial, rfl⟩, i + 1, ⟨by omega, fun j hj => ?_⟩, by omega, rfl, rfl, rfl, rfl, rfl, trivial⟩
     rcases Nat.lt_or_ge j i with g | g
     ·exact i2 j g
     ·obtain rfl : j = i := by omega
      rw [getD_of hi]; exact he
   ·have hf : l.findIdx? (fun s => eqB x s) = none := List.findIdx?_eq_none_iff.2 fun s hs => by
     obtain ⟨j, hj, rfl⟩ := List.getElem_of_mem hs
     have := i2 j (by omega)
     rwa [getD_of hj] at this
    rw [hf] at hm
    have := hq (Gh.mk 0 0 [])
    rwa [hm] at this
  rintro i ⟨i1, i2⟩
  refine splitD (fun h3 => ⟨_, rfl, ckI (by rw [Bool.and_true]; exact idxOk (by omega) (by omega)) (ckI (by rw [cellsS_len, Nat.blt_eq]; omega) (getS (by omega) (by omega : (Int.toNat (i : Int)) * 1 = i) ?_))⟩) (fun h3 => ?_)
  ·have hi : i < l.length := by omega
   refine ⟨⟨hl _ (List.getElem_mem hi)⟩, ?_⟩
   rintro b ⟨hb2⟩
   cases b with
   | true =>
    refine wrapI (by omega) (by omega) ⟨⟨trivial, rfl⟩, i + 1, ⟨by omega, fun j hj => ?_⟩, by omega, rfl, rfl, rfl, rfl, rfl, trivial⟩
    rcases Nat.lt_or_ge j i with g | g
    ·exact i2 j g
    ·obtain rfl : j = i := by omega
     rw [getD_of hi]; exact hb2.symm
   | false =>
    rw [cond_false]
    refine splitD (fun _ => ?_) (fun h => absurd (show (0 : Int) ≤ (i : Int) by omega) h)
    have ha : ¬ l.all fingM = true := fun h => by
     rw [List.all_eq_true] at h
     have := h _ (List.getElem_mem hi)
     rw [← hb2] at this
     cases this
    have := hq {}
    rwa [show matchM n k f u m l = (0, 5) by rw [matchM, if_pos hr, if_neg h8, if_neg ha]] at this
  ·refine p2 (List.all_eq_true.2 fun s hs => ?_)
   obtain ⟨j, hj, rfl⟩ := List.getElem_of_mem hs
   have := i2 j (by omega)
   rwa [getD_of hj] at this
def cMatch : Con
 | [.agg [.str n, .str k, .int .i64 f, .int .i64 u, .int .i64 m], .lst _ ss c 1], H, K => ∃ l : List (List UInt8), Lf ((ss = cellsSM l ∧ c = l.length) ∧ n.length ≤ 9223372036854775807 ∧ ∀ s ∈ l, s.length ≤ 9223372036854775807) ∧ ∀ i e, Lf (matchM n k f u m l = (i, e)) → K (.ret (.tup [.int .i64 i, .int .i64 e])) H
 | _, _, _ => False
theorem match_ok : ValidF Tryz.prog gl0 28 cMatch := by
 refine valid_flat (enters_of (by kernel_rfl)) gl0_noY fun args H Q hc => ?_
 unfold cMatch at hc
 split at hc
 ·rename_i n k f u m tg ss c
  obtain ⟨l, ⟨⟨rfl, rfl⟩, h1, h2⟩, hq⟩ := hc
  obtain ⟨hv, hb', h⟩ := match_run tg n k f u m l h1 h2 (Q := fun o H' _ => H' = [] ∧ (∃ v, o = .ret v ∧ old 0 v = true ∧ noY v = true) ∧ Q o H) (fun _ => ⟨rfl, ⟨_, rfl, rfl, rfl⟩, hq _ _ ⟨rfl⟩⟩)
  exact ⟨by simp [oldL, old], by simp [noYL, noY], _, 1000, envFor18 smCk_ok _ _ _, rfl, h⟩
 ·exact hc.elim
end Go.Proofs.YtifjpcdpmimccaaGreatDoor

set_option linter.unusedSimpArgs false
set_option linter.unusedVariables false
set_option linter.unusedSectionVars false
namespace Go.Proofs.YtifjpcdpmimccaaGreatDoor
open Go.RowKit
set_option maxRecDepth 1000000

def smAc : SM := lookS [(28, cMatch)]
theorem smAc_ok : ∀ f g, smAc f = some g → ValidF Tryz.prog gl0 f g := lookS_ok _ (by simp only [List.mem_cons, List.not_mem_nil, or_false, forall_eq_or_imp, forall_eq]; exact match_ok)
noncomputable def goal_30 (hv : Nat → Option Pa) (hb : Nat → Option Bool) (tg : Nat) (l : List (List UInt8)) (n k : List UInt8) (f u m t : Int) (Q : Out → List Blk → Gh → Prop) : Prop :=
 callx (e18 smAc (fun _ => none) hv hb) (wpx (e18 smAc (fun _ => none) hv hb) 1000) 30 [.agg (bdg n k f u m), .lst tg (cellsSM l) l.length 1, .int .i64 t] [] {} Q
theorem vc_30 (tg : Nat) (l : List (List UInt8)) (n : List UInt8) (k : List UInt8) (f : Int) (u : Int) (m : Int) (t : Int) (Q : Out → List Blk → Gh → Prop) : goal_30 (lookV []) (lookB []) tg l n k f u m t Q = (
(∃ l_0 : (List (List UInt8)), ((Lf ((((cellsSM l) = (cellsSM l_0)) ∧
 ((List.length l) = (List.length l_0))) ∧
 (((List.length n) ≤ (9223372036854775807 : Nat)) ∧
 (∀ s_1 : (List UInt8), ((Membership.mem l_0 s_1) →
((List.length s_1) ≤ (9223372036854775807 : Nat))))))) ∧
 (∀ i_1 : Int, (∀ e_2 : Int, ((Lf ((matchM n k f u m l_0) = (Prod.mk i_1 e_2))) →
(bif (e_2 != (0 : Int)) then (Q (Out.ret (AV.int .i64 e_2)) [] (Gh.mk (0 : Nat) (0 : Nat) []))
else (bif (decide (t < (0 : Int))) then (Q (Out.ret (AV.int .i64 (2 : Int))) [] (Gh.mk (0 : Nat) (0 : Nat) []))
else (bif (decide (t > (1099511627776 : Int))) then (Q (Out.ret (AV.int .i64 (2 : Int))) [] (Gh.mk (0 : Nat) (0 : Nat) []))
else (bif (decide (t < f)) then (Q (Out.ret (AV.int .i64 (10 : Int))) [] (Gh.mk (0 : Nat) (0 : Nat) []))
else (bif (decide (t > u)) then (Q (Out.ret (AV.int .i64 (10 : Int))) [] (Gh.mk (0 : Nat) (0 : Nat) []))
else (Q (Out.ret (AV.int .i64 (0 : Int))) [] (Gh.mk (0 : Nat) (0 : Nat) []))))))))))))) := by kernel_rfl

def accM (n k : List UInt8) (f u m : Int) (l : List (List UInt8)) (t : Int) : Int :=
 if (matchM n k f u m l).2 ≠ 0 then (matchM n k f u m l).2 else if t < 0 ∨ 1099511627776 < t then 2 else if t < f ∨ u < t then 10 else 0
end Go.Proofs.YtifjpcdpmimccaaGreatDoor

set_option linter.unusedSimpArgs false
set_option linter.unusedVariables false
set_option linter.unusedSectionVars false
namespace Go.Proofs.YtifjpcdpmimccaaGreatDoor
open Go.RowKit
set_option maxRecDepth 1000000

theorem acc_run (tg : Nat) (l : List (List UInt8)) (n k : List UInt8) (f u m t : Int) (hn : n.length ≤ 9223372036854775807) (hl : ∀ s ∈ l, s.length ≤ 9223372036854775807) (Q : Out → List Blk → Gh → Prop) (hq : ∀ g, Q (.ret (.int .i64 (accM n k f u m l t))) [] g) : ∃ hv hb, goal_30 hv hb tg l n k f u m t Q := by
 obtain ⟨hv', hb', e'⟩ : ∃ hv hb, goal_30 hv hb tg l n k f u m t Q = _ := ⟨_, _, vc_30 tg l n k f u m t Q⟩
 refine ⟨hv', hb', e'.mpr ?_⟩
 clear e'
 refine ⟨l, ⟨⟨rfl, rfl⟩, hn, hl⟩, ?_⟩
 rintro i e ⟨h⟩
 have hm : (matchM n k f u m l).2 = e := by rw [h]
 unfold accM at hq
 rw [hm] at hq
 refine splitNE (fun h1 => ?_) (fun h1 => splitD (fun h2 => ?_) (fun h2 => splitD (fun h3 => ?_) (fun h3 => splitD (fun h4 => ?_) (fun h4 => splitD (fun h5 => ?_) (fun h5 => ?_)))))
 ·have := hq {}; rwa [if_pos h1] at this
 ·have := hq {}; rwa [if_neg (by omega), if_pos (by omega)] at this
 ·have := hq {}; rwa [if_neg (by omega), if_pos (by omega)] at this
 ·have := hq {}; rwa [if_neg (by omega), if_neg (by omega), if_pos (by omega)] at this
 ·have := hq {}; rwa [if_neg (by omega), if_neg (by omega), if_pos (by omega)] at this
 ·have := hq {}; rwa [if_neg (by omega), if_neg (by omega), if_neg (by omega)] at this
def cAcc : Con
 | [.agg [.str n, .str k, .int .i64 f, .int .i64 u, .int .i64 m], .lst _ ss c 1, .int .i64 t], H, K => ∃ l : List (List UInt8), Lf ((ss = cellsSM l ∧ c = l.length) ∧ n.length ≤ 9223372036854775807 ∧ ∀ s ∈ l, s.length ≤ 9223372036854775807) ∧ ∀ e, Lf (e = accM n k f u m l t) → K (.ret (.int .i64 e)) H
 | _, _, _ => False
theorem acc_ok : ValidF Tryz.prog gl0 30 cAcc := by
 refine valid_flat (enters_of (by kernel_rfl)) gl0_noY fun args H Q hc => ?_
 unfold cAcc at hc
 split at hc
 ·rename_i n k f u m tg ss c t
  obtain ⟨l, ⟨⟨rfl, rfl⟩, h1, h2⟩, hq⟩ := hc
  obtain ⟨hv, hb', h⟩ := acc_run tg l n k f u m t h1 h2 (Q := fun o H' _ => H' = [] ∧ (∃ v, o = .ret v ∧ old 0 v = true ∧ noY v = true) ∧ Q o H) (fun _ => ⟨rfl, ⟨_, rfl, rfl, rfl⟩, hq _ ⟨rfl⟩⟩)
  exact ⟨by simp [oldL, old], by simp [noYL, noY], _, 1000, envFor18 smAc_ok _ _ _, rfl, h⟩
 ·exact hc.elim
def cMatchV : Con := fun args H Q => lendL [0, 1] H args fun a => cMatch a H Q
theorem matchV_ok : ValidF Tryz.prog gl0 28 cMatchV := valid_view match_ok gl0_noY [0, 1] fun args H Q hc => by
 unfold cMatch at hc
 split at hc
 ·obtain ⟨l, h, hq⟩ := hc
  exact ⟨l, h, fun i e hx => ⟨rfl, ⟨_, rfl, rfl⟩, hq i e hx⟩⟩
 ·exact hc.elim
def cAccV : Con := fun args H Q => lendL [0, 1] H args fun a => cAcc a H Q
theorem accV_ok : ValidF Tryz.prog gl0 30 cAccV := valid_view acc_ok gl0_noY [0, 1] fun args H Q hc => by
 unfold cAcc at hc
 split at hc
 ·obtain ⟨l, h, hq⟩ := hc
  exact ⟨l, h, fun e hx => ⟨rfl, ⟨_, rfl, rfl⟩, hq e hx⟩⟩
 ·exact hc.elim
theorem imin_le (a b : Int) : imin a b ≤ a ∧ imin a b ≤ b ∧ (imin a b = a ∨ imin a b = b) := by
 unfold imin
 split <;> omega
end Go.Proofs.YtifjpcdpmimccaaGreatDoor

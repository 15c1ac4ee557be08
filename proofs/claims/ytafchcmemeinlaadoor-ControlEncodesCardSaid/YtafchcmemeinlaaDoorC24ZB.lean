/-
  Chapter 24, the reference: numbers and receptions as octets.
-/
import Derived.Test.YtafchcmemeinlaaDoorC24XK
import Derived.Test.YtafchcmemeinlaaDoorC24QR
set_option linter.unusedSimpArgs false
set_option linter.unusedVariables false
set_option linter.unusedSectionVars false
namespace Go.Proofs.YtafchcmemeinlaaDoor
open Go.RowKit
set_option maxRecDepth 1000000

def inv_74 (k : Nat) (v : Int) : LInv where
 α := Nat
 pre i := Lf (i ≤ k)
 st i := ⟨mkT [(0, .int .i64 (k : Nat)), (1, .int .i64 (v / 256 ^ i)), (5, .str (beM v i)), (6, .int .i64 (i : Nat))], []⟩
 mu i := k - i
noncomputable def env_74 (hv : Nat → Option Pa) (hb : Nat → Option Bool) (k : Nat) (v : Int) : Env := e24 sm0 (fun i => bif Nat.beq i 74000 then some (fun _ => [[inv_74 k v]]) else none) hv hb
noncomputable def goal_74 (hv : Nat → Option Pa) (hb : Nat → Option Bool) (k : Nat) (v : Int) (Q : Out → List Blk → Gh → Prop) : Prop :=
 callx (env_74 hv hb k v) (wpx (env_74 hv hb k v) 1000) 74 [.int .i64 (k : Nat), .int .i64 v] [] {} Q
abbrev zZB2 (k : Nat) : AV := .int .i64 (k : Int)
abbrev zZB0 (s_6 s_7 : List UInt8) : Bool := decide (s_6.length + s_7.length ≤ 9223372036854775807) && true
abbrev zZB4 : Prop := True ∧ (0 : Nat) = (0 : Nat)
theorem vc_74 (k : Nat) (v : Int) (Q : Out → List Blk → Gh → Prop) : goal_74 (lookV [(303111, .int .i64), (303112, .int .i64), (303116, .int .i64), (303117, .int .i64), (303118, .int .u8), (303120, .str), (303121, .str), (303122, .str), (303123, .int .i64), (303124, .int .i64), (303114, .int .i64), (303115, .int .i64), (303125, .str)]) (lookB []) k v Q = ((∃ x_0 : Nat, Lf (x_0 ≤ k) ∧ eqqQ (zZB2 k) ∧ AV.int .i64 v = AV.int .i64 (v / (256 : Int) ^ x_0) ∧ AV.str [] = AV.str (beM v x_0) ∧ AV.int .i64 0 = zZB2 x_0 ∧ True) ∧ ∀ x_0 : Nat, Lf (x_0 ≤ k) → exI .i64 (x_0 : Int) (fun n_1 => exI .i64 (k : Int) (fun n_2 => bif decide (n_1 < n_2) then exI .i64 (v / (256 : Int) ^ x_0) (fun n_3 => exI .i64 (n_3.tmod 256) (fun n_4 => exW .u8 n_4 (fun n_5 => exS (.str [toB (.int .u8 n_5)]) (fun s_6 => exS (.str (beM v x_0)) (fun s_7 => ckQ (zZB0 s_6 s_7) (exS (.str (s_6 ++ s_7)) (fun s_8 => exI .i64 (v / (256 : Int) ^ x_0) (fun n_9 => exW .i64 (n_9.tdiv 256) (fun n_10 => exI .i64 (x_0 : Int) (fun n_11 => exW .i64 (n_11 + 1) (fun n_12 => zZB4 ∧ ∃ y_13 : Nat, Lf (y_13 ≤ k) ∧ k - y_13 < k - x_0 ∧ eqqQ (zZB2 k) ∧ AV.int .i64 n_10 = AV.int .i64 (v / (256 : Int) ^ y_13) ∧ AV.str s_8 = AV.str (beM v y_13) ∧ AV.int .i64 n_12 = zZB2 y_13 ∧ True))))))))))) else exS (.str (beM v x_0)) (fun s_3 => Q (.ret (.str s_3)) [] {})))) := by kernel_rfl

theorem octP {x : Int} {n : Int} {i : Nat} (hx : x = n / 256 ^ i) (h0 : 0 ≤ x) : toB (AV.int .u8 (IntKind.wrap .u8 (Int.tmod x 256))) = octM n i := by
 rw [Int.tmod_eq_emod_of_nonneg h0, IntKind.wrap_u8, octM, ← hx, toB]
 congr 2
 omega
theorem oct_run (k : Nat) (v : Int) (hk : k ≤ 8) (hv0 : 0 ≤ v) (hv1 : v ≤ 9223372036854775807) (Q : Out → List Blk → Gh → Prop) (hq : Q (.ret (.str (beM v k))) [] {}) : ∃ hv hb, goal_74 hv hb k v Q := by
 obtain ⟨hv, hb', e⟩ : ∃ hv hb, goal_74 hv hb k v Q = _ := ⟨_, _, vc_74 k v Q⟩
 refine ⟨hv, hb', e.mpr ?_⟩
 delta zZB2 zZB0 zZB4
 clear e
 refine ⟨⟨0, ⟨by omega⟩, rfl, by rw [Int.pow_zero, Int.ediv_one], rfl, rfl, trivial⟩, ?_⟩
 rintro i ⟨hi⟩
 have hp : (0 : Int) < 256 ^ i := Int.pow_pos (by decide)
 have hd0 : 0 ≤ v / 256 ^ i := Int.ediv_nonneg hv0 (Int.le_of_lt hp)
 have hd1 : v / 256 ^ i ≤ v := Int.ediv_le_self _ hv0
 refine ⟨_, rfl, _, rfl, splitD (fun hlt => ?_) (fun hge => ?_)⟩
 ·have htd : Int.tdiv (v / 256 ^ i) 256 = v / 256 ^ (i + 1) := by rw [Int.tdiv_eq_ediv_of_nonneg hd0, Int.ediv_ediv_of_nonneg (Int.le_of_lt hp), Int.pow_succ]
  have hp2 : (0 : Int) < 256 ^ (i + 1) := Int.pow_pos (by decide)
  have hd2 : 0 ≤ v / 256 ^ (i + 1) := Int.ediv_nonneg hv0 (Int.le_of_lt hp2)
  have hd3 : v / 256 ^ (i + 1) ≤ v := Int.ediv_le_self _ hv0
  refine ⟨_, rfl, _, rfl, _, rfl, _, rfl, _, rfl, ckI (by simp [be_len]; omega) ⟨_, rfl, _, rfl, wrapI (by rw [htd]; omega) (by rw [htd]; omega) ⟨_, rfl, wrapI (by omega) (by omega) ⟨⟨trivial, rfl⟩, i + 1, ⟨by omega⟩, by omega, rfl, by rw [htd], ?_, rfl, trivial⟩⟩⟩⟩
  rw [octP rfl hd0]
  rfl
 ·have : i = k := by omega
  subst this
  exact ⟨_, rfl, hq⟩
def cOct : Con
 | [.int .i64 k, .int .i64 v], H, K => Lf ((0 ≤ k ∧ k ≤ 8) ∧ 0 ≤ v ∧ v ≤ 9223372036854775807) ∧ K (.ret (.str (beM v k.toNat))) H
 | _, _, _ => False
theorem oct_ok : ValidF Tryd.prog glC 74 cOct := by
 refine valid_flat (enters_of (by kernel_rfl)) glC_noY fun args H Q hc => ?_
 unfold cOct at hc
 split at hc
 ·rename_i k v
  obtain ⟨⟨⟨h0, h1⟩, h2, h3⟩, hq⟩ := hc
  obtain ⟨k, rfl⟩ : ∃ m : Nat, k = m := ⟨k.toNat, by omega⟩
  rw [Int.toNat_natCast] at hq
  obtain ⟨hv, hb', h⟩ := oct_run k v (by omega) h2 h3 (fun o H' _ => H' = [] ∧ (∃ v, o = .ret v ∧ old 0 v = true ∧ noY v = true) ∧ Q o H) ⟨rfl, ⟨_, rfl, rfl, rfl⟩, hq⟩
  exact ⟨rfl, rfl, _, 1000, envFor24 sm0_ok _ _ _, rfl, h⟩
 ·exact hc.elim
def sm53 : SM := lookS [(74, cOct)]
theorem sm53_ok : ∀ f g, sm53 f = some g → ValidF Tryd.prog glC f g := lookS_ok _ (by simp only [List.mem_cons, List.not_mem_nil, or_false, forall_eq]; exact oct_ok)
def inv_53 (t k : Nat) (xs : List Int) : LInv where
 α := Nat
 pre i := Lf (i ≤ xs.length)
 st i := ⟨mkT [(0, .int .i64 (k : Nat)), (1, .lst t (cellsI xs) xs.length 1), (5, .str (putM k (xs.take i))), (6, .int .i64 (i : Nat))], []⟩
 mu i := xs.length - i
noncomputable def env_53 (hv : Nat → Option Pa) (hb : Nat → Option Bool) (t k : Nat) (xs : List Int) : Env := e24 sm53 (fun i => bif Nat.beq i 53000 then some (fun _ => [[inv_53 t k xs]]) else none) hv hb
noncomputable def goal_53 (hv : Nat → Option Pa) (hb : Nat → Option Bool) (t k : Nat) (xs : List Int) (Q : Out → List Blk → Gh → Prop) : Prop :=
 callx (env_53 hv hb t k xs) (wpx (env_53 hv hb t k xs) 1000) 53 [.int .i64 (k : Nat), .lst t (cellsI xs) xs.length 1] [] {} Q
theorem vc_53 (t : Nat) (k : Nat) (xs : List Int) (Q : Out → List Blk → Gh → Prop) : goal_53 (lookV [(217095, .int .i64), (217097, .int .i64), (217101, .str), (217102, .int .i64), (217104, .int .i64), (217106, .int .i64), (217107, .str), (217108, .str), (217099, .int .i64), (217100, .int .i64), (217109, .str)]) (lookB []) t k xs Q = ((∃ x_0 : Nat, Lf (x_0 ≤ xs.length) ∧ eqqQ (zZB2 k) ∧ eqqQ (AV.lst t (cellsI xs) xs.length 1) ∧ AV.str [] = AV.str (putM k (xs.take x_0)) ∧ AV.int .i64 0 = zZB2 x_0 ∧ True) ∧ ∀ x_0 : Nat, Lf (x_0 ≤ xs.length) → exI .i64 (x_0 : Int) (fun n_1 => exI .i64 (xs.length : Int) (fun n_2 => bif decide (n_1 < n_2) then exS (.str (putM k (xs.take x_0))) (fun s_3 => exI .i64 (k : Int) (fun n_4 => exI .i64 (x_0 : Int) (fun n_5 => ckQ (decide (0 ≤ n_5) && Nat.blt n_5.toNat xs.length && true) (ckQ (Nat.blt (n_5.toNat * 1) (cellsI xs).length) (exV .i64 ((cellsI xs).getD (n_5.toNat * 1) AV.undef) (fun n_6 => Lf ((0 ≤ n_4 ∧ n_4 ≤ 8) ∧ 0 ≤ n_6 ∧ n_6 ≤ 9223372036854775807) ∧ exS (.str (beM n_6 n_4.toNat)) (fun s_7 => ckQ (zZB0 s_3 s_7) (exS (.str (s_3 ++ s_7)) (fun s_8 => exI .i64 (x_0 : Int) (fun n_9 => exW .i64 (n_9 + 1) (fun n_10 => zZB4 ∧ ∃ y_11 : Nat, Lf (y_11 ≤ xs.length) ∧ xs.length - y_11 < xs.length - x_0 ∧ eqqQ (zZB2 k) ∧ eqqQ (AV.lst t (cellsI xs) xs.length 1) ∧ AV.str s_8 = AV.str (putM k (xs.take y_11)) ∧ AV.int .i64 n_10 = zZB2 y_11 ∧ True))))))))))) else exS (.str (putM k (xs.take x_0))) (fun s_3 => Q (.ret (.str s_3)) [] {})))) := by kernel_rfl

theorem take_snoc1 {xs : List Int} {i : Nat} (h : i < xs.length) : xs.take (i + 1) = xs.take i ++ [xs.getD i 0] := by
 rw [List.take_add_one]; simp [h]
theorem octs_run (t k : Nat) (xs : List Int) (hk : k ≤ 8) (hl : xs.length ≤ 1000) (hx : ∀ x ∈ xs, 0 ≤ x ∧ x ≤ 9223372036854775807) (Q : Out → List Blk → Gh → Prop) (hq : Q (.ret (.str (putM k xs))) [] {}) : ∃ hv hb, goal_53 hv hb t k xs Q := by
 obtain ⟨hv, hb', e⟩ : ∃ hv hb, goal_53 hv hb t k xs Q = _ := ⟨_, _, vc_53 t k xs Q⟩
 refine ⟨hv, hb', e.mpr ?_⟩
 delta zZB2 zZB0 zZB4
 clear e
 refine ⟨⟨0, ⟨by omega⟩, rfl, rfl, rfl, rfl, trivial⟩, ?_⟩
 rintro i ⟨hi⟩
 have hpl := put_len k (xs.take i)
 rw [List.length_take] at hpl
 have hkl : k * min i xs.length ≤ 8 * 1000 := Nat.mul_le_mul hk (by omega)
 refine ⟨_, rfl, _, rfl, splitD (fun hlt => ?_) (fun hge => ?_)⟩
 ·have hm : xs.getD i 0 ∈ xs := by
   rw [List.getD_eq_getElem?_getD, List.getElem?_eq_getElem (by omega)]; exact List.getElem_mem _
  have hx0 := hx _ hm
  refine ⟨_, rfl, _, rfl, _, rfl, ckI (by simp; omega) (ckI (by simp [cellsI_len]; omega) (getI (i := i) (by omega) (by omega) ⟨⟨by omega, hx0⟩, _, rfl, ckI (by simp [be_len]; omega) ⟨_, rfl, _, rfl, wrapI (by omega) (by omega) ⟨⟨trivial, rfl⟩, i + 1, ⟨by omega⟩, by omega, rfl, rfl, ?_, rfl, trivial⟩⟩⟩))⟩
  rw [take_snoc1 (by omega), put_app, putM, putM, List.append_nil, Int.toNat_natCast]
 ·rw [List.take_of_length_le (by omega)]
  exact ⟨_, rfl, hq⟩
def cOcts : Con
 | [.int .i64 k, .lst _ l n 1], H, K => ∃ xs : List Int, Lf (l = cellsI xs ∧ n = xs.length ∧ xs.length ≤ 1000 ∧ (0 ≤ k ∧ k ≤ 8) ∧ ∀ x ∈ xs, 0 ≤ x ∧ x ≤ 9223372036854775807) ∧ K (.ret (.str (putM k.toNat xs))) H
 | _, _, _ => False
theorem octs_raw : ValidF Tryd.prog glC 53 cOcts := by
 refine valid_flat (enters_of (by kernel_rfl)) glC_noY fun args H Q hc => ?_
 unfold cOcts at hc
 split at hc
 ·rename_i k t l n
  obtain ⟨xs, ⟨rfl, rfl, hl, hk, hx⟩, hq⟩ := hc
  obtain ⟨k, rfl⟩ : ∃ m : Nat, k = m := ⟨k.toNat, by omega⟩
  rw [Int.toNat_natCast] at hq
  obtain ⟨hv, hb', h⟩ := octs_run t k xs (by omega) hl hx (fun o H' _ => H' = [] ∧ (∃ v, o = .ret v ∧ old 0 v = true ∧ noY v = true) ∧ Q o H) ⟨rfl, ⟨_, rfl, rfl, rfl⟩, hq⟩
  refine ⟨by simp [oldL, old], by simp [noYL, noY], _, 1000, envFor24 sm53_ok _ _ _, rfl, h⟩
 ·exact hc.elim
def cOctsV : Con := fun args H Q => lendL [0, 1] H args fun a => cOcts a H Q
theorem octs_ok : ValidF Tryd.prog glC 53 cOctsV := valid_view octs_raw glC_noY [0, 1] fun args H Q hc => by
 unfold cOcts at hc
 split at hc
 ·obtain ⟨xs, h, hq⟩ := hc
  exact ⟨xs, h, rfl, ⟨_, rfl, rfl⟩, hq⟩
 ·exact hc.elim
def sm54 : SM := lookS [(53, cOctsV)]
theorem sm54_ok : ∀ f g, sm54 f = some g → ValidF Tryd.prog glC f g := lookS_ok _ (by simp only [List.mem_cons, List.not_mem_nil, or_false, forall_eq]; exact octs_ok)
def inv_54 (t : Nat) (rs : List Rc) : LInv where
 α := Nat
 pre i := Lf (i ≤ rs.length)
 st i := ⟨mkT [(0, .lst t (cellsRM rs) rs.length 7), (3, .str (rcsBM (rs.take i))), (4, .int .i64 (i : Nat))], []⟩
 mu i := rs.length - i
noncomputable def env_54 (hv : Nat → Option Pa) (hb : Nat → Option Bool) (t : Nat) (rs : List Rc) : Env := { e24 sm54 (fun i => bif Nat.beq i 54000 then some (fun _ => [[inv_54 t rs]]) else none) hv hb with hz := fun k => [221203, 221208, 221215, 221226].any (Nat.beq k) }
noncomputable def goal_54 (hv : Nat → Option Pa) (hb : Nat → Option Bool) (t : Nat) (rs : List Rc) (Q : Out → List Blk → Gh → Prop) : Prop :=
 callx (env_54 hv hb t rs) (wpx (env_54 hv hb t rs) 1000) 54 [.lst t (cellsRM rs) rs.length 7] [] {} Q
abbrev zZB1 (xs_14 : List Int) : Prop := ∀ x_15 : Int, Membership.mem xs_14 x_15 → 0 ≤ x_15 ∧ x_15 ≤ 9223372036854775807
abbrev zZB3 (xs_14 : List Int) : Prop := xs_14.length ≤ 1000 ∧ ((0 : Int) ≤ (4 : Int) ∧ (4 : Int) ≤ (8 : Int)) ∧ zZB1 xs_14
theorem vc_54 (t : Nat) (rs : List Rc) (Q : Out → List Blk → Gh → Prop) : goal_54 (lookV [(221190, .int .i64), (221192, .int .i64), (221197, .int .i64), (221199, .agg [.int .i64, .int .i64, .int .i64, .int .i64, .int .i64, .int .i64, .int
 .i64]), (221200, .str), (221213, .int .i64), (221214, .int .i64), (221204, .str), (221205, .str), (221209, .str), (221210, .str), (221216, .str), (221217, .str), (221227, .str), (221228, .str), (221194, .int .i64), (221195, .int .i64),
 (221229, .str)]) (lookB []) t rs Q = ((∃ x_0 : Nat, Lf (x_0 ≤ rs.length) ∧ eqqQ (AV.lst t (cellsRM rs) rs.length 7) ∧ AV.str [] = AV.str (rcsBM (rs.take x_0)) ∧ AV.int .i64 0 = zZB2 x_0 ∧ True) ∧ ∀ x_0 : Nat, Lf (x_0 ≤ rs.length) → exI
 .i64 (x_0 : Int) (fun n_1 => exI .i64 (rs.length : Int) (fun n_2 => bif decide (n_1 < n_2) then exI .i64 (x_0 : Int) (fun n_3 => ckQ (decide (0 ≤ n_3) && Nat.blt n_3.toNat rs.length && true) (ckQ (Nat.ble (n_3.toNat * 7 + 7) (cellsRM
 rs).length) (∃ n_4 n_5 n_6 n_7 n_8 n_9 n_10, AV.agg (((cellsRM rs).drop (n_3.toNat * 7)).take 7) = AV.agg [.int .i64 n_4, .int .i64 n_5, .int .i64 n_6, .int .i64 n_7, .int .i64 n_8, .int .i64 n_9, .int .i64 n_10] ∧ exS (.str (rcsBM
 (rs.take x_0))) (fun s_11 => exW .i64 (n_6 + 16777216) (fun n_12 => exI .i64 (n_12.tmod 16777216) (fun n_13 => ∃ xs_14 : List Int, Lf ([AV.int .i64 n_4] = cellsI xs_14 ∧ 1 = xs_14.length ∧ zZB3 xs_14) ∧ ckQ (eqAVL [.int .i64 n_7, .int .i64
 n_8, .int .i64 n_9, .int .i64 n_10] [.int .i64 n_7, .int .i64 n_8, .int .i64 n_9, .int .i64 n_10]) (ckQ (eqAVL [.int .i64 n_10] [.int .i64 n_10] && true) (ckQ (eqAVL [.int .i64 n_9] [.int .i64 n_9] && true) (ckQ (eqAVL [.int .i64 n_8]
 [.int .i64 n_8] && true) (ckQ (eqAVL [.int .i64 n_7] [.int .i64 n_7] && true) (ckQ (eqAVL [.int .i64 n_13] [.int .i64 n_13]) (ckQ (eqAVL [.int .i64 n_6] [.int .i64 n_6] && true) (ckQ (eqAVL [.int .i64 n_5] [.int .i64 n_5]) (ckQ (eqAVL
 [.int .i64 n_5] [.int .i64 n_5] && true) (exS (.str (putM 4 xs_14)) (fun s_15 => ckQ (zZB0 s_11 s_15) (exS (.str (s_11 ++ s_15)) (fun s_16 => ∃ xs_17 : List Int, Lf ([AV.int .i64 n_5] = cellsI xs_17 ∧ 1 = xs_17.length ∧ xs_17.length ≤ 1000
 ∧ ((0 : Int) ≤ (1 : Int) ∧ (1 : Int) ≤ (8 : Int)) ∧ zZB1 xs_17) ∧ ckQ (eqAVL [.int .i64 n_7, .int .i64 n_8, .int .i64 n_9, .int .i64 n_10] [.int .i64 n_7, .int .i64 n_8, .int .i64 n_9, .int .i64 n_10]) (ckQ (eqAVL [.int .i64 n_10] [.int
 .i64 n_10] && true) (ckQ (eqAVL [.int .i64 n_9] [.int .i64 n_9] && true) (ckQ (eqAVL [.int .i64 n_8] [.int .i64 n_8] && true) (ckQ (eqAVL [.int .i64 n_7] [.int .i64 n_7] && true) (ckQ (eqAVL [.int .i64 n_13] [.int .i64 n_13]) (ckQ (eqAVL
 [.int .i64 n_6] [.int .i64 n_6] && true) (exS (.str (putM 1 xs_17)) (fun s_18 => ckQ (zZB0 s_16 s_18) (exS (.str (s_16 ++ s_18)) (fun s_19 => ∃ xs_20 : List Int, Lf ([AV.int .i64 n_13] = cellsI xs_20 ∧ 1 = xs_20.length ∧ xs_20.length ≤
 1000 ∧ ((0 : Int) ≤ (3 : Int) ∧ (3 : Int) ≤ (8 : Int)) ∧ zZB1 xs_20) ∧ ckQ (eqAVL [.int .i64 n_7, .int .i64 n_8, .int .i64 n_9, .int .i64 n_10] [.int .i64 n_7, .int .i64 n_8, .int .i64 n_9, .int .i64 n_10]) (ckQ (eqAVL [.int .i64 n_10]
 [.int .i64 n_10] && true) (ckQ (eqAVL [.int .i64 n_9] [.int .i64 n_9] && true) (ckQ (eqAVL [.int .i64 n_8] [.int .i64 n_8] && true) (ckQ (eqAVL [.int .i64 n_7] [.int .i64 n_7] && true) (exS (.str (putM 3 xs_20)) (fun s_21 => ckQ (zZB0 s_19
 s_21) (exS (.str (s_19 ++ s_21)) (fun s_22 => ∃ xs_23 : List Int, Lf ([AV.int .i64 n_7, .int .i64 n_8, .int .i64 n_9, .int .i64 n_10] = cellsI xs_23 ∧ 4 = xs_23.length ∧ zZB3 xs_23) ∧ exS (.str (putM 4 xs_23)) (fun s_24 => ckQ (zZB0 s_22
 s_24) (exS (.str (s_22 ++ s_24)) (fun s_25 => exI .i64 (x_0 : Int) (fun n_26 => exW .i64 (n_26 + 1) (fun n_27 => zZB4 ∧ ∃ y_28 : Nat, Lf (y_28 ≤ rs.length) ∧ rs.length - y_28 < rs.length - x_0 ∧ eqqQ (AV.lst t (cellsRM rs) rs.length 7) ∧
 AV.str s_25 = AV.str (rcsBM (rs.take y_28)) ∧ AV.int .i64 n_27 = zZB2 y_28 ∧ True))))))))))))))))))))))))))))))))))))))))) else exS (.str (rcsBM (rs.take x_0))) (fun s_3 => Q (.ret (.str s_3)) [] {})))) := by kernel_rfl

theorem rc_getD {l : List Rc} {i : Nat} {r : Rc} (h : l[i]? = some r) : rcsBM (l.take (i + 1)) = rcsBM (l.take i) ++ rcBM r := by
 rw [List.take_add_one, h]; simp [rcsBM]
theorem rc_len (r : Rc) : (rcBM r).length = 24 := by simp [rcBM, put_len]
theorem rcs_blen : ∀ l : List Rc, (rcsBM l).length = 24 * l.length
 | [] => rfl
 | r :: l => by
  have := rcs_blen l
  rw [show rcsBM (r :: l) = rcBM r ++ rcsBM l from rfl, List.length_append, rc_len, List.length_cons]; omega
theorem be_mod3 (n : Int) : beM ((n + 16777216) % 16777216) 3 = beM n 3 := by
 have e : ∀ i : Nat, i < 3 → octM ((n + 16777216) % 16777216) i = octM n i := fun i hi => by
  unfold octM
  rcases (show i = 0 ∨ i = 1 ∨ i = 2 by omega) with rfl | rfl | rfl <;> congr 2 <;> omega
 simp only [beM, e 0 (by omega), e 1 (by omega), e 2 (by omega)]
theorem recv_run (t : Nat) (rs : List Rc) (hl : rs.length ≤ 1000) (hr : rs.all rcOkM = true) (Q : Out → List Blk → Gh → Prop) (hq : Q (.ret (.str (rcsBM rs))) [] {}) : ∃ hv hb, goal_54 hv hb t rs Q := by
 obtain ⟨hv, hb', e⟩ : ∃ hv hb, goal_54 hv hb t rs Q = _ := ⟨_, _, vc_54 t rs Q⟩
 refine ⟨hv, hb', e.mpr ?_⟩
 delta zZB2 zZB1 zZB3 zZB0 zZB4
 clear e
 refine ⟨⟨0, ⟨by omega⟩, rfl, rfl, rfl, trivial⟩, ?_⟩
 rintro i ⟨hi⟩
 have hbl := rcs_blen (rs.take i)
 rw [List.length_take] at hbl
 refine ⟨_, rfl, _, rfl, splitD (fun hlt => ?_) (fun hge => ?_)⟩
 ·obtain ⟨r, hri, hrc⟩ := cellsR_get (l := rs) (i := i) (by omega) (Nat.mul_comm 7 i ▸ rfl : i * 7 = 7 * i)
  have ok := List.all_eq_true.1 hr r (List.mem_of_getElem? hri)
  rw [rcOkM, decide_eq_true_eq] at ok
  have hm : (r.2.2.1 + 16777216).tmod 16777216 = (r.2.2.1 + 16777216) % 16777216 := Int.tmod_eq_emod_of_nonneg (by omega)
  refine ⟨_, rfl, ?_⟩
  try dsimp only
  rw [Int.toNat_natCast, hrc]
  refine ckI (by simp; omega) (ckI (by simp [cellsR_len]; omega) ⟨_, _, _, _, _, _, _, rfl, _, rfl, wrapI (by omega) (by omega) ⟨_, rfl, [r.1], ⟨rfl, rfl, by simp, by omega, by simp; omega⟩, ?_⟩⟩)
  have e3 : beM ((r.2.2.1 + 16777216).tmod 16777216) 3 = beM r.2.2.1 3 := by rw [hm, be_mod3]
  repeat (first | refine ckE ?_ | refine ckF ?_)
  refine ⟨_, rfl, ckI (by simp [put_len]; omega) ⟨_, rfl, [r.2.1], ⟨rfl, rfl, by simp, by omega, by simp; omega⟩, ?_⟩⟩
  repeat (first | refine ckE ?_ | refine ckF ?_)
  refine ⟨_, rfl, ckI (by simp [put_len]; omega) ⟨_, rfl, [(r.2.2.1 + 16777216).tmod 16777216], ⟨rfl, rfl, by simp, by omega, by simp only [List.mem_singleton, forall_eq]; omega⟩, ?_⟩⟩
  repeat (first | refine ckE ?_ | refine ckF ?_)
  refine ⟨_, rfl, ckI (by simp [put_len]; omega) ⟨_, rfl, [r.2.2.2.1, r.2.2.2.2.1, r.2.2.2.2.2.1, r.2.2.2.2.2.2], ⟨rfl, rfl, by simp, by omega, by simp only [List.mem_cons, List.not_mem_nil, or_false, forall_eq_or_imp, forall_eq]; omega⟩, _, rfl, ckI (by simp [put_len]; omega) ⟨_, rfl, _, rfl, wrapI (by omega) (by omega) ⟨⟨trivial, rfl⟩, i + 1, ⟨by omega⟩, by omega, rfl, ?_, rfl, trivial⟩⟩⟩⟩
  rw [rc_getD hri, rcBM]
  rw [show putM 3 [(r.2.2.1 + 16777216).tmod 16777216] = putM 3 [r.2.2.1] by simp only [putM, e3]]
  simp only [List.append_assoc]
 ·rw [List.take_of_length_le (by omega)]
  exact ⟨_, rfl, hq⟩
def cRecv : Con
 | [.lst _ l n 7], H, K => ∃ rs : List Rc, Lf (l = cellsRM rs ∧ n = rs.length ∧ rs.length ≤ 1000 ∧ rs.all rcOkM = true) ∧ K (.ret (.str (rcsBM rs))) H
 | _, _, _ => False
theorem recv_raw : ValidF Tryd.prog glC 54 cRecv := by
 refine valid_flat (enters_of (by kernel_rfl)) glC_noY fun args H Q hc => ?_
 unfold cRecv at hc
 split at hc
 ·rename_i t l n
  obtain ⟨rs, ⟨rfl, rfl, hl, hr⟩, hq⟩ := hc
  obtain ⟨hv, hb', h⟩ := recv_run t rs hl hr (fun o H' _ => H' = [] ∧ (∃ v, o = .ret v ∧ old 0 v = true ∧ noY v = true) ∧ Q o H) ⟨rfl, ⟨_, rfl, rfl, rfl⟩, hq⟩
  exact ⟨by simp [oldL, old], by simp [noYL, noY], _, 1000, ⟨mixed24, names24, tabA_ok, sm54_ok⟩, rfl, h⟩
 ·exact hc.elim
def cRecvV : Con := fun args H Q => lendL [7] H args fun a => cRecv a H Q
theorem recv_ok : ValidF Tryd.prog glC 54 cRecvV := valid_view recv_raw glC_noY [7] fun args H Q hc => by
 unfold cRecv at hc
 split at hc
 ·obtain ⟨rs, h, hq⟩ := hc
  exact ⟨rs, h, rfl, ⟨_, rfl, rfl⟩, hq⟩
 ·exact hc.elim
end Go.Proofs.YtafchcmemeinlaaDoor

/-
  Chapter 24: a reader takes a number.
-/
import Derived.Test.YtafchcmemeinlaaDoorC24XK
set_option linter.unusedSimpArgs false
set_option linter.unusedVariables false
set_option linter.unusedSectionVars false
namespace Go.Proofs.YtafchcmemeinlaaDoor
open Go.RowKit
set_option maxRecDepth 1000000

def numM (l : List UInt8) : Int := l.foldl (fun a c => a * 256 + (c.toNat : Int)) 0
def tkM (k : Nat) (l : List UInt8) (b : Bool) : Int × List UInt8 × Bool := if l.length < k then (0, [], true) else (numM (l.take k), l.drop k, b)
theorem num_app (l : List UInt8) (c : UInt8) : numM (l ++ [c]) = numM l * 256 + (c.toNat : Int) := by simp [numM]
theorem num_take {l : List UInt8} {i : Nat} (h : i < l.length) : numM (l.take (i + 1)) = numM (l.take i) * 256 + (l[i].toNat : Int) := by
 rw [List.take_add_one, List.getElem?_eq_getElem h]; exact num_app _ _
theorem num_lt : ∀ l : List UInt8, 0 ≤ numM l ∧ numM l < 256 ^ l.length := by
 intro l
 induction h : l.length generalizing l with
 | zero => obtain rfl := List.eq_nil_of_length_eq_zero h; decide
 | succ n ih =>
  obtain ⟨a, c, rfl⟩ : ∃ a c, l = a ++ [c] := ⟨l.dropLast, l.getLast (by intro e; simp [e] at h), (List.dropLast_concat_getLast _).symm⟩
  have := ih a (by simpa using h)
  have hc := c.toNat_lt
  rw [num_app, Int.pow_succ]
  omega
theorem num_small3 {l : List UInt8} (h : l.length ≤ 3) : 0 ≤ numM l ∧ numM l < 16777216 := by
 have := num_lt l
 have h2 : (256 : Int) ^ l.length ≤ 16777216 := by
  generalize l.length = n at h
  obtain rfl | rfl | rfl | rfl : n = 0 ∨ n = 1 ∨ n = 2 ∨ n = 3 := by omega
  all_goals decide
 omega
abbrev rdB (lf : Bool) (c0 c1 c2 c3 c4 c5 c6 c7 c8 c9 c10 c11 c12 : AV) (l : List UInt8) (b : Bool) : Blk := ⟨.exact, lf, [c0, c1, c2, c3, c4, c5, c6, c7, c8, c9, c10, c11, c12, .str l, .bool b]⟩
def hz58 : Nat → Bool := fun k => hz24.any (Nat.beq k) || Nat.beq k 237595
theorem orN {a c : Int} (ha : 0 ≤ a ∧ a < 16777216) (hc : 0 ≤ c ∧ c < 256) {K : Int → Prop} (h : K (a * 256 + c)) :
  ∃ n0, AV.int .i64 a = AV.int .i64 n0 ∧ ∃ n1, AV.int .i64 (IntKind.wrap .i64 (n0 * 256)) = AV.int .i64 n1 ∧ ∃ n2, AV.int .i64 (IntKind.wrap .i64 c) = AV.int .i64 n2 ∧ ∃ n3, AV.int .i64 (IntKind.wrap .i64 (((n1 % 18446744073709551616).toNat ||| (n2 % 18446744073709551616).toNat : Nat) : Int)) = AV.int .i64 n3 ∧ K n3 := by
 obtain ⟨a, rfl⟩ := Int.eq_ofNat_of_zero_le ha.1
 obtain ⟨c, rfl⟩ := Int.eq_ofNat_of_zero_le hc.1
 refine ⟨_, rfl, wrapI (by omega) (by omega) (wrapI (by omega) (by omega) ?_)⟩
 have e1 : (((a : Nat) : Int) * 256 % 18446744073709551616).toNat = 2 ^ 8 * a := by omega
 have e2 : (((c : Nat) : Int) % 18446744073709551616).toNat = c := by omega
 rw [e1, e2, ← Nat.two_pow_add_eq_or_of_lt (by omega) a]
 refine wrapI (by omega) (by omega) ?_
 rwa [show ((2 ^ 8 * a + c : Nat) : Int) = ((a : Nat) : Int) * 256 + ((c : Nat) : Int) by omega]
theorem getB {l : List UInt8} {i j : Nat} (hi : i < l.length) (hj : j = i) {K : Int → Prop} (hk : K (l[i].toNat : Int)) : ∃ n : Int, (ofBytes l).getD j AV.undef = AV.int .u8 n ∧ K n := by
 subst hj
 refine ⟨_, ?_, hk⟩
 simp [ofBytes, hi]
def inv_58a (z : List AV) (c0 c1 c2 c3 c4 c5 c6 c7 c8 c9 c10 c11 c12 : AV) (l : List UInt8) (b : Bool) (k : Nat) : LInv where
 α := Nat
 pre i := Lf (i ≤ (l.take k).length)
 st i := ⟨mkT [(0, .ptr 1 15 0), (1, .int .i64 (k : Nat)), (5, .int .i64 (numM ((l.take k).take i))), (27, .lst 0 (ofBytes (l.take k)) (l.take k).length 1), (28, .int .i64 ((l.take k).length : Nat)), (29, .int .i64 (i : Nat))], [⟨.exact, true, z⟩, rdB true c0 c1 c2 c3 c4 c5 c6 c7 c8 c9 c10 c11 c12 l b]⟩
 mu i := (l.take k).length - i
noncomputable def env_58a (hv : Nat → Option Pa) (hb : Nat → Option Bool) (z : List AV) (c0 c1 c2 c3 c4 c5 c6 c7 c8 c9 c10 c11 c12 : AV) (l : List UInt8) (b : Bool) (k : Nat) : Env := { e24 sm0 (fun i => bif Nat.beq i 58000 then some (fun _ => [[inv_58a z c0 c1 c2 c3 c4 c5 c6 c7 c8 c9 c10 c11 c12 l b k]]) else none) hv hb with hz := hz58 }
noncomputable def goal_58a (hv : Nat → Option Pa) (hb : Nat → Option Bool) (z : List AV) (c0 c1 c2 c3 c4 c5 c6 c7 c8 c9 c10 c11 c12 : AV) (l : List UInt8) (b : Bool) (k : Nat) (Q : Out → List Blk → Gh → Prop) : Prop :=
 callx (env_58a hv hb z c0 c1 c2 c3 c4 c5 c6 c7 c8 c9 c10 c11 c12 l b k) (wpx (env_58a hv hb z c0 c1 c2 c3 c4 c5 c6 c7 c8 c9 c10 c11 c12 l b k) 1000) 58 [.ptr 1 15 0, .int .i64 (k : Nat)] [⟨.exact, true, z⟩, rdB true c0 c1 c2 c3 c4 c5 c6 c7 c8 c9 c10 c11 c12 l b] {} Q
theorem vc_58a (z : List AV) (c0 : AV) (c1 : AV) (c2 : AV) (c3 : AV) (c4 : AV) (c5 : AV) (c6 : AV) (c7 : AV) (c8 : AV) (c9 : AV) (c10 : AV) (c11 : AV) (c12 : AV) (l : List UInt8) (b : Bool) (k : Nat) (Q : Out → List Blk → Gh → Prop) :
 goal_58a (lookV [(237580, .int .i64), (237581, .int .i64), (237593, .int .i64), (237594, .str), (237596, .int .i64), (237600, .int .u8), (237601, .int .i64), (237602, .int .i64), (237604, .int .i64), (237605, .int .i64), (237606, .int
 .i64), (237612, .int .i64), (237613, .str), (237616, .int .i64)]) (lookB [(241662, false), (1237568000, false)]) z c0 c1 c2 c3 c4 c5 c6 c7 c8 c9 c10 c11 c12 l b k Q = (exI .i64 (l.length : Int) fun n_0 => exI .i64 (k : Int) fun n_1 => bif
 decide (n_0 < n_1) then Q (.ret (.int .i64 0)) [Blk.mk BK.exact true z, Blk.mk BK.exact true [c0, c1, c2, c3, c4, c5, c6, c7, c8, c9, c10, c11, c12, .str [], .bool true]] {} else exI .i64 (k : Int) fun n_2 => ckQ (decide (0 ≤ n_2) && true
 && Nat.ble n_2.toNat l.length) (exS (.str ((l.drop 0).take (n_2.toNat - 0))) fun s_3 => ckQ (Nat.beq s_3.length (ofBytes s_3).length && Nat.beq (s_3.length * 1) s_3.length && oldL 0 (ofBytes s_3) && noYL (ofBytes s_3)) (exI .i64
 (s_3.length : Int) fun n_4 => (∃ x_5 : Nat, Lf (x_5 ≤ (l.take k).length) ∧ z = z ∧ eqqQ [c0, c1, c2, c3, c4, c5, c6, c7, c8, c9, c10, c11, c12, .str l, .bool b] ∧ eqqQ (AV.ptr 1 15 0) ∧ eqqQ (AV.int .i64 (k : Int)) ∧ AV.lst 0 (ofBytes s_3)
 s_3.length 1 = AV.lst 0 (ofBytes (l.take k)) (l.take k).length 1 ∧ AV.int .i64 0 = AV.int .i64 (numM ((l.take k).take x_5)) ∧ AV.int .i64 0 = AV.int .i64 (x_5 : Int) ∧ AV.int .i64 n_4 = AV.int .i64 ((l.take k).length : Int) ∧ True) ∧ ∀ x_5
 : Nat, Lf (x_5 ≤ (l.take k).length) → bif decide ((x_5 : Int) < ((l.take k).length : Int)) then ckQ (Nat.blt (x_5 : Int).toNat (l.take k).length && true) (ckQ (Nat.blt ((x_5 : Int).toNat * 1) (ofBytes (l.take k)).length) (exV .u8 ((ofBytes
 (l.take k)).getD ((x_5 : Int).toNat * 1) AV.undef) fun n_6 => exI .i64 (numM ((l.take k).take x_5)) fun n_7 => exW .i64 (n_7 * 256) fun n_8 => exW .i64 n_6 fun n_9 => exW .i64 (((n_8 % 18446744073709551616).toNat ||| (n_9 %
 18446744073709551616).toNat : Nat) : Int) fun n_10 => exW .i64 ((x_5 : Int) + 1) fun n_11 => (True ∧ (0 : Nat) = (0 : Nat)) ∧ ∃ y_12 : Nat, Lf (y_12 ≤ (l.take k).length) ∧ (l.take k).length - y_12 < (l.take k).length - x_5 ∧ z = z ∧ eqqQ
 [c0, c1, c2, c3, c4, c5, c6, c7, c8, c9, c10, c11, c12, .str l, .bool b] ∧ eqqQ (AV.ptr 1 15 0) ∧ eqqQ (AV.int .i64 (k : Int)) ∧ eqqQ (AV.lst 0 (ofBytes (l.take k)) (l.take k).length 1) ∧ AV.int .i64 n_10 = AV.int .i64 (numM ((l.take
 k).take y_12)) ∧ AV.int .i64 n_11 = AV.int .i64 (y_12 : Int) ∧ eqqQ (AV.int .i64 ((l.take k).length : Int)) ∧ True)) else exI .i64 (k : Int) fun n_6 => ckQ (decide (0 ≤ n_6) && true && Nat.ble n_6.toNat l.length && Nat.ble l.length
 l.length) (exS (.str ((l.drop n_6.toNat).take (l.length - n_6.toNat))) fun s_7 => exI .i64 (numM ((l.take k).take x_5)) fun n_8 => Q (.ret (.int .i64 n_8)) [Blk.mk BK.exact true z, Blk.mk BK.exact true [c0, c1, c2, c3, c4, c5, c6, c7, c8,
 c9, c10, c11, c12, .str s_7, .bool b]] {})))) := by kernel_rfl

theorem tk_a (z : List AV) (c0 c1 c2 c3 c4 c5 c6 c7 c8 c9 c10 c11 c12 : AV) (l : List UInt8) (b : Bool) (k : Nat) (hk : k ≤ 4) (Q : Out → List Blk → Gh → Prop) (hq : ∀ n l' b', tkM k l b = (n, l', b') → Q (.ret (.int .i64 n)) [⟨.exact, true, z⟩, rdB true c0 c1 c2 c3 c4 c5 c6 c7 c8 c9 c10 c11 c12 l' b'] {}) : ∃ hv hb, goal_58a hv hb z c0 c1 c2 c3 c4 c5 c6 c7 c8 c9 c10 c11 c12 l b k Q := by
 obtain ⟨hv, hb', e⟩ : ∃ hv hb, goal_58a hv hb z c0 c1 c2 c3 c4 c5 c6 c7 c8 c9 c10 c11 c12 l b k Q = _ := ⟨_, _, vc_58a z c0 c1 c2 c3 c4 c5 c6 c7 c8 c9 c10 c11 c12 l b k Q⟩
 refine ⟨hv, hb', e.mpr ?_⟩
 clear e
 have hmin : (l.take k).length ≤ k := by rw [List.length_take]; omega
 refine ⟨_, rfl, _, rfl, splitD (fun h => hq _ _ _ (by rw [tkM, if_pos (by omega)])) (fun h => ?_)⟩
 have hlen : (l.take k).length = k := by rw [List.length_take]; omega
 refine ⟨_, rfl, ckI (by simp; omega) ⟨l.take k, by simp, ckI (by simp [ofB_len, oldL_ofB, noY_ofB]) ?_⟩⟩
 refine ⟨_, rfl, ⟨0, ⟨Nat.zero_le _⟩, rfl, rfl, rfl, rfl, rfl, rfl, rfl, rfl, trivial⟩, ?_⟩
 rintro i ⟨hi⟩
 refine splitD (fun h2 => ?_) (fun h2 => ?_)
 ·have hi' : i < (l.take k).length := by omega
  have hs := num_small3 (l := (l.take k).take i) (by rw [List.length_take]; omega)
  have hc := ((l.take k)[i]).toNat_lt
  refine ckI (by simp; omega) (ckI (by simp [ofB_len]; omega) (getB hi' (by simp) (orN hs ⟨by omega, by omega⟩ (wrapI (by omega) (by omega) ⟨⟨trivial, rfl⟩, i + 1, ⟨hi'⟩, by omega, rfl, rfl, rfl, rfl, rfl, by rw [num_take hi'], rfl, rfl, trivial⟩))))
 ·have : (l.take k).take i = l.take k := List.take_of_length_le (by omega)
  rw [this]
  refine ⟨_, rfl, ckI (by simp; omega) ⟨l.drop k, by rw [Int.toNat_natCast, List.take_of_length_le (by simp)], _, rfl, hq _ _ _ (by rw [tkM, if_neg (by omega)])⟩⟩
def inv_58b (z : List AV) (c0 c1 c2 c3 c4 c5 c6 c7 c8 c9 c10 c11 c12 : AV) (l : List UInt8) (b : Bool) (d : List AV) (k : Nat) : LInv where
 α := Nat
 pre i := Lf (i ≤ (l.take k).length)
 st i := ⟨mkT [(0, .ptr 1 15 0), (1, .int .i64 (k : Nat)), (5, .int .i64 (numM ((l.take k).take i))), (27, .lst 0 (ofBytes (l.take k)) (l.take k).length 1), (28, .int .i64 ((l.take k).length : Nat)), (29, .int .i64 (i : Nat))], [⟨.exact, true, z⟩, rdB true c0 c1 c2 c3 c4 c5 c6 c7 c8 c9 c10 c11 c12 l b, ⟨.grow, true, d⟩]⟩
 mu i := (l.take k).length - i
noncomputable def env_58b (hv : Nat → Option Pa) (hb : Nat → Option Bool) (z : List AV) (c0 c1 c2 c3 c4 c5 c6 c7 c8 c9 c10 c11 c12 : AV) (l : List UInt8) (b : Bool) (d : List AV) (k : Nat) : Env := { e24 sm0 (fun i => bif Nat.beq i 58000 then some (fun _ => [[inv_58b z c0 c1 c2 c3 c4 c5 c6 c7 c8 c9 c10 c11 c12 l b d k]]) else none) hv hb with hz := hz58 }
noncomputable def goal_58b (hv : Nat → Option Pa) (hb : Nat → Option Bool) (z : List AV) (c0 c1 c2 c3 c4 c5 c6 c7 c8 c9 c10 c11 c12 : AV) (l : List UInt8) (b : Bool) (d : List AV) (k : Nat) (Q : Out → List Blk → Gh → Prop) : Prop :=
 callx (env_58b hv hb z c0 c1 c2 c3 c4 c5 c6 c7 c8 c9 c10 c11 c12 l b d k) (wpx (env_58b hv hb z c0 c1 c2 c3 c4 c5 c6 c7 c8 c9 c10 c11 c12 l b d k) 1000) 58 [.ptr 1 15 0, .int .i64 (k : Nat)] [⟨.exact, true, z⟩, rdB true c0 c1 c2 c3 c4 c5 c6 c7 c8 c9 c10 c11 c12 l b, ⟨.grow, true, d⟩] {} Q
theorem vc_58b (z : List AV) (c0 : AV) (c1 : AV) (c2 : AV) (c3 : AV) (c4 : AV) (c5 : AV) (c6 : AV) (c7 : AV) (c8 : AV) (c9 : AV) (c10 : AV) (c11 : AV) (c12 : AV) (l : List UInt8) (b : Bool) (d : List AV) (k : Nat) (Q : Out → List Blk → Gh →
 Prop) : goal_58b (lookV [(237580, .int .i64), (237581, .int .i64), (237593, .int .i64), (237594, .str), (237596, .int .i64), (237600, .int .u8), (237601, .int .i64), (237602, .int .i64), (237604, .int .i64), (237605, .int .i64), (237606,
 .int .i64), (237612, .int .i64), (237613, .str), (237616, .int .i64)]) (lookB [(241662, false), (1237568000, false)]) z c0 c1 c2 c3 c4 c5 c6 c7 c8 c9 c10 c11 c12 l b d k Q = (exI .i64 (l.length : Int) fun n_0 => exI .i64 (k : Int) fun n_1
 => bif decide (n_0 < n_1) then Q (.ret (.int .i64 0)) [Blk.mk BK.exact true z, Blk.mk BK.exact true [c0, c1, c2, c3, c4, c5, c6, c7, c8, c9, c10, c11, c12, .str [], .bool true], Blk.mk BK.grow true d] {} else exI .i64 (k : Int) fun n_2 =>
 ckQ (decide (0 ≤ n_2) && true && Nat.ble n_2.toNat l.length) (exS (.str ((l.drop 0).take (n_2.toNat - 0))) fun s_3 => ckQ (Nat.beq s_3.length (ofBytes s_3).length && Nat.beq (s_3.length * 1) s_3.length && oldL 0 (ofBytes s_3) && noYL
 (ofBytes s_3)) (exI .i64 (s_3.length : Int) fun n_4 => (∃ x_5 : Nat, Lf (x_5 ≤ (l.take k).length) ∧ z = z ∧ eqqQ [c0, c1, c2, c3, c4, c5, c6, c7, c8, c9, c10, c11, c12, .str l, .bool b] ∧ d = d ∧ eqqQ (AV.ptr 1 15 0) ∧ eqqQ (AV.int .i64 (k
 : Int)) ∧ AV.lst 0 (ofBytes s_3) s_3.length 1 = AV.lst 0 (ofBytes (l.take k)) (l.take k).length 1 ∧ AV.int .i64 0 = AV.int .i64 (numM ((l.take k).take x_5)) ∧ AV.int .i64 0 = AV.int .i64 (x_5 : Int) ∧ AV.int .i64 n_4 = AV.int .i64 ((l.take
 k).length : Int) ∧ True) ∧ ∀ x_5 : Nat, Lf (x_5 ≤ (l.take k).length) → bif decide ((x_5 : Int) < ((l.take k).length : Int)) then ckQ (Nat.blt (x_5 : Int).toNat (l.take k).length && true) (ckQ (Nat.blt ((x_5 : Int).toNat * 1) (ofBytes
 (l.take k)).length) (exV .u8 ((ofBytes (l.take k)).getD ((x_5 : Int).toNat * 1) AV.undef) fun n_6 => exI .i64 (numM ((l.take k).take x_5)) fun n_7 => exW .i64 (n_7 * 256) fun n_8 => exW .i64 n_6 fun n_9 => exW .i64 (((n_8 %
 18446744073709551616).toNat ||| (n_9 % 18446744073709551616).toNat : Nat) : Int) fun n_10 => exW .i64 ((x_5 : Int) + 1) fun n_11 => (True ∧ (0 : Nat) = (0 : Nat)) ∧ ∃ y_12 : Nat, Lf (y_12 ≤ (l.take k).length) ∧ (l.take k).length - y_12 <
 (l.take k).length - x_5 ∧ z = z ∧ eqqQ [c0, c1, c2, c3, c4, c5, c6, c7, c8, c9, c10, c11, c12, .str l, .bool b] ∧ d = d ∧ eqqQ (AV.ptr 1 15 0) ∧ eqqQ (AV.int .i64 (k : Int)) ∧ eqqQ (AV.lst 0 (ofBytes (l.take k)) (l.take k).length 1) ∧
 AV.int .i64 n_10 = AV.int .i64 (numM ((l.take k).take y_12)) ∧ AV.int .i64 n_11 = AV.int .i64 (y_12 : Int) ∧ eqqQ (AV.int .i64 ((l.take k).length : Int)) ∧ True)) else exI .i64 (k : Int) fun n_6 => ckQ (decide (0 ≤ n_6) && true && Nat.ble
 n_6.toNat l.length && Nat.ble l.length l.length) (exS (.str ((l.drop n_6.toNat).take (l.length - n_6.toNat))) fun s_7 => exI .i64 (numM ((l.take k).take x_5)) fun n_8 => Q (.ret (.int .i64 n_8)) [Blk.mk BK.exact true z, Blk.mk BK.exact
 true [c0, c1, c2, c3, c4, c5, c6, c7, c8, c9, c10, c11, c12, .str s_7, .bool b], Blk.mk BK.grow true d] {})))) := by kernel_rfl

theorem tk_b (z : List AV) (c0 c1 c2 c3 c4 c5 c6 c7 c8 c9 c10 c11 c12 : AV) (l : List UInt8) (b : Bool) (d : List AV) (k : Nat) (hk : k ≤ 4) (Q : Out → List Blk → Gh → Prop) (hq : ∀ n l' b', tkM k l b = (n, l', b') → Q (.ret (.int .i64 n)) [⟨.exact, true, z⟩, rdB true c0 c1 c2 c3 c4 c5 c6 c7 c8 c9 c10 c11 c12 l' b', ⟨.grow, true, d⟩] {}) : ∃ hv hb, goal_58b hv hb z c0 c1 c2 c3 c4 c5 c6 c7 c8 c9 c10 c11 c12 l b d k Q := by
 obtain ⟨hv, hb', e⟩ : ∃ hv hb, goal_58b hv hb z c0 c1 c2 c3 c4 c5 c6 c7 c8 c9 c10 c11 c12 l b d k Q = _ := ⟨_, _, vc_58b z c0 c1 c2 c3 c4 c5 c6 c7 c8 c9 c10 c11 c12 l b d k Q⟩
 refine ⟨hv, hb', e.mpr ?_⟩
 clear e
 have hmin : (l.take k).length ≤ k := by rw [List.length_take]; omega
 refine ⟨_, rfl, _, rfl, splitD (fun h => hq _ _ _ (by rw [tkM, if_pos (by omega)])) (fun h => ?_)⟩
 have hlen : (l.take k).length = k := by rw [List.length_take]; omega
 refine ⟨_, rfl, ckI (by simp; omega) ⟨l.take k, by simp, ckI (by simp [ofB_len, oldL_ofB, noY_ofB]) ?_⟩⟩
 refine ⟨_, rfl, ⟨0, ⟨Nat.zero_le _⟩, rfl, rfl, rfl, rfl, rfl, rfl, rfl, rfl, rfl, trivial⟩, ?_⟩
 rintro i ⟨hi⟩
 refine splitD (fun h2 => ?_) (fun h2 => ?_)
 ·have hi' : i < (l.take k).length := by omega
  have hs := num_small3 (l := (l.take k).take i) (by rw [List.length_take]; omega)
  have hc := ((l.take k)[i]).toNat_lt
  refine ckI (by simp; omega) (ckI (by simp [ofB_len]; omega) (getB hi' (by simp) (orN hs ⟨by omega, by omega⟩ (wrapI (by omega) (by omega) ⟨⟨trivial, rfl⟩, i + 1, ⟨hi'⟩, by omega, rfl, rfl, rfl, rfl, rfl, rfl, by rw [num_take hi'], rfl, rfl, trivial⟩))))
 ·have : (l.take k).take i = l.take k := List.take_of_length_le (by omega)
  rw [this]
  refine ⟨_, rfl, ckI (by simp; omega) ⟨l.drop k, by rw [Int.toNat_natCast, List.take_of_length_le (by simp)], _, rfl, hq _ _ _ (by rw [tkM, if_neg (by omega)])⟩⟩
def inv_58c (z : List AV) (c0 c1 c2 c3 c4 c5 c6 c7 c8 c9 c10 c11 c12 : AV) (l : List UInt8) (b : Bool) (d : List AV) (k : Nat) : LInv where
 α := Nat
 pre i := Lf (i ≤ (l.take k).length)
 st i := ⟨mkT [(0, .ptr 1 15 0), (1, .int .i64 (k : Nat)), (5, .int .i64 (numM ((l.take k).take i))), (27, .lst 0 (ofBytes (l.take k)) (l.take k).length 1), (28, .int .i64 ((l.take k).length : Nat)), (29, .int .i64 (i : Nat))], [⟨.exact, true, z⟩, rdB false c0 c1 c2 c3 c4 c5 c6 c7 c8 c9 c10 c11 c12 l b, ⟨.grow, true, d⟩]⟩
 mu i := (l.take k).length - i
noncomputable def env_58c (hv : Nat → Option Pa) (hb : Nat → Option Bool) (z : List AV) (c0 c1 c2 c3 c4 c5 c6 c7 c8 c9 c10 c11 c12 : AV) (l : List UInt8) (b : Bool) (d : List AV) (k : Nat) : Env := { e24 sm0 (fun i => bif Nat.beq i 58000 then some (fun _ => [[inv_58c z c0 c1 c2 c3 c4 c5 c6 c7 c8 c9 c10 c11 c12 l b d k]]) else none) hv hb with hz := hz58 }
noncomputable def goal_58c (hv : Nat → Option Pa) (hb : Nat → Option Bool) (z : List AV) (c0 c1 c2 c3 c4 c5 c6 c7 c8 c9 c10 c11 c12 : AV) (l : List UInt8) (b : Bool) (d : List AV) (k : Nat) (Q : Out → List Blk → Gh → Prop) : Prop :=
 callx (env_58c hv hb z c0 c1 c2 c3 c4 c5 c6 c7 c8 c9 c10 c11 c12 l b d k) (wpx (env_58c hv hb z c0 c1 c2 c3 c4 c5 c6 c7 c8 c9 c10 c11 c12 l b d k) 1000) 58 [.ptr 1 15 0, .int .i64 (k : Nat)] [⟨.exact, true, z⟩, rdB false c0 c1 c2 c3 c4 c5 c6 c7 c8 c9 c10 c11 c12 l b, ⟨.grow, true, d⟩] {} Q
theorem vc_58c (z : List AV) (c0 : AV) (c1 : AV) (c2 : AV) (c3 : AV) (c4 : AV) (c5 : AV) (c6 : AV) (c7 : AV) (c8 : AV) (c9 : AV) (c10 : AV) (c11 : AV) (c12 : AV) (l : List UInt8) (b : Bool) (d : List AV) (k : Nat) (Q : Out → List Blk → Gh →
 Prop) : goal_58c (lookV [(237580, .int .i64), (237581, .int .i64), (237593, .int .i64), (237594, .str), (237596, .int .i64), (237600, .int .u8), (237601, .int .i64), (237602, .int .i64), (237604, .int .i64), (237605, .int .i64), (237606,
 .int .i64), (237612, .int .i64), (237613, .str), (237616, .int .i64)]) (lookB [(241662, false), (1237568000, false)]) z c0 c1 c2 c3 c4 c5 c6 c7 c8 c9 c10 c11 c12 l b d k Q = (exI .i64 (l.length : Int) fun n_0 => exI .i64 (k : Int) fun n_1
 => bif decide (n_0 < n_1) then Q (.ret (.int .i64 0)) [Blk.mk BK.exact true z, Blk.mk BK.exact false [c0, c1, c2, c3, c4, c5, c6, c7, c8, c9, c10, c11, c12, .str [], .bool true], Blk.mk BK.grow true d] {} else exI .i64 (k : Int) fun n_2 =>
 ckQ (decide (0 ≤ n_2) && true && Nat.ble n_2.toNat l.length) (exS (.str ((l.drop 0).take (n_2.toNat - 0))) fun s_3 => ckQ (Nat.beq s_3.length (ofBytes s_3).length && Nat.beq (s_3.length * 1) s_3.length && oldL 0 (ofBytes s_3) && noYL
 (ofBytes s_3)) (exI .i64 (s_3.length : Int) fun n_4 => (∃ x_5 : Nat, Lf (x_5 ≤ (l.take k).length) ∧ z = z ∧ eqqQ [c0, c1, c2, c3, c4, c5, c6, c7, c8, c9, c10, c11, c12, .str l, .bool b] ∧ d = d ∧ eqqQ (AV.ptr 1 15 0) ∧ eqqQ (AV.int .i64 (k
 : Int)) ∧ AV.lst 0 (ofBytes s_3) s_3.length 1 = AV.lst 0 (ofBytes (l.take k)) (l.take k).length 1 ∧ AV.int .i64 0 = AV.int .i64 (numM ((l.take k).take x_5)) ∧ AV.int .i64 0 = AV.int .i64 (x_5 : Int) ∧ AV.int .i64 n_4 = AV.int .i64 ((l.take
 k).length : Int) ∧ True) ∧ ∀ x_5 : Nat, Lf (x_5 ≤ (l.take k).length) → bif decide ((x_5 : Int) < ((l.take k).length : Int)) then ckQ (Nat.blt (x_5 : Int).toNat (l.take k).length && true) (ckQ (Nat.blt ((x_5 : Int).toNat * 1) (ofBytes
 (l.take k)).length) (exV .u8 ((ofBytes (l.take k)).getD ((x_5 : Int).toNat * 1) AV.undef) fun n_6 => exI .i64 (numM ((l.take k).take x_5)) fun n_7 => exW .i64 (n_7 * 256) fun n_8 => exW .i64 n_6 fun n_9 => exW .i64 (((n_8 %
 18446744073709551616).toNat ||| (n_9 % 18446744073709551616).toNat : Nat) : Int) fun n_10 => exW .i64 ((x_5 : Int) + 1) fun n_11 => (True ∧ (0 : Nat) = (0 : Nat)) ∧ ∃ y_12 : Nat, Lf (y_12 ≤ (l.take k).length) ∧ (l.take k).length - y_12 <
 (l.take k).length - x_5 ∧ z = z ∧ eqqQ [c0, c1, c2, c3, c4, c5, c6, c7, c8, c9, c10, c11, c12, .str l, .bool b] ∧ d = d ∧ eqqQ (AV.ptr 1 15 0) ∧ eqqQ (AV.int .i64 (k : Int)) ∧ eqqQ (AV.lst 0 (ofBytes (l.take k)) (l.take k).length 1) ∧
 AV.int .i64 n_10 = AV.int .i64 (numM ((l.take k).take y_12)) ∧ AV.int .i64 n_11 = AV.int .i64 (y_12 : Int) ∧ eqqQ (AV.int .i64 ((l.take k).length : Int)) ∧ True)) else exI .i64 (k : Int) fun n_6 => ckQ (decide (0 ≤ n_6) && true && Nat.ble
 n_6.toNat l.length && Nat.ble l.length l.length) (exS (.str ((l.drop n_6.toNat).take (l.length - n_6.toNat))) fun s_7 => exI .i64 (numM ((l.take k).take x_5)) fun n_8 => Q (.ret (.int .i64 n_8)) [Blk.mk BK.exact true z, Blk.mk BK.exact
 false [c0, c1, c2, c3, c4, c5, c6, c7, c8, c9, c10, c11, c12, .str s_7, .bool b], Blk.mk BK.grow true d] {})))) := by kernel_rfl

theorem tk_c (z : List AV) (c0 c1 c2 c3 c4 c5 c6 c7 c8 c9 c10 c11 c12 : AV) (l : List UInt8) (b : Bool) (d : List AV) (k : Nat) (hk : k ≤ 4) (Q : Out → List Blk → Gh → Prop) (hq : ∀ n l' b', tkM k l b = (n, l', b') → Q (.ret (.int .i64 n)) [⟨.exact, true, z⟩, rdB false c0 c1 c2 c3 c4 c5 c6 c7 c8 c9 c10 c11 c12 l' b', ⟨.grow, true, d⟩] {}) : ∃ hv hb, goal_58c hv hb z c0 c1 c2 c3 c4 c5 c6 c7 c8 c9 c10 c11 c12 l b d k Q := by
 obtain ⟨hv, hb', e⟩ : ∃ hv hb, goal_58c hv hb z c0 c1 c2 c3 c4 c5 c6 c7 c8 c9 c10 c11 c12 l b d k Q = _ := ⟨_, _, vc_58c z c0 c1 c2 c3 c4 c5 c6 c7 c8 c9 c10 c11 c12 l b d k Q⟩
 refine ⟨hv, hb', e.mpr ?_⟩
 clear e
 have hmin : (l.take k).length ≤ k := by rw [List.length_take]; omega
 refine ⟨_, rfl, _, rfl, splitD (fun h => hq _ _ _ (by rw [tkM, if_pos (by omega)])) (fun h => ?_)⟩
 have hlen : (l.take k).length = k := by rw [List.length_take]; omega
 refine ⟨_, rfl, ckI (by simp; omega) ⟨l.take k, by simp, ckI (by simp [ofB_len, oldL_ofB, noY_ofB]) ?_⟩⟩
 refine ⟨_, rfl, ⟨0, ⟨Nat.zero_le _⟩, rfl, rfl, rfl, rfl, rfl, rfl, rfl, rfl, rfl, trivial⟩, ?_⟩
 rintro i ⟨hi⟩
 refine splitD (fun h2 => ?_) (fun h2 => ?_)
 ·have hi' : i < (l.take k).length := by omega
  have hs := num_small3 (l := (l.take k).take i) (by rw [List.length_take]; omega)
  have hc := ((l.take k)[i]).toNat_lt
  refine ckI (by simp; omega) (ckI (by simp [ofB_len]; omega) (getB hi' (by simp) (orN hs ⟨by omega, by omega⟩ (wrapI (by omega) (by omega) ⟨⟨trivial, rfl⟩, i + 1, ⟨hi'⟩, by omega, rfl, rfl, rfl, rfl, rfl, rfl, by rw [num_take hi'], rfl, rfl, trivial⟩))))
 ·have : (l.take k).take i = l.take k := List.take_of_length_le (by omega)
  rw [this]
  refine ⟨_, rfl, ckI (by simp; omega) ⟨l.drop k, by rw [Int.toNat_natCast, List.take_of_length_le (by simp)], _, rfl, hq _ _ _ (by rw [tkM, if_neg (by omega)])⟩⟩
def inv_58d (z : List AV) (c0 c1 c2 c3 c4 c5 c6 c7 c8 c9 c10 c11 c12 : AV) (l : List UInt8) (b : Bool) (d e : List AV) (k : Nat) : LInv where
 α := Nat
 pre i := Lf (i ≤ (l.take k).length)
 st i := ⟨mkT [(0, .ptr 1 15 0), (1, .int .i64 (k : Nat)), (5, .int .i64 (numM ((l.take k).take i))), (27, .lst 0 (ofBytes (l.take k)) (l.take k).length 1), (28, .int .i64 ((l.take k).length : Nat)), (29, .int .i64 (i : Nat))], [⟨.exact, true, z⟩, rdB false c0 c1 c2 c3 c4 c5 c6 c7 c8 c9 c10 c11 c12 l b, ⟨.grow, true, d⟩, ⟨.grow, true, e⟩]⟩
 mu i := (l.take k).length - i
noncomputable def env_58d (hv : Nat → Option Pa) (hb : Nat → Option Bool) (z : List AV) (c0 c1 c2 c3 c4 c5 c6 c7 c8 c9 c10 c11 c12 : AV) (l : List UInt8) (b : Bool) (d e : List AV) (k : Nat) : Env := { e24 sm0 (fun i => bif Nat.beq i 58000 then some (fun _ => [[inv_58d z c0 c1 c2 c3 c4 c5 c6 c7 c8 c9 c10 c11 c12 l b d e k]]) else none) hv hb with hz := hz58 }
noncomputable def goal_58d (hv : Nat → Option Pa) (hb : Nat → Option Bool) (z : List AV) (c0 c1 c2 c3 c4 c5 c6 c7 c8 c9 c10 c11 c12 : AV) (l : List UInt8) (b : Bool) (d e : List AV) (k : Nat) (Q : Out → List Blk → Gh → Prop) : Prop :=
 callx (env_58d hv hb z c0 c1 c2 c3 c4 c5 c6 c7 c8 c9 c10 c11 c12 l b d e k) (wpx (env_58d hv hb z c0 c1 c2 c3 c4 c5 c6 c7 c8 c9 c10 c11 c12 l b d e k) 1000) 58 [.ptr 1 15 0, .int .i64 (k : Nat)] [⟨.exact, true, z⟩, rdB false c0 c1 c2 c3 c4 c5 c6 c7 c8 c9 c10 c11 c12 l b, ⟨.grow, true, d⟩, ⟨.grow, true, e⟩] {} Q
theorem vc_58d (z : List AV) (c0 : AV) (c1 : AV) (c2 : AV) (c3 : AV) (c4 : AV) (c5 : AV) (c6 : AV) (c7 : AV) (c8 : AV) (c9 : AV) (c10 : AV) (c11 : AV) (c12 : AV) (l : List UInt8) (b : Bool) (d : List AV) (e : List AV) (k : Nat) (Q : Out →
 List Blk → Gh → Prop) : goal_58d (lookV [(237580, .int .i64), (237581, .int .i64), (237593, .int .i64), (237594, .str), (237596, .int .i64), (237600, .int .u8), (237601, .int .i64), (237602, .int .i64), (237604, .int .i64), (237605, .int
 .i64), (237606, .int .i64), (237612, .int .i64), (237613, .str), (237616, .int .i64)]) (lookB [(241662, false), (1237568000, false)]) z c0 c1 c2 c3 c4 c5 c6 c7 c8 c9 c10 c11 c12 l b d e k Q = (exI .i64 (l.length : Int) fun n_0 => exI .i64
 (k : Int) fun n_1 => bif decide (n_0 < n_1) then Q (.ret (.int .i64 0)) [Blk.mk BK.exact true z, Blk.mk BK.exact false [c0, c1, c2, c3, c4, c5, c6, c7, c8, c9, c10, c11, c12, .str [], .bool true], Blk.mk BK.grow true d, Blk.mk BK.grow true
 e] {} else exI .i64 (k : Int) fun n_2 => ckQ (decide (0 ≤ n_2) && true && Nat.ble n_2.toNat l.length) (exS (.str ((l.drop 0).take (n_2.toNat - 0))) fun s_3 => ckQ (Nat.beq s_3.length (ofBytes s_3).length && Nat.beq (s_3.length * 1)
 s_3.length && oldL 0 (ofBytes s_3) && noYL (ofBytes s_3)) (exI .i64 (s_3.length : Int) fun n_4 => (∃ x_5 : Nat, Lf (x_5 ≤ (l.take k).length) ∧ z = z ∧ eqqQ [c0, c1, c2, c3, c4, c5, c6, c7, c8, c9, c10, c11, c12, .str l, .bool b] ∧ d = d ∧
 e = e ∧ eqqQ (AV.ptr 1 15 0) ∧ eqqQ (AV.int .i64 (k : Int)) ∧ AV.lst 0 (ofBytes s_3) s_3.length 1 = AV.lst 0 (ofBytes (l.take k)) (l.take k).length 1 ∧ AV.int .i64 0 = AV.int .i64 (numM ((l.take k).take x_5)) ∧ AV.int .i64 0 = AV.int .i64
 (x_5 : Int) ∧ AV.int .i64 n_4 = AV.int .i64 ((l.take k).length : Int) ∧ True) ∧ ∀ x_5 : Nat, Lf (x_5 ≤ (l.take k).length) → bif decide ((x_5 : Int) < ((l.take k).length : Int)) then ckQ (Nat.blt (x_5 : Int).toNat (l.take k).length && true)
 (ckQ (Nat.blt ((x_5 : Int).toNat * 1) (ofBytes (l.take k)).length) (exV .u8 ((ofBytes (l.take k)).getD ((x_5 : Int).toNat * 1) AV.undef) fun n_6 => exI .i64 (numM ((l.take k).take x_5)) fun n_7 => exW .i64 (n_7 * 256) fun n_8 => exW .i64
 n_6 fun n_9 => exW .i64 (((n_8 % 18446744073709551616).toNat ||| (n_9 % 18446744073709551616).toNat : Nat) : Int) fun n_10 => exW .i64 ((x_5 : Int) + 1) fun n_11 => (True ∧ (0 : Nat) = (0 : Nat)) ∧ ∃ y_12 : Nat, Lf (y_12 ≤ (l.take
 k).length) ∧ (l.take k).length - y_12 < (l.take k).length - x_5 ∧ z = z ∧ eqqQ [c0, c1, c2, c3, c4, c5, c6, c7, c8, c9, c10, c11, c12, .str l, .bool b] ∧ d = d ∧ e = e ∧ eqqQ (AV.ptr 1 15 0) ∧ eqqQ (AV.int .i64 (k : Int)) ∧ eqqQ (AV.lst 0
 (ofBytes (l.take k)) (l.take k).length 1) ∧ AV.int .i64 n_10 = AV.int .i64 (numM ((l.take k).take y_12)) ∧ AV.int .i64 n_11 = AV.int .i64 (y_12 : Int) ∧ eqqQ (AV.int .i64 ((l.take k).length : Int)) ∧ True)) else exI .i64 (k : Int) fun n_6
 => ckQ (decide (0 ≤ n_6) && true && Nat.ble n_6.toNat l.length && Nat.ble l.length l.length) (exS (.str ((l.drop n_6.toNat).take (l.length - n_6.toNat))) fun s_7 => exI .i64 (numM ((l.take k).take x_5)) fun n_8 => Q (.ret (.int .i64 n_8))
 [Blk.mk BK.exact true z, Blk.mk BK.exact false [c0, c1, c2, c3, c4, c5, c6, c7, c8, c9, c10, c11, c12, .str s_7, .bool b], Blk.mk BK.grow true d, Blk.mk BK.grow true e] {})))) := by kernel_rfl

theorem tk_d (z : List AV) (c0 c1 c2 c3 c4 c5 c6 c7 c8 c9 c10 c11 c12 : AV) (l : List UInt8) (b : Bool) (d e : List AV) (k : Nat) (hk : k ≤ 4) (Q : Out → List Blk → Gh → Prop) (hq : ∀ n l' b', tkM k l b = (n, l', b') → Q (.ret (.int .i64 n)) [⟨.exact, true, z⟩, rdB false c0 c1 c2 c3 c4 c5 c6 c7 c8 c9 c10 c11 c12 l' b', ⟨.grow, true, d⟩, ⟨.grow, true, e⟩] {}) : ∃ hv hb, goal_58d hv hb z c0 c1 c2 c3 c4 c5 c6 c7 c8 c9 c10 c11 c12 l b d e k Q := by
 obtain ⟨hv, hb', e⟩ : ∃ hv hb, goal_58d hv hb z c0 c1 c2 c3 c4 c5 c6 c7 c8 c9 c10 c11 c12 l b d e k Q = _ := ⟨_, _, vc_58d z c0 c1 c2 c3 c4 c5 c6 c7 c8 c9 c10 c11 c12 l b d e k Q⟩
 refine ⟨hv, hb', e.mpr ?_⟩
 clear e
 have hmin : (l.take k).length ≤ k := by rw [List.length_take]; omega
 refine ⟨_, rfl, _, rfl, splitD (fun h => hq _ _ _ (by rw [tkM, if_pos (by omega)])) (fun h => ?_)⟩
 have hlen : (l.take k).length = k := by rw [List.length_take]; omega
 refine ⟨_, rfl, ckI (by simp; omega) ⟨l.take k, by simp, ckI (by simp [ofB_len, oldL_ofB, noY_ofB]) ?_⟩⟩
 refine ⟨_, rfl, ⟨0, ⟨Nat.zero_le _⟩, rfl, rfl, rfl, rfl, rfl, rfl, rfl, rfl, rfl, rfl, trivial⟩, ?_⟩
 rintro i ⟨hi⟩
 refine splitD (fun h2 => ?_) (fun h2 => ?_)
 ·have hi' : i < (l.take k).length := by omega
  have hs := num_small3 (l := (l.take k).take i) (by rw [List.length_take]; omega)
  have hc := ((l.take k)[i]).toNat_lt
  refine ckI (by simp; omega) (ckI (by simp [ofB_len]; omega) (getB hi' (by simp) (orN hs ⟨by omega, by omega⟩ (wrapI (by omega) (by omega) ⟨⟨trivial, rfl⟩, i + 1, ⟨hi'⟩, by omega, rfl, rfl, rfl, rfl, rfl, rfl, rfl, by rw [num_take hi'], rfl, rfl, trivial⟩))))
 ·have : (l.take k).take i = l.take k := List.take_of_length_le (by omega)
  rw [this]
  refine ⟨_, rfl, ckI (by simp; omega) ⟨l.drop k, by rw [Int.toNat_natCast, List.take_of_length_le (by simp)], _, rfl, hq _ _ _ (by rw [tkM, if_neg (by omega)])⟩⟩
def inv_58e (z : List AV) (c0 c1 c2 c3 c4 c5 c6 c7 c8 c9 c10 c11 c12 : AV) (l : List UInt8) (b : Bool) (d e g : List AV) (k : Nat) : LInv where
 α := Nat
 pre i := Lf (i ≤ (l.take k).length)
 st i := ⟨mkT [(0, .ptr 1 15 0), (1, .int .i64 (k : Nat)), (5, .int .i64 (numM ((l.take k).take i))), (27, .lst 0 (ofBytes (l.take k)) (l.take k).length 1), (28, .int .i64 ((l.take k).length : Nat)), (29, .int .i64 (i : Nat))], [⟨.exact, true, z⟩, rdB false c0 c1 c2 c3 c4 c5 c6 c7 c8 c9 c10 c11 c12 l b, ⟨.exact, true, d⟩, ⟨.exact, true, e⟩, ⟨.grow, true, g⟩]⟩
 mu i := (l.take k).length - i
noncomputable def env_58e (hv : Nat → Option Pa) (hb : Nat → Option Bool) (z : List AV) (c0 c1 c2 c3 c4 c5 c6 c7 c8 c9 c10 c11 c12 : AV) (l : List UInt8) (b : Bool) (d e g : List AV) (k : Nat) : Env := { e24 sm0 (fun i => bif Nat.beq i 58000 then some (fun _ => [[inv_58e z c0 c1 c2 c3 c4 c5 c6 c7 c8 c9 c10 c11 c12 l b d e g k]]) else none) hv hb with hz := hz58 }
noncomputable def goal_58e (hv : Nat → Option Pa) (hb : Nat → Option Bool) (z : List AV) (c0 c1 c2 c3 c4 c5 c6 c7 c8 c9 c10 c11 c12 : AV) (l : List UInt8) (b : Bool) (d e g : List AV) (k : Nat) (Q : Out → List Blk → Gh → Prop) : Prop :=
 callx (env_58e hv hb z c0 c1 c2 c3 c4 c5 c6 c7 c8 c9 c10 c11 c12 l b d e g k) (wpx (env_58e hv hb z c0 c1 c2 c3 c4 c5 c6 c7 c8 c9 c10 c11 c12 l b d e g k) 1000) 58 [.ptr 1 15 0, .int .i64 (k : Nat)] [⟨.exact, true, z⟩, rdB false c0 c1 c2 c3 c4 c5 c6 c7 c8 c9 c10 c11 c12 l b, ⟨.exact, true, d⟩, ⟨.exact, true, e⟩, ⟨.grow, true, g⟩] {} Q
theorem vc_58e (z : List AV) (c0 : AV) (c1 : AV) (c2 : AV) (c3 : AV) (c4 : AV) (c5 : AV) (c6 : AV) (c7 : AV) (c8 : AV) (c9 : AV) (c10 : AV) (c11 : AV) (c12 : AV) (l : List UInt8) (b : Bool) (d : List AV) (e : List AV) (g : List AV) (k :
 Nat) (Q : Out → List Blk → Gh → Prop) : goal_58e (lookV [(237580, .int .i64), (237581, .int .i64), (237593, .int .i64), (237594, .str), (237596, .int .i64), (237600, .int .u8), (237601, .int .i64), (237602, .int .i64), (237604, .int .i64),
 (237605, .int .i64), (237606, .int .i64), (237612, .int .i64), (237613, .str), (237616, .int .i64)]) (lookB [(241662, false), (1237568000, false)]) z c0 c1 c2 c3 c4 c5 c6 c7 c8 c9 c10 c11 c12 l b d e g k Q = (exI .i64 (l.length : Int) fun
 n_0 => exI .i64 (k : Int) fun n_1 => bif decide (n_0 < n_1) then Q (.ret (.int .i64 0)) [Blk.mk BK.exact true z, Blk.mk BK.exact false [c0, c1, c2, c3, c4, c5, c6, c7, c8, c9, c10, c11, c12, .str [], .bool true], Blk.mk BK.exact true d,
 Blk.mk BK.exact true e, Blk.mk BK.grow true g] {} else exI .i64 (k : Int) fun n_2 => ckQ (decide (0 ≤ n_2) && true && Nat.ble n_2.toNat l.length) (exS (.str ((l.drop 0).take (n_2.toNat - 0))) fun s_3 => ckQ (Nat.beq s_3.length (ofBytes
 s_3).length && Nat.beq (s_3.length * 1) s_3.length && oldL 0 (ofBytes s_3) && noYL (ofBytes s_3)) (exI .i64 (s_3.length : Int) fun n_4 => (∃ x_5 : Nat, Lf (x_5 ≤ (l.take k).length) ∧ z = z ∧ eqqQ [c0, c1, c2, c3, c4, c5, c6, c7, c8, c9,
 c10, c11, c12, .str l, .bool b] ∧ d = d ∧ e = e ∧ g = g ∧ eqqQ (AV.ptr 1 15 0) ∧ eqqQ (AV.int .i64 (k : Int)) ∧ AV.lst 0 (ofBytes s_3) s_3.length 1 = AV.lst 0 (ofBytes (l.take k)) (l.take k).length 1 ∧ AV.int .i64 0 = AV.int .i64 (numM
 ((l.take k).take x_5)) ∧ AV.int .i64 0 = AV.int .i64 (x_5 : Int) ∧ AV.int .i64 n_4 = AV.int .i64 ((l.take k).length : Int) ∧ True) ∧ ∀ x_5 : Nat, Lf (x_5 ≤ (l.take k).length) → bif decide ((x_5 : Int) < ((l.take k).length : Int)) then ckQ
 (Nat.blt (x_5 : Int).toNat (l.take k).length && true) (ckQ (Nat.blt ((x_5 : Int).toNat * 1) (ofBytes (l.take k)).length) (exV .u8 ((ofBytes (l.take k)).getD ((x_5 : Int).toNat * 1) AV.undef) fun n_6 => exI .i64 (numM ((l.take k).take x_5))
 fun n_7 => exW .i64 (n_7 * 256) fun n_8 => exW .i64 n_6 fun n_9 => exW .i64 (((n_8 % 18446744073709551616).toNat ||| (n_9 % 18446744073709551616).toNat : Nat) : Int) fun n_10 => exW .i64 ((x_5 : Int) + 1) fun n_11 => (True ∧ (0 : Nat) = (0
 : Nat)) ∧ ∃ y_12 : Nat, Lf (y_12 ≤ (l.take k).length) ∧ (l.take k).length - y_12 < (l.take k).length - x_5 ∧ z = z ∧ eqqQ [c0, c1, c2, c3, c4, c5, c6, c7, c8, c9, c10, c11, c12, .str l, .bool b] ∧ d = d ∧ e = e ∧ g = g ∧ eqqQ (AV.ptr 1 15
 0) ∧ eqqQ (AV.int .i64 (k : Int)) ∧ eqqQ (AV.lst 0 (ofBytes (l.take k)) (l.take k).length 1) ∧ AV.int .i64 n_10 = AV.int .i64 (numM ((l.take k).take y_12)) ∧ AV.int .i64 n_11 = AV.int .i64 (y_12 : Int) ∧ eqqQ (AV.int .i64 ((l.take
 k).length : Int)) ∧ True)) else exI .i64 (k : Int) fun n_6 => ckQ (decide (0 ≤ n_6) && true && Nat.ble n_6.toNat l.length && Nat.ble l.length l.length) (exS (.str ((l.drop n_6.toNat).take (l.length - n_6.toNat))) fun s_7 => exI .i64 (numM
 ((l.take k).take x_5)) fun n_8 => Q (.ret (.int .i64 n_8)) [Blk.mk BK.exact true z, Blk.mk BK.exact false [c0, c1, c2, c3, c4, c5, c6, c7, c8, c9, c10, c11, c12, .str s_7, .bool b], Blk.mk BK.exact true d, Blk.mk BK.exact true e, Blk.mk
 BK.grow true g] {})))) := by kernel_rfl

theorem tk_e (z : List AV) (c0 c1 c2 c3 c4 c5 c6 c7 c8 c9 c10 c11 c12 : AV) (l : List UInt8) (b : Bool) (d e g : List AV) (k : Nat) (hk : k ≤ 4) (Q : Out → List Blk → Gh → Prop) (hq : ∀ n l' b', tkM k l b = (n, l', b') → Q (.ret (.int .i64 n)) [⟨.exact, true, z⟩, rdB false c0 c1 c2 c3 c4 c5 c6 c7 c8 c9 c10 c11 c12 l' b', ⟨.exact, true, d⟩, ⟨.exact, true, e⟩, ⟨.grow, true, g⟩] {}) : ∃ hv hb, goal_58e hv hb z c0 c1 c2 c3 c4 c5 c6 c7 c8 c9 c10 c11 c12 l b d e g k Q := by
 obtain ⟨hv, hb', e⟩ : ∃ hv hb, goal_58e hv hb z c0 c1 c2 c3 c4 c5 c6 c7 c8 c9 c10 c11 c12 l b d e g k Q = _ := ⟨_, _, vc_58e z c0 c1 c2 c3 c4 c5 c6 c7 c8 c9 c10 c11 c12 l b d e g k Q⟩
 refine ⟨hv, hb', e.mpr ?_⟩
 clear e
 have hmin : (l.take k).length ≤ k := by rw [List.length_take]; omega
 refine ⟨_, rfl, _, rfl, splitD (fun h => hq _ _ _ (by rw [tkM, if_pos (by omega)])) (fun h => ?_)⟩
 have hlen : (l.take k).length = k := by rw [List.length_take]; omega
 refine ⟨_, rfl, ckI (by simp; omega) ⟨l.take k, by simp, ckI (by simp [ofB_len, oldL_ofB, noY_ofB]) ?_⟩⟩
 refine ⟨_, rfl, ⟨0, ⟨Nat.zero_le _⟩, rfl, rfl, rfl, rfl, rfl, rfl, rfl, rfl, rfl, rfl, rfl, trivial⟩, ?_⟩
 rintro i ⟨hi⟩
 refine splitD (fun h2 => ?_) (fun h2 => ?_)
 ·have hi' : i < (l.take k).length := by omega
  have hs := num_small3 (l := (l.take k).take i) (by rw [List.length_take]; omega)
  have hc := ((l.take k)[i]).toNat_lt
  refine ckI (by simp; omega) (ckI (by simp [ofB_len]; omega) (getB hi' (by simp) (orN hs ⟨by omega, by omega⟩ (wrapI (by omega) (by omega) ⟨⟨trivial, rfl⟩, i + 1, ⟨hi'⟩, by omega, rfl, rfl, rfl, rfl, rfl, rfl, rfl, rfl, by rw [num_take hi'], rfl, rfl, trivial⟩))))
 ·have : (l.take k).take i = l.take k := List.take_of_length_le (by omega)
  rw [this]
  refine ⟨_, rfl, ckI (by simp; omega) ⟨l.drop k, by rw [Int.toNat_natCast, List.take_of_length_le (by simp)], _, rfl, hq _ _ _ (by rw [tkM, if_neg (by omega)])⟩⟩
def inv_58f (z : List AV) (c0 c1 c2 c3 c4 c5 c6 c7 c8 c9 c10 c11 c12 : AV) (l : List UInt8) (b : Bool) (d : List AV) (k : Nat) : LInv where
 α := Nat
 pre i := Lf (i ≤ (l.take k).length)
 st i := ⟨mkT [(0, .ptr 1 15 0), (1, .int .i64 (k : Nat)), (5, .int .i64 (numM ((l.take k).take i))), (27, .lst 0 (ofBytes (l.take k)) (l.take k).length 1), (28, .int .i64 ((l.take k).length : Nat)), (29, .int .i64 (i : Nat))], [⟨.exact, true, z⟩, rdB true c0 c1 c2 c3 c4 c5 c6 c7 c8 c9 c10 c11 c12 l b, ⟨.exact, true, d⟩]⟩
 mu i := (l.take k).length - i
noncomputable def env_58f (hv : Nat → Option Pa) (hb : Nat → Option Bool) (z : List AV) (c0 c1 c2 c3 c4 c5 c6 c7 c8 c9 c10 c11 c12 : AV) (l : List UInt8) (b : Bool) (d : List AV) (k : Nat) : Env := { e24 sm0 (fun i => bif Nat.beq i 58000 then some (fun _ => [[inv_58f z c0 c1 c2 c3 c4 c5 c6 c7 c8 c9 c10 c11 c12 l b d k]]) else none) hv hb with hz := hz58 }
noncomputable def goal_58f (hv : Nat → Option Pa) (hb : Nat → Option Bool) (z : List AV) (c0 c1 c2 c3 c4 c5 c6 c7 c8 c9 c10 c11 c12 : AV) (l : List UInt8) (b : Bool) (d : List AV) (k : Nat) (Q : Out → List Blk → Gh → Prop) : Prop :=
 callx (env_58f hv hb z c0 c1 c2 c3 c4 c5 c6 c7 c8 c9 c10 c11 c12 l b d k) (wpx (env_58f hv hb z c0 c1 c2 c3 c4 c5 c6 c7 c8 c9 c10 c11 c12 l b d k) 1000) 58 [.ptr 1 15 0, .int .i64 (k : Nat)] [⟨.exact, true, z⟩, rdB true c0 c1 c2 c3 c4 c5 c6 c7 c8 c9 c10 c11 c12 l b, ⟨.exact, true, d⟩] {} Q
theorem vc_58f (z : List AV) (c0 : AV) (c1 : AV) (c2 : AV) (c3 : AV) (c4 : AV) (c5 : AV) (c6 : AV) (c7 : AV) (c8 : AV) (c9 : AV) (c10 : AV) (c11 : AV) (c12 : AV) (l : List UInt8) (b : Bool) (d : List AV) (k : Nat) (Q : Out → List Blk → Gh →
 Prop) : goal_58f (lookV [(237580, .int .i64), (237581, .int .i64), (237593, .int .i64), (237594, .str), (237596, .int .i64), (237600, .int .u8), (237601, .int .i64), (237602, .int .i64), (237604, .int .i64), (237605, .int .i64), (237606,
 .int .i64), (237612, .int .i64), (237613, .str), (237616, .int .i64)]) (lookB [(241662, false), (1237568000, false)]) z c0 c1 c2 c3 c4 c5 c6 c7 c8 c9 c10 c11 c12 l b d k Q = (exI .i64 (l.length : Int) fun n_0 => exI .i64 (k : Int) fun n_1
 => bif decide (n_0 < n_1) then Q (.ret (.int .i64 0)) [Blk.mk BK.exact true z, Blk.mk BK.exact true [c0, c1, c2, c3, c4, c5, c6, c7, c8, c9, c10, c11, c12, .str [], .bool true], Blk.mk BK.exact true d] {} else exI .i64 (k : Int) fun n_2 =>
 ckQ (decide (0 ≤ n_2) && true && Nat.ble n_2.toNat l.length) (exS (.str ((l.drop 0).take (n_2.toNat - 0))) fun s_3 => ckQ (Nat.beq s_3.length (ofBytes s_3).length && Nat.beq (s_3.length * 1) s_3.length && oldL 0 (ofBytes s_3) && noYL
 (ofBytes s_3)) (exI .i64 (s_3.length : Int) fun n_4 => (∃ x_5 : Nat, Lf (x_5 ≤ (l.take k).length) ∧ z = z ∧ eqqQ [c0, c1, c2, c3, c4, c5, c6, c7, c8, c9, c10, c11, c12, .str l, .bool b] ∧ d = d ∧ eqqQ (AV.ptr 1 15 0) ∧ eqqQ (AV.int .i64 (k
 : Int)) ∧ AV.lst 0 (ofBytes s_3) s_3.length 1 = AV.lst 0 (ofBytes (l.take k)) (l.take k).length 1 ∧ AV.int .i64 0 = AV.int .i64 (numM ((l.take k).take x_5)) ∧ AV.int .i64 0 = AV.int .i64 (x_5 : Int) ∧ AV.int .i64 n_4 = AV.int .i64 ((l.take
 k).length : Int) ∧ True) ∧ ∀ x_5 : Nat, Lf (x_5 ≤ (l.take k).length) → bif decide ((x_5 : Int) < ((l.take k).length : Int)) then ckQ (Nat.blt (x_5 : Int).toNat (l.take k).length && true) (ckQ (Nat.blt ((x_5 : Int).toNat * 1) (ofBytes
 (l.take k)).length) (exV .u8 ((ofBytes (l.take k)).getD ((x_5 : Int).toNat * 1) AV.undef) fun n_6 => exI .i64 (numM ((l.take k).take x_5)) fun n_7 => exW .i64 (n_7 * 256) fun n_8 => exW .i64 n_6 fun n_9 => exW .i64 (((n_8 %
 18446744073709551616).toNat ||| (n_9 % 18446744073709551616).toNat : Nat) : Int) fun n_10 => exW .i64 ((x_5 : Int) + 1) fun n_11 => (True ∧ (0 : Nat) = (0 : Nat)) ∧ ∃ y_12 : Nat, Lf (y_12 ≤ (l.take k).length) ∧ (l.take k).length - y_12 <
 (l.take k).length - x_5 ∧ z = z ∧ eqqQ [c0, c1, c2, c3, c4, c5, c6, c7, c8, c9, c10, c11, c12, .str l, .bool b] ∧ d = d ∧ eqqQ (AV.ptr 1 15 0) ∧ eqqQ (AV.int .i64 (k : Int)) ∧ eqqQ (AV.lst 0 (ofBytes (l.take k)) (l.take k).length 1) ∧
 AV.int .i64 n_10 = AV.int .i64 (numM ((l.take k).take y_12)) ∧ AV.int .i64 n_11 = AV.int .i64 (y_12 : Int) ∧ eqqQ (AV.int .i64 ((l.take k).length : Int)) ∧ True)) else exI .i64 (k : Int) fun n_6 => ckQ (decide (0 ≤ n_6) && true && Nat.ble
 n_6.toNat l.length && Nat.ble l.length l.length) (exS (.str ((l.drop n_6.toNat).take (l.length - n_6.toNat))) fun s_7 => exI .i64 (numM ((l.take k).take x_5)) fun n_8 => Q (.ret (.int .i64 n_8)) [Blk.mk BK.exact true z, Blk.mk BK.exact
 true [c0, c1, c2, c3, c4, c5, c6, c7, c8, c9, c10, c11, c12, .str s_7, .bool b], Blk.mk BK.exact true d] {})))) := by kernel_rfl

theorem tk_f (z : List AV) (c0 c1 c2 c3 c4 c5 c6 c7 c8 c9 c10 c11 c12 : AV) (l : List UInt8) (b : Bool) (d : List AV) (k : Nat) (hk : k ≤ 4) (Q : Out → List Blk → Gh → Prop) (hq : ∀ n l' b', tkM k l b = (n, l', b') → Q (.ret (.int .i64 n)) [⟨.exact, true, z⟩, rdB true c0 c1 c2 c3 c4 c5 c6 c7 c8 c9 c10 c11 c12 l' b', ⟨.exact, true, d⟩] {}) : ∃ hv hb, goal_58f hv hb z c0 c1 c2 c3 c4 c5 c6 c7 c8 c9 c10 c11 c12 l b d k Q := by
 obtain ⟨hv, hb', e⟩ : ∃ hv hb, goal_58f hv hb z c0 c1 c2 c3 c4 c5 c6 c7 c8 c9 c10 c11 c12 l b d k Q = _ := ⟨_, _, vc_58f z c0 c1 c2 c3 c4 c5 c6 c7 c8 c9 c10 c11 c12 l b d k Q⟩
 refine ⟨hv, hb', e.mpr ?_⟩
 clear e
 have hmin : (l.take k).length ≤ k := by rw [List.length_take]; omega
 refine ⟨_, rfl, _, rfl, splitD (fun h => hq _ _ _ (by rw [tkM, if_pos (by omega)])) (fun h => ?_)⟩
 have hlen : (l.take k).length = k := by rw [List.length_take]; omega
 refine ⟨_, rfl, ckI (by simp; omega) ⟨l.take k, by simp, ckI (by simp [ofB_len, oldL_ofB, noY_ofB]) ?_⟩⟩
 refine ⟨_, rfl, ⟨0, ⟨Nat.zero_le _⟩, rfl, rfl, rfl, rfl, rfl, rfl, rfl, rfl, rfl, trivial⟩, ?_⟩
 rintro i ⟨hi⟩
 refine splitD (fun h2 => ?_) (fun h2 => ?_)
 ·have hi' : i < (l.take k).length := by omega
  have hs := num_small3 (l := (l.take k).take i) (by rw [List.length_take]; omega)
  have hc := ((l.take k)[i]).toNat_lt
  refine ckI (by simp; omega) (ckI (by simp [ofB_len]; omega) (getB hi' (by simp) (orN hs ⟨by omega, by omega⟩ (wrapI (by omega) (by omega) ⟨⟨trivial, rfl⟩, i + 1, ⟨hi'⟩, by omega, rfl, rfl, rfl, rfl, rfl, rfl, by rw [num_take hi'], rfl, rfl, trivial⟩))))
 ·have : (l.take k).take i = l.take k := List.take_of_length_le (by omega)
  rw [this]
  refine ⟨_, rfl, ckI (by simp; omega) ⟨l.drop k, by rw [Int.toNat_natCast, List.take_of_length_le (by simp)], _, rfl, hq _ _ _ (by rw [tkM, if_neg (by omega)])⟩⟩
def inv_58g (z : List AV) (c0 c1 c2 c3 c4 c5 c6 c7 c8 c9 c10 c11 c12 : AV) (l : List UInt8) (b : Bool) (d e g j : List AV) (k : Nat) : LInv where
 α := Nat
 pre i := Lf (i ≤ (l.take k).length)
 st i := ⟨mkT [(0, .ptr 1 15 0), (1, .int .i64 (k : Nat)), (5, .int .i64 (numM ((l.take k).take i))), (27, .lst 0 (ofBytes (l.take k)) (l.take k).length 1), (28, .int .i64 ((l.take k).length : Nat)), (29, .int .i64 (i : Nat))], [⟨.exact, true, z⟩, rdB false c0 c1 c2 c3 c4 c5 c6 c7 c8 c9 c10 c11 c12 l b, ⟨.exact, true, d⟩, ⟨.exact, true, e⟩, ⟨.grow, true, g⟩, ⟨.exact, true, j⟩]⟩
 mu i := (l.take k).length - i
noncomputable def env_58g (hv : Nat → Option Pa) (hb : Nat → Option Bool) (z : List AV) (c0 c1 c2 c3 c4 c5 c6 c7 c8 c9 c10 c11 c12 : AV) (l : List UInt8) (b : Bool) (d e g j : List AV) (k : Nat) : Env := { e24 sm0 (fun i => bif Nat.beq i 58000 then some (fun _ => [[inv_58g z c0 c1 c2 c3 c4 c5 c6 c7 c8 c9 c10 c11 c12 l b d e g j k]]) else none) hv hb with hz := hz58 }
noncomputable def goal_58g (hv : Nat → Option Pa) (hb : Nat → Option Bool) (z : List AV) (c0 c1 c2 c3 c4 c5 c6 c7 c8 c9 c10 c11 c12 : AV) (l : List UInt8) (b : Bool) (d e g j : List AV) (k : Nat) (Q : Out → List Blk → Gh → Prop) : Prop :=
 callx (env_58g hv hb z c0 c1 c2 c3 c4 c5 c6 c7 c8 c9 c10 c11 c12 l b d e g j k) (wpx (env_58g hv hb z c0 c1 c2 c3 c4 c5 c6 c7 c8 c9 c10 c11 c12 l b d e g j k) 1000) 58 [.ptr 1 15 0, .int .i64 (k : Nat)] [⟨.exact, true, z⟩, rdB false c0 c1 c2 c3 c4 c5 c6 c7 c8 c9 c10 c11 c12 l b, ⟨.exact, true, d⟩, ⟨.exact, true, e⟩, ⟨.grow, true, g⟩, ⟨.exact, true, j⟩] {} Q
theorem vc_58g (z : List AV) (c0 : AV) (c1 : AV) (c2 : AV) (c3 : AV) (c4 : AV) (c5 : AV) (c6 : AV) (c7 : AV) (c8 : AV) (c9 : AV) (c10 : AV) (c11 : AV) (c12 : AV) (l : List UInt8) (b : Bool) (d : List AV) (e : List AV) (g : List AV) (j :
 List AV) (k : Nat) (Q : Out → List Blk → Gh → Prop) : goal_58g (lookV [(237580, .int .i64), (237581, .int .i64), (237593, .int .i64), (237594, .str), (237596, .int .i64), (237600, .int .u8), (237601, .int .i64), (237602, .int .i64),
 (237604, .int .i64), (237605, .int .i64), (237606, .int .i64), (237612, .int .i64), (237613, .str), (237616, .int .i64)]) (lookB [(241662, false), (1237568000, false)]) z c0 c1 c2 c3 c4 c5 c6 c7 c8 c9 c10 c11 c12 l b d e g j k Q = (exI
 .i64 (l.length : Int) fun n_0 => exI .i64 (k : Int) fun n_1 => bif decide (n_0 < n_1) then Q (.ret (.int .i64 0)) [Blk.mk BK.exact true z, Blk.mk BK.exact false [c0, c1, c2, c3, c4, c5, c6, c7, c8, c9, c10, c11, c12, .str [], .bool true],
 Blk.mk BK.exact true d, Blk.mk BK.exact true e, Blk.mk BK.grow true g, Blk.mk BK.exact true j] {} else exI .i64 (k : Int) fun n_2 => ckQ (decide (0 ≤ n_2) && true && Nat.ble n_2.toNat l.length) (exS (.str ((l.drop 0).take (n_2.toNat - 0)))
 fun s_3 => ckQ (Nat.beq s_3.length (ofBytes s_3).length && Nat.beq (s_3.length * 1) s_3.length && oldL 0 (ofBytes s_3) && noYL (ofBytes s_3)) (exI .i64 (s_3.length : Int) fun n_4 => (∃ x_5 : Nat, Lf (x_5 ≤ (l.take k).length) ∧ z = z ∧ eqqQ
 [c0, c1, c2, c3, c4, c5, c6, c7, c8, c9, c10, c11, c12, .str l, .bool b] ∧ d = d ∧ e = e ∧ g = g ∧ j = j ∧ eqqQ (AV.ptr 1 15 0) ∧ eqqQ (AV.int .i64 (k : Int)) ∧ AV.lst 0 (ofBytes s_3) s_3.length 1 = AV.lst 0 (ofBytes (l.take k)) (l.take
 k).length 1 ∧ AV.int .i64 0 = AV.int .i64 (numM ((l.take k).take x_5)) ∧ AV.int .i64 0 = AV.int .i64 (x_5 : Int) ∧ AV.int .i64 n_4 = AV.int .i64 ((l.take k).length : Int) ∧ True) ∧ ∀ x_5 : Nat, Lf (x_5 ≤ (l.take k).length) → bif decide
 ((x_5 : Int) < ((l.take k).length : Int)) then ckQ (Nat.blt (x_5 : Int).toNat (l.take k).length && true) (ckQ (Nat.blt ((x_5 : Int).toNat * 1) (ofBytes (l.take k)).length) (exV .u8 ((ofBytes (l.take k)).getD ((x_5 : Int).toNat * 1)
 AV.undef) fun n_6 => exI .i64 (numM ((l.take k).take x_5)) fun n_7 => exW .i64 (n_7 * 256) fun n_8 => exW .i64 n_6 fun n_9 => exW .i64 (((n_8 % 18446744073709551616).toNat ||| (n_9 % 18446744073709551616).toNat : Nat) : Int) fun n_10 =>
 exW .i64 ((x_5 : Int) + 1) fun n_11 => (True ∧ (0 : Nat) = (0 : Nat)) ∧ ∃ y_12 : Nat, Lf (y_12 ≤ (l.take k).length) ∧ (l.take k).length - y_12 < (l.take k).length - x_5 ∧ z = z ∧ eqqQ [c0, c1, c2, c3, c4, c5, c6, c7, c8, c9, c10, c11, c12,
 .str l, .bool b] ∧ d = d ∧ e = e ∧ g = g ∧ j = j ∧ eqqQ (AV.ptr 1 15 0) ∧ eqqQ (AV.int .i64 (k : Int)) ∧ eqqQ (AV.lst 0 (ofBytes (l.take k)) (l.take k).length 1) ∧ AV.int .i64 n_10 = AV.int .i64 (numM ((l.take k).take y_12)) ∧ AV.int .i64
 n_11 = AV.int .i64 (y_12 : Int) ∧ eqqQ (AV.int .i64 ((l.take k).length : Int)) ∧ True)) else exI .i64 (k : Int) fun n_6 => ckQ (decide (0 ≤ n_6) && true && Nat.ble n_6.toNat l.length && Nat.ble l.length l.length) (exS (.str ((l.drop
 n_6.toNat).take (l.length - n_6.toNat))) fun s_7 => exI .i64 (numM ((l.take k).take x_5)) fun n_8 => Q (.ret (.int .i64 n_8)) [Blk.mk BK.exact true z, Blk.mk BK.exact false [c0, c1, c2, c3, c4, c5, c6, c7, c8, c9, c10, c11, c12, .str s_7,
 .bool b], Blk.mk BK.exact true d, Blk.mk BK.exact true e, Blk.mk BK.grow true g, Blk.mk BK.exact true j] {})))) := by kernel_rfl

theorem tk_g (z : List AV) (c0 c1 c2 c3 c4 c5 c6 c7 c8 c9 c10 c11 c12 : AV) (l : List UInt8) (b : Bool) (d e g j : List AV) (k : Nat) (hk : k ≤ 4) (Q : Out → List Blk → Gh → Prop) (hq : ∀ n l' b', tkM k l b = (n, l', b') → Q (.ret (.int .i64 n)) [⟨.exact, true, z⟩, rdB false c0 c1 c2 c3 c4 c5 c6 c7 c8 c9 c10 c11 c12 l' b', ⟨.exact, true, d⟩, ⟨.exact, true, e⟩, ⟨.grow, true, g⟩, ⟨.exact, true, j⟩] {}) : ∃ hv hb, goal_58g hv hb z c0 c1 c2 c3 c4 c5 c6 c7 c8 c9 c10 c11 c12 l b d e g j k Q := by
 obtain ⟨hv, hb', e⟩ : ∃ hv hb, goal_58g hv hb z c0 c1 c2 c3 c4 c5 c6 c7 c8 c9 c10 c11 c12 l b d e g j k Q = _ := ⟨_, _, vc_58g z c0 c1 c2 c3 c4 c5 c6 c7 c8 c9 c10 c11 c12 l b d e g j k Q⟩
 refine ⟨hv, hb', e.mpr ?_⟩
 clear e
 have hmin : (l.take k).length ≤ k := by rw [List.length_take]; omega
 refine ⟨_, rfl, _, rfl, splitD (fun h => hq _ _ _ (by rw [tkM, if_pos (by omega)])) (fun h => ?_)⟩
 have hlen : (l.take k).length = k := by rw [List.length_take]; omega
 refine ⟨_, rfl, ckI (by simp; omega) ⟨l.take k, by simp, ckI (by simp [ofB_len, oldL_ofB, noY_ofB]) ?_⟩⟩
 refine ⟨_, rfl, ⟨0, ⟨Nat.zero_le _⟩, rfl, rfl, rfl, rfl, rfl, rfl, rfl, rfl, rfl, rfl, rfl, rfl, trivial⟩, ?_⟩
 rintro i ⟨hi⟩
 refine splitD (fun h2 => ?_) (fun h2 => ?_)
 ·have hi' : i < (l.take k).length := by omega
  have hs := num_small3 (l := (l.take k).take i) (by rw [List.length_take]; omega)
  have hc := ((l.take k)[i]).toNat_lt
  refine ckI (by simp; omega) (ckI (by simp [ofB_len]; omega) (getB hi' (by simp) (orN hs ⟨by omega, by omega⟩ (wrapI (by omega) (by omega) ⟨⟨trivial, rfl⟩, i + 1, ⟨hi'⟩, by omega, rfl, rfl, rfl, rfl, rfl, rfl, rfl, rfl, rfl, by rw [num_take hi'], rfl, rfl, trivial⟩))))
 ·have : (l.take k).take i = l.take k := List.take_of_length_le (by omega)
  rw [this]
  refine ⟨_, rfl, ckI (by simp; omega) ⟨l.drop k, by rw [Int.toNat_natCast, List.take_of_length_le (by simp)], _, rfl, hq _ _ _ (by rw [tkM, if_neg (by omega)])⟩⟩
end Go.Proofs.YtafchcmemeinlaaDoor

/-
  Chapter 18: few as a contract; Bend.Of and Draft.Badge: residuals.
-/
import Derived.Test.YtifjpcdpmimccaaGreatDoorBmB
set_option linter.unusedSimpArgs false
set_option linter.unusedVariables false
set_option linter.unusedSectionVars false
namespace Go.Proofs.YtifjpcdpmimccaaGreatDoor
open Go.RowKit
set_option maxRecDepth 1000000

def ltM (c : UInt8) : Bool := letterM (c.toNat : Int)
def inv_12a (d : List UInt8) (s : S) : List (List LInv) := [[{ α := List UInt8 × Nat, pre := fun p => Lf (p.1.length = p.2 ∧ p.2 ≤ 30 ∧ p.2 ≤ d.length ∧ p.1.all ltM = true), st := fun p => ⟨mkT [(1, s.tm.get 1), (2, s.tm.get 2), (3, .str (97 :: p.1)), (4, .int .i64 (p.2 : Nat))], s.hp⟩, mu := fun p => 30 - p.2 }]]
def inv_12b (s : S) : List (List LInv) := [[{ α := List UInt8 × Nat, pre := fun p => Lf (p.1.length = p.2 ∧ p.2 ≤ 32), st := fun p => ⟨mkT [(1, s.tm.get 1), (2, s.tm.get 2), (3, s.tm.get 3), (5, .str p.1), (6, .int .i64 (p.2 : Nat))], s.hp⟩, mu := fun p => 32 - p.2 }]]
noncomputable def env_12 (hv : Nat → Option Pa) (hb : Nat → Option Bool) (d : List UInt8) : Env := e18 sm0 (fun i => bif Nat.beq i 12000 then some (inv_12a d) else bif Nat.beq i 12002 then some inv_12b else none) hv hb
noncomputable def goal_12 (hv : Nat → Option Pa) (hb : Nat → Option Bool) (tg : Nat) (d : List UInt8) (ky fr af nu : Int) (Q : Out → List Blk → Gh → Prop) : Prop :=
 callx (env_12 hv hb d) (wpx (env_12 hv hb d) 1000) 12 [.agg [.lst tg (ofBytes d) d.length 1, .int .u8 ky, .int .u16 fr, .int .u16 af, .int .u32 nu]] [] {} Q
abbrev q8ZG_12_0 (tg : Nat) (d : List UInt8) (ky : Int) (fr : Int) (af : Int) (nu : Int) (s_8 : List UInt8) (Q : Out → List Blk → Gh → Prop) : Prop :=
(∃ x_9 : List UInt8 × Nat, Lf (x_9.1.length = x_9.2 ∧ x_9.2 ≤ 32) ∧ eqqQ [AV.lst tg (ofBytes d) d.length 1, .int .u8 ky, .int .u16 fr, .int .u16 af, .int .u32 nu] ∧ eqqQ [AV.str [], .str [], .int .i64 0, .int .i64 0, .int .i64 0] ∧ eqqQ
 (AV.ptr 0 5 0) ∧ eqqQ (AV.str s_8) ∧ AV.str [] = AV.str x_9.1 ∧ eqqQ (AV.ptr 1 5 0) ∧ AV.int .i64 0 = AV.int .i64 (x_9.2 : Int) ∧ True) ∧ ∀ x_9 : List UInt8 × Nat, Lf (x_9.1.length = x_9.2 ∧ x_9.2 ≤ 32) → exI .i64 (x_9.2 : Int) fun n_10 =>
 bif decide (n_10 < 32) then exI .i64 (x_9.2 : Int) fun n_11 => exW .u8 n_11 fun n_12 => exI .u8 (ky.tmod 3) fun n_13 => exW .u8 (n_12 * n_13) fun n_14 => exW .u8 (ky + n_14) fun n_15 => exS (.str [toB (.int .u8 n_15)]) fun s_16 => ckQ
 (decide (x_9.1.length + s_16.length ≤ 9223372036854775807) && true) (exS (.str (x_9.1 ++ s_16)) fun s_17 => exI .i64 (x_9.2 : Int) fun n_18 => exW .i64 (n_18 + 1) fun n_19 => (True ∧ (0 : Nat) = (0 : Nat)) ∧ ∃ y_20 : List UInt8 × Nat, Lf
 (y_20.1.length = y_20.2 ∧ y_20.2 ≤ 32) ∧ 32 - y_20.2 < 32 - x_9.2 ∧ eqqQ [AV.lst tg (ofBytes d) d.length 1, .int .u8 ky, .int .u16 fr, .int .u16 af, .int .u32 nu] ∧ eqqQ [AV.str [], .str [], .int .i64 0, .int .i64 0, .int .i64 0] ∧ eqqQ
 (AV.ptr 0 5 0) ∧ eqqQ (AV.str s_8) ∧ AV.str s_17 = AV.str y_20.1 ∧ eqqQ (AV.ptr 1 5 0) ∧ AV.int .i64 n_19 = AV.int .i64 (y_20.2 : Int) ∧ True) else exW .i64 fr fun n_11 => exW .i64 fr fun n_12 => exW .i64 af fun n_13 => exW .i64 (n_12 +
 n_13) fun n_14 => exW .i64 nu fun n_15 => Q (.ret (.agg [.str s_8, .str x_9.1, .int .i64 n_11, .int .i64 n_14, .int .i64 n_15])) [] {}
theorem vc_12 (tg : Nat) (d : List UInt8) (ky : Int) (fr : Int) (af : Int) (nu : Int) (Q : Out → List Blk → Gh → Prop) : goal_12 (lookV [(49159, .int .i64), (49162, .int .i64), (49165, .int .i64), (49170, .str), (49173, .int .i64), (49175,
 .int .u8), (49176, .int .u8), (49179, .int .i64), (49181, .int .u8), (49182, .int .u8), (49183, .int .u8), (49184, .str), (49185, .str), (49168, .int .i64), (49169, .int .i64), (49186, .str), (49187, .str), (49190, .int .i64), (49191, .int
 .i64), (49194, .str), (49195, .int .i64), (49202, .int .i64), (49203, .int .u8), (49206, .int .u8), (49207, .int .u8), (49208, .int .u8), (49210, .str), (49211, .str), (49197, .int .i64), (49198, .int .i64), (49216, .int .i64), (49219,
 .int .i64), (49222, .int .i64), (49223, .int .i64), (49226, .int .i64)]) (lookB []) tg d ky fr af nu Q = ((∃ x_0 : List UInt8 × Nat, Lf (x_0.1.length = x_0.2 ∧ x_0.2 ≤ 30 ∧ x_0.2 ≤ d.length ∧ List.all x_0.1 ltM = true) ∧ eqqQ [AV.lst tg
 (ofBytes d) d.length 1, .int .u8 ky, .int .u16 fr, .int .u16 af, .int .u32 nu] ∧ eqqQ [AV.str [], .str [], .int .i64 0, .int .i64 0, .int .i64 0] ∧ eqqQ (AV.ptr 0 5 0) ∧ AV.str [UInt8.ofNat 97] = AV.str (UInt8.ofNat 97 :: x_0.1) ∧ eqqQ
 (AV.ptr 1 5 0) ∧ AV.int .i64 0 = AV.int .i64 (x_0.2 : Int) ∧ True) ∧ ∀ x_0 : List UInt8 × Nat, Lf (x_0.1.length = x_0.2 ∧ x_0.2 ≤ 30 ∧ x_0.2 ≤ d.length ∧ List.all x_0.1 ltM = true) → exI .i64 (x_0.2 : Int) (fun n_1 => exI .i64 (d.length :
 Int) (fun n_2 => bif decide (n_1 < n_2) then exI .i64 (x_0.2 : Int) (fun n_3 => bif decide (n_3 < 30) then exS (.str (UInt8.ofNat 97 :: x_0.1)) (fun s_4 => exI .i64 (x_0.2 : Int) (fun n_5 => ckQ (decide (0 ≤ n_5) && Nat.blt n_5.toNat
 d.length && true) (ckQ (Nat.blt (n_5.toNat * 1) (ofBytes d).length) (exV .u8 ((ofBytes d).getD (n_5.toNat * 1) AV.undef) (fun n_6 => exI .u8 (n_6.tmod 64) (fun n_7 => exI .i64 (x_0.2 : Int) (fun n_8 => ckQ (decide (0 ≤ n_8) && Nat.blt
 n_8.toNat d.length && true) (ckQ (Nat.blt (n_8.toNat * 1) (ofBytes d).length) (exV .u8 ((ofBytes d).getD (n_8.toNat * 1) AV.undef) (fun n_9 => exI .u8 (n_9.tmod 64) (fun n_10 => exW .u8 (n_10 + 1) (fun n_11 => ckQ (decide (0 ≤ n_7) &&
 decide (0 ≤ n_11) && Nat.ble n_7.toNat n_11.toNat && Nat.ble n_11.toNat 64) (exS (.str ((List.drop n_7.toNat [UInt8.ofNat 97, UInt8.ofNat 98, UInt8.ofNat 99, UInt8.ofNat 100, UInt8.ofNat 101, UInt8.ofNat 102, UInt8.ofNat 103, UInt8.ofNat
 104, UInt8.ofNat 105, UInt8.ofNat 106, UInt8.ofNat 107, UInt8.ofNat 108, UInt8.ofNat 109, UInt8.ofNat 110, UInt8.ofNat 111, UInt8.ofNat 112, UInt8.ofNat 113, UInt8.ofNat 114, UInt8.ofNat 115, UInt8.ofNat 116, UInt8.ofNat 117, UInt8.ofNat
 118, UInt8.ofNat 119, UInt8.ofNat 120, UInt8.ofNat 121, UInt8.ofNat 122, UInt8.ofNat 65, UInt8.ofNat 66, UInt8.ofNat 67, UInt8.ofNat 68, UInt8.ofNat 69, UInt8.ofNat 70, UInt8.ofNat 71, UInt8.ofNat 72, UInt8.ofNat 73, UInt8.ofNat 74,
 UInt8.ofNat 75, UInt8.ofNat 76, UInt8.ofNat 77, UInt8.ofNat 78, UInt8.ofNat 79, UInt8.ofNat 80, UInt8.ofNat 81, UInt8.ofNat 82, UInt8.ofNat 83, UInt8.ofNat 84, UInt8.ofNat 85, UInt8.ofNat 86, UInt8.ofNat 87, UInt8.ofNat 88, UInt8.ofNat 89,
 UInt8.ofNat 90, UInt8.ofNat 48, UInt8.ofNat 49, UInt8.ofNat 50, UInt8.ofNat 51, UInt8.ofNat 52, UInt8.ofNat 53, UInt8.ofNat 54, UInt8.ofNat 55, UInt8.ofNat 56, UInt8.ofNat 57, UInt8.ofNat 46, UInt8.ofNat 45]).take (n_11.toNat -
 n_7.toNat))) (fun s_12 => ckQ (decide (s_4.length + s_12.length ≤ 9223372036854775807) && true) (exS (.str (s_4 ++ s_12)) (fun s_13 => exI .i64 (x_0.2 : Int) (fun n_14 => exW .i64 (n_14 + 1) (fun n_15 => (True ∧ (0 : Nat) = (0 : Nat)) ∧ ∃
 y_16 : List UInt8 × Nat, Lf (y_16.1.length = y_16.2 ∧ y_16.2 ≤ 30 ∧ y_16.2 ≤ d.length ∧ List.all y_16.1 ltM = true) ∧ 30 - y_16.2 < 30 - x_0.2 ∧ eqqQ [AV.lst tg (ofBytes d) d.length 1, .int .u8 ky, .int .u16 fr, .int .u16 af, .int .u32 nu]
 ∧ eqqQ [AV.str [], .str [], .int .i64 0, .int .i64 0, .int .i64 0] ∧ eqqQ (AV.ptr 0 5 0) ∧ AV.str s_13 = AV.str (UInt8.ofNat 97 :: y_16.1) ∧ eqqQ (AV.ptr 1 5 0) ∧ AV.int .i64 n_15 = AV.int .i64 (y_16.2 : Int) ∧ True)))))))))))))))))) else
 exS (.str (UInt8.ofNat 97 :: x_0.1)) (fun s_4 => ckQ (decide (s_4.length + 1 ≤ 9223372036854775807) && true) (exS (.str (s_4 ++ [UInt8.ofNat 122])) (fun s_5 => exI .i64 (d.length : Int) (fun n_6 => exI .i64 (n_6.tmod 5) (fun n_7 => bif n_7
 == 0 then ckQ (Nat.ble 1 s_5.length) (exS (.str ((s_5.drop 0).take 1)) (fun s_8 => q8ZG_12_0 tg d ky fr af nu s_8 Q)) else q8ZG_12_0 tg d ky fr af nu s_5 Q)))))) else exS (.str (UInt8.ofNat 97 :: x_0.1)) (fun s_3 => ckQ (decide (s_3.length
 + 1 ≤ 9223372036854775807) && true) (exS (.str (s_3 ++ [UInt8.ofNat 122])) (fun s_4 => exI .i64 (d.length : Int) (fun n_5 => exI .i64 (n_5.tmod 5) (fun n_6 => bif n_6 == 0 then ckQ (Nat.ble 1 s_4.length) (exS (.str ((s_4.drop 0).take 1))
 (fun s_7 => q8ZG_12_0 tg d ky fr af nu s_7 Q)) else q8ZG_12_0 tg d ky fr af nu s_4 Q)))))))) := by kernel_rfl

end Go.Proofs.YtifjpcdpmimccaaGreatDoor

set_option linter.unusedSimpArgs false
set_option linter.unusedVariables false
set_option linter.unusedSectionVars false
namespace Go.Proofs.YtifjpcdpmimccaaGreatDoor
open Go.RowKit
set_option maxRecDepth 1000000

def letL : List UInt8 := [UInt8.ofNat 97, UInt8.ofNat 98, UInt8.ofNat 99, UInt8.ofNat 100, UInt8.ofNat 101, UInt8.ofNat 102, UInt8.ofNat 103, UInt8.ofNat 104, UInt8.ofNat 105, UInt8.ofNat 106, UInt8.ofNat 107, UInt8.ofNat 108, UInt8.ofNat 109, UInt8.ofNat 110, UInt8.ofNat 111, UInt8.ofNat 112, UInt8.ofNat 113, UInt8.ofNat 114, UInt8.ofNat 115, UInt8.ofNat 116, UInt8.ofNat 117, UInt8.ofNat 118, UInt8.ofNat 119, UInt8.ofNat 120, UInt8.ofNat 121, UInt8.ofNat 122, UInt8.ofNat 65, UInt8.ofNat 66, UInt8.ofNat 67, UInt8.ofNat 68, UInt8.ofNat 69, UInt8.ofNat 70, UInt8.ofNat 71, UInt8.ofNat 72, UInt8.ofNat 73, UInt8.ofNat 74, UInt8.ofNat 75, UInt8.ofNat 76, UInt8.ofNat 77, UInt8.ofNat 78, UInt8.ofNat 79, UInt8.ofNat 80, UInt8.ofNat 81, UInt8.ofNat 82, UInt8.ofNat 83, UInt8.ofNat 84, UInt8.ofNat 85, UInt8.ofNat 86, UInt8.ofNat 87, UInt8.ofNat 88, UInt8.ofNat 89, UInt8.ofNat 90, UInt8.ofNat 48, UInt8.ofNat 49, UInt8.ofNat 50, UInt8.ofNat 51, UInt8.ofNat 52, UInt8.ofNat 53, UInt8.ofNat 54, UInt8.ofNat 55, UInt8.ofNat 56, UInt8.ofNat 57, UInt8.ofNat 46, UInt8.ofNat 45]
theorem letL_ok (q : Nat) (h : q < 64) : ((letL.drop q).take 1).length = 1 ∧ ((letL.drop q).take 1).all ltM = true := by
 have : ∀ j : Fin 64, ((letL.drop j).take 1).length = 1 ∧ ((letL.drop j).take 1).all ltM = true := by decide
 exact this ⟨q, h⟩
theorem getU {d : List UInt8} {i m : Nat} (hi : i < d.length) (hm : m = i) {K : Int → Prop} (hk : K (d[i].toNat : Int)) : ∃ n : Int, (ofBytes d).getD m AV.undef = AV.int .u8 n ∧ K n := by
 subst hm
 refine ⟨_, ?_, hk⟩
 simp [ofBytes, List.getD_eq_getElem?_getD, hi]
theorem bytes_len (d : List UInt8) : (ofBytes d).length = d.length := by simp [ofBytes]
theorem name_mid {p : List UInt8} (h1 : p.length ≤ 30) (h2 : p.all ltM = true) : nameM ((97 :: p) ++ [122]) = true := by
 rw [name_iff]
 refine ⟨by simp, by simp; omega, (by decide : isDot 97 = false), ?_, ?_⟩
 ·have e : ((97 :: p) ++ [122]).getD (((97 :: p) ++ [122]).length - 1) 0 = (122 : UInt8) := by
   rw [List.getD_eq_getElem?_getD, List.length_append, List.length_singleton, Nat.add_sub_cancel, List.getElem?_concat_length]
   rfl
  rw [e]; decide
 ·rw [List.all_append, List.all_cons]
  have : p.all (fun c => letterM (c.toNat : Int)) = true := h2
  rw [this]; decide
theorem name_a : nameM [97] = true := by decide
theorem draft_run (tg : Nat) (d : List UInt8) (ky fr af nu : Int) (hd : d.length ≤ 9223372036854775807) (hf : 0 ≤ fr ∧ fr ≤ 65535) (ha : 0 ≤ af ∧ af ≤ 65535) (hn : 0 ≤ nu ∧ nu ≤ 4294967295) (Q : Out → List Blk → Gh → Prop) (hq : ∀ n k f u m g, rightBM n k f u m = true → Q (.ret (.agg [.str n, .str k, .int .i64 f, .int .i64 u, .int .i64 m])) [] g) : ∃ hv hb, goal_12 hv hb tg d ky fr af nu Q := by
 obtain ⟨hv', hb', e'⟩ : ∃ hv hb, goal_12 hv hb tg d ky fr af nu Q = _ := ⟨_, _, vc_12 tg d ky fr af nu Q⟩
 refine ⟨hv', hb', e'.mpr ?_⟩
 clear e'
 refine ⟨⟨([], 0), ⟨rfl, by omega, by omega, rfl⟩, rfl, rfl, rfl, rfl, rfl, rfl, trivial⟩, ?_⟩
 rintro ⟨p, i⟩ ⟨p1, p2, p3, p4⟩
 simp only at p1 p2 p3 p4
 have nz := name_mid (p := p) (by omega) p4
 refine ⟨_, rfl, _, rfl, splitD (fun h1 => ⟨_, rfl, splitD (fun h2 => ?_) (fun h2 => ?_)⟩) (fun h1 => ?_)⟩
 ·have hi : i < d.length := by have h1' : (i : Int) < (d.length : Int) := h1; omega
  have h2' : (i : Int) < 30 := h2
  obtain ⟨q, hq0, hq1⟩ : ∃ q : Nat, Int.tmod (d[i].toNat : Int) 64 = (q : Int) ∧ q < 64 := ⟨d[i].toNat % 64, by rw [Int.tmod_eq_emod_of_nonneg (by omega)]; omega, by omega⟩
  have hl := letL_ok q hq1
  refine ⟨_, rfl, _, rfl, ckI (by rw [Bool.and_true]; exact idxOk (by show (0 : Int) ≤ (i : Int); omega) h1) (ckI (by rw [bytes_len, Nat.blt_eq]; show (Int.toNat (i : Int)) * 1 < _; omega) (getU hi (by show (Int.toNat (i : Int)) * 1 = _; omega) ⟨(q : Int), congrArg _ hq0, _, rfl, ckI (by rw [Bool.and_true]; exact idxOk (by show (0 : Int) ≤ (i : Int); omega) h1) (ckI (by rw [bytes_len, Nat.blt_eq]; show (Int.toNat (i : Int)) * 1 < _; omega) (getU hi (by show (Int.toNat (i : Int)) * 1 = _; omega) ⟨(q : Int), congrArg _ hq0, wrapU8 (by omega) (by omega) (ckI ?_ ⟨_, rfl, ckI ?_ ⟨_, rfl, _, rfl, wrapI (by show _ ≤ (i : Int) + 1; omega) (by show (i : Int) + 1 ≤ _; omega) ⟨⟨trivial, rfl⟩, (p ++ (letL.drop q).take 1, i + 1), ⟨?_⟩, by show 30 - (i + 1) < 30 - i; omega, rfl, rfl, rfl, ?_, rfl, rfl, trivial⟩⟩⟩)⟩))⟩))⟩
  have e : ((q : Int) + 1).toNat - (Int.toNat (q : Int)) = 1 := by omega
  have e2 : (letL.drop (Int.toNat (q : Int))).take (((q : Int) + 1).toNat - (Int.toNat (q : Int))) = (letL.drop q).take 1 := by rw [e]; rfl
  ·simp only [Bool.and_eq_true, decide_eq_true_eq, Nat.ble_eq]; omega
  ·rw [Bool.and_true, decide_eq_true_eq]
   show (97 :: p).length + ((letL.drop (Int.toNat (q : Int))).take (((q : Int) + 1).toNat - (Int.toNat (q : Int)))).length ≤ _
   have e2 : (letL.drop (Int.toNat (q : Int))).take (((q : Int) + 1).toNat - (Int.toNat (q : Int))) = (letL.drop q).take 1 := by rw [show ((q : Int) + 1).toNat - (Int.toNat (q : Int)) = 1 by omega]; rfl
   rw [e2, hl.1, List.length_cons]; omega
  ·refine ⟨by show (p ++ (letL.drop q).take 1).length = i + 1; rw [List.length_append, hl.1, p1], by show i + 1 ≤ 30; omega, by show i + 1 ≤ d.length; omega, ?_⟩
   show (p ++ (letL.drop q).take 1).all ltM = true
   rw [List.all_append, p4, hl.2]; rfl
  ·have e2 : (letL.drop (Int.toNat (q : Int))).take (((q : Int) + 1).toNat - (Int.toNat (q : Int))) = (letL.drop q).take 1 := by rw [show ((q : Int) + 1).toNat - (Int.toNat (q : Int)) = 1 by omega]; rfl
   exact congrArg (fun z => AV.str ((97 :: p) ++ z)) e2
 all_goals
  refine ⟨_, rfl, ckI (by rw [Bool.and_true, decide_eq_true_eq]; show (97 :: p).length + 1 ≤ _; rw [List.length_cons]; omega) ⟨_, rfl, _, rfl, _, rfl, splitE (fun _ => ckI (by rw [Nat.ble_eq]; simp) ⟨_, rfl, ?_⟩) (fun _ => ?_)⟩⟩
 all_goals
  refine ⟨⟨([], 0), ⟨rfl, by omega⟩, rfl, rfl, rfl, rfl, rfl, rfl, rfl, trivial⟩, ?_⟩
  rintro ⟨t, j⟩ ⟨t1, t2⟩
  simp only at t1 t2
  refine ⟨_, rfl, splitD (fun h5 => ?_) (fun h5 => ?_)⟩
  focus
   have h5' : (j : Int) < 32 := h5
   exact ⟨_, rfl, _, rfl, _, rfl, _, rfl, _, rfl, _, rfl, ckI (by rw [Bool.and_true, decide_eq_true_eq]; show t.length + 1 ≤ _; omega) ⟨_, rfl, _, rfl, wrapI (by show _ ≤ (j : Int) + 1; omega) (by show (j : Int) + 1 ≤ _; omega) ⟨⟨trivial, rfl⟩, (t ++ [_], j + 1), ⟨by show (t ++ [_]).length = j + 1; rw [List.length_append, t1]; rfl, by show j + 1 ≤ 32; omega⟩, by show 32 - (j + 1) < 32 - j; omega, rfl, rfl, rfl, rfl, rfl, rfl, rfl, trivial⟩⟩⟩
  focus
   have h5' : ¬ (j : Int) < 32 := h5
   exact wrapI (by omega) (by omega) (wrapI (by omega) (by omega) (wrapI (by omega) (by omega) (wrapI (by omega) (by omega) (wrapI (by omega) (by omega) (hq _ _ _ _ _ _ ((right_iff _ _ _ _ _).2 ⟨by first | exact nz | exact name_a, by show t.length = 32; omega, by omega, by omega, by omega, by omega, by omega⟩))))))
def cDraft : Con
 | [.agg [.lst _ ds c 1, .int .u8 ky, .int .u16 fr, .int .u16 af, .int .u32 nu]], H, K => ∃ d : List UInt8, Lf ((ds = ofBytes d ∧ c = d.length) ∧ d.length ≤ 9223372036854775807 ∧ (0 ≤ fr ∧ fr ≤ 65535) ∧ (0 ≤ af ∧ af ≤ 65535) ∧ (0 ≤ nu ∧ nu ≤ 4294967295)) ∧ ∀ n k f u m, Lf (rightBM n k f u m = true) → K (.ret (.agg [.str n, .str k, .int .i64 f, .int .i64 u, .int .i64 m])) H
 | _, _, _ => False
theorem draft_ok : ValidF Tryz.prog gl0 12 cDraft := by
 refine valid_flat (enters_of (by kernel_rfl)) gl0_noY fun args H Q hc => ?_
 unfold cDraft at hc
 split at hc
 ·rename_i tg ds c ky fr af nu
  obtain ⟨d, ⟨⟨rfl, rfl⟩, h1, h2, h3, h4⟩, hq⟩ := hc
  obtain ⟨hv, hb', h⟩ := draft_run tg d ky fr af nu h1 h2 h3 h4 (Q := fun o H' _ => H' = [] ∧ (∃ v, o = .ret v ∧ old 0 v = true ∧ noY v = true) ∧ Q o H) (fun _ _ _ _ _ _ h => ⟨rfl, ⟨_, rfl, rfl, rfl⟩, hq _ _ _ _ _ ⟨h⟩⟩)
  exact ⟨by simp [oldL, old], by simp [noYL, noY], _, 1000, envFor18 sm0_ok _ _ _, rfl, h⟩
 ·exact hc.elim
end Go.Proofs.YtifjpcdpmimccaaGreatDoor

set_option linter.unusedSimpArgs false
set_option linter.unusedVariables false
set_option linter.unusedSectionVars false
namespace Go.Proofs.YtifjpcdpmimccaaGreatDoor
open Go.RowKit
set_option maxRecDepth 1000000

def smW : SM := lookS [(35, cRepeat), (22, cEncB), (14, cDecB), (23, cPrt), (28, cMatchV), (17, cCkp), (41, cLow), (30, cAccV), (21, cChk)]
theorem smW_ok : ∀ f g, smW f = some g → ValidF Tryz.prog gl0 f g := lookS_ok _ (by simp only [List.mem_cons, List.not_mem_nil, or_false, forall_eq_or_imp, forall_eq]; exact ⟨repeat_ok, encB_ok, decB_ok, prt_ok, matchV_ok, ckp_ok, low_ok, accV_ok, chk_ok⟩)
noncomputable def goal_10 (hv : Nat → Option Pa) (hb : Nat → Option Bool) (Q : Out → List Blk → Gh → Prop) : Prop :=
 callx (e18 smW (fun _ => none) hv hb) (wpx (e18 smW (fun _ => none) hv hb) 1000) 10 [] [] {} Q
abbrev q8ZI_10_0 (s_8 : List UInt8) (l_10 : List (List UInt8)) : Prop :=
Lf (([AV.str s_8] = cellsSM l_10 ∧ 1 = l_10.length) ∧ List.length [UInt8.ofNat 97, UInt8.ofNat 98] ≤ 9223372036854775807 ∧ ∀ s_11 : List UInt8, Membership.mem l_10 s_11 → s_11.length ≤ 9223372036854775807)
theorem vc_10 (Q : Out → List Blk → Gh → Prop) : goal_10 (lookV [(41017, .int .i64), (294918, .int .i64), (294926, .str), (41032, .str)]) (lookB []) Q = (Lf (List.length [UInt8.ofNat 97, UInt8.ofNat 98] ≤ 9223372036854775807) ∧ ∀ s_0 : List
 UInt8, ∀ e_1 : Int, Lf (encBM [UInt8.ofNat 97, UInt8.ofNat 98] (repM [UInt8.ofNat 7] 32) 1 2 3 = Prod.mk s_0 e_1) → Lf (s_0.length ≤ 1000000) ∧ ∀ n_2 k_3 : List UInt8, ∀ f_4 u_5 m_6 e_7 : Int, Lf (decBM s_0 = Prod.mk n_2 (Prod.mk k_3
 (Prod.mk f_4 (Prod.mk u_5 (Prod.mk m_6 e_7))))) → Lf (List.length [UInt8.ofNat 97, UInt8.ofNat 98] ≤ 9223372036854775807) ∧ ∀ s_8 : List UInt8, ∀ e_9 : Int, Lf (prtM [UInt8.ofNat 97, UInt8.ofNat 98] (repM [UInt8.ofNat 7] 32) 1 2 3 =
 Prod.mk s_8 e_9) → ∃ l_10 : List (List UInt8), q8ZI_10_0 s_8 l_10 ∧ ∀ i_11 e_12 : Int, Lf (matchM [UInt8.ofNat 97, UInt8.ofNat 98] (repM [UInt8.ofNat 7] 32) 1 2 3 l_10 = Prod.mk i_11 e_12) → bif e_1 == 0 then bif eqB s_0 [UInt8.ofNat 102,
 UInt8.ofNat 100, UInt8.ofNat 1, UInt8.ofNat 0, UInt8.ofNat 0, UInt8.ofNat 0, UInt8.ofNat 0, UInt8.ofNat 0, UInt8.ofNat 3, UInt8.ofNat 0, UInt8.ofNat 0, UInt8.ofNat 0, UInt8.ofNat 0, UInt8.ofNat 0, UInt8.ofNat 1, UInt8.ofNat 0, UInt8.ofNat
 0, UInt8.ofNat 0, UInt8.ofNat 0, UInt8.ofNat 0, UInt8.ofNat 2, UInt8.ofNat 2, UInt8.ofNat 97, UInt8.ofNat 98, UInt8.ofNat 7, UInt8.ofNat 7, UInt8.ofNat 7, UInt8.ofNat 7, UInt8.ofNat 7, UInt8.ofNat 7, UInt8.ofNat 7, UInt8.ofNat 7,
 UInt8.ofNat 7, UInt8.ofNat 7, UInt8.ofNat 7, UInt8.ofNat 7, UInt8.ofNat 7, UInt8.ofNat 7, UInt8.ofNat 7, UInt8.ofNat 7, UInt8.ofNat 7, UInt8.ofNat 7, UInt8.ofNat 7, UInt8.ofNat 7, UInt8.ofNat 7, UInt8.ofNat 7, UInt8.ofNat 7, UInt8.ofNat 7,
 UInt8.ofNat 7, UInt8.ofNat 7, UInt8.ofNat 7, UInt8.ofNat 7, UInt8.ofNat 7, UInt8.ofNat 7, UInt8.ofNat 7, UInt8.ofNat 7] then bif e_7 == 0 then bif eqB n_2 [UInt8.ofNat 97, UInt8.ofNat 98] && (eqB k_3 (repM [UInt8.ofNat 7] 32) && (f_4 == 1
 && (u_5 == 2 && (m_6 == 3 && true)))) then bif e_9 == 0 then exI .i64 (s_8.length : Int) (fun n_13 => bif n_13 == 103 then exI .i64 (s_8.length : Int) (fun n_14 => bif decide (n_14 ≥ 8) then ckQ (Nat.ble 8 s_8.length) (exS (.str ((s_8.drop
 0).take 8)) (fun s_15 => bif eqB s_15 [UInt8.ofNat 115, UInt8.ofNat 104, UInt8.ofNat 97, UInt8.ofNat 45, UInt8.ofNat 50, UInt8.ofNat 53, UInt8.ofNat 54, UInt8.ofNat 32] then Lf (s_8.length ≤ 9223372036854775807) ∧ ∀ e_16 : Int, Lf (e_16 =
 ckpM s_8) → bif e_16 == 0 then Lf (s_8.length ≤ 1000000 ∧ List.all s_8 (fun (c_17 : UInt8) => Nat.blt (UInt8.toNat c_17) 128) = true) ∧ ∀ x_17 : List UInt8, Lf (x_17 = lowM s_8) → ckQ (decide (x_17.length + 1 ≤ 9223372036854775807) &&
 true) (exS (.str (x_17 ++ [UInt8.ofNat 97])) (fun s_18 => Lf (s_18.length ≤ 9223372036854775807) ∧ ∀ e_19 : Int, Lf (e_19 = ckpM s_18) → bif e_19 == 5 then bif e_12 == 0 then bif i_11 == 0 then ∃ l_20 : List (List UInt8), q8ZI_10_0 s_8
 l_20 ∧ ∀ e_21 : Int, Lf (e_21 = accM [UInt8.ofNat 97, UInt8.ofNat 98] (repM [UInt8.ofNat 7] 32) 1 2 3 l_20 2) → bif e_21 == 0 then ∃ l_22 : List (List UInt8), q8ZI_10_0 s_8 l_22 ∧ ∀ e_23 : Int, Lf (e_23 = accM [UInt8.ofNat 97, UInt8.ofNat
 98] (repM [UInt8.ofNat 7] 32) 1 2 3 l_22 3) → bif e_23 == 10 then Lf (List.length [UInt8.ofNat 97, UInt8.ofNat 98] ≤ 9223372036854775807) ∧ ∀ e_24 : Int, Lf (e_24 = chkM [UInt8.ofNat 97, UInt8.ofNat 98] (repM [UInt8.ofNat 7] 32) 1 2 3) →
 bif e_24 == 0 then Lf (([] : List UInt8).length ≤ 9223372036854775807) ∧ ∀ e_25 : Int, Lf (e_25 = chkM [] [] 0 0 0) → bif e_25 == 180 then Q (.ret (.bool true)) [] {} else Q (.ret (.bool false)) [] {} else Q (.ret (.bool false)) [] {} else
 Q (.ret (.bool false)) [] {} else Q (.ret (.bool false)) [] {} else Q (.ret (.bool false)) [] {} else Q (.ret (.bool false)) [] {} else Q (.ret (.bool false)) [] {})) else Q (.ret (.bool false)) [] {} else Q (.ret (.bool false)) [] {}))
 else Q (.ret (.bool false)) [] {}) else Q (.ret (.bool false)) [] {}) else Q (.ret (.bool false)) [] {} else Q (.ret (.bool false)) [] {} else Q (.ret (.bool false)) [] {} else Q (.ret (.bool false)) [] {} else Q (.ret (.bool false)) []
 {}) := by kernel_rfl

end Go.Proofs.YtifjpcdpmimccaaGreatDoor

set_option linter.unusedSimpArgs false
set_option linter.unusedVariables false
set_option linter.unusedSectionVars false
namespace Go.Proofs.YtifjpcdpmimccaaGreatDoor
open Go.RowKit
set_option maxRecDepth 1000000

abbrev nS : List UInt8 := [UInt8.ofNat 97, UInt8.ofNat 98]
abbrev kS : List UInt8 := repM [UInt8.ofNat 7] 32
theorem rightS : rightBM nS kS 1 2 3 = true := by decide
theorem encS : encBM nS kS 1 2 3 = (octBM nS kS 1 2 3, 0) := by rw [encBM, if_pos rightS]
theorem decS : decBM (octBM nS kS 1 2 3) = (nS, kS, 1, 2, 3, 0) := by decide
theorem jt_eq : ∀ d : List UInt8, (Lib.joinTail [58] (hx d)).length = 3 * d.length
 | [] => rfl
 | c :: t => by
  have := jt_eq t
  have e : Lib.joinTail [58] (hx (c :: t)) = ([58] ++ hex2M c) ++ Lib.joinTail [58] (hx t) := rfl
  rw [e, List.length_append, this, List.length_cons, show ([58] ++ hex2M c : List UInt8).length = 3 from rfl]
  omega
theorem shown_len {d : List UInt8} (h : d.length = 32) : (shownM d).length = 103 := by
 match d, h with
 | c :: t, h =>
  have e : joinM (hx (c :: t)) [58] = hex2M c ++ Lib.joinTail [58] (hx t) := Lib.join_cons _ _ _
  show (preM ++ joinM (hx (c :: t)) [58]).length = 103
  rw [e, List.length_append, List.length_append, jt_eq, show preM.length = 8 from rfl, show (hex2M c).length = 2 from rfl]
  rw [List.length_cons] at h
  omega
theorem shown_hd (d : List UInt8) : (shownM d).take 8 = preM := rfl
theorem hex_ok (j x : Nat) (hj : j % 3 ≠ 2) (h : x < 16) : chOk j (hexL.getD x (UInt8.ofNat 0)) = true := by
 have : ∀ y : Fin 16, decide (0 ≤ idxM hexL ((hexL.getD y (UInt8.ofNat 0)).toNat : Int)) = true := by decide
 rw [chOk, if_neg hj]
 exact this ⟨x, h⟩
theorem hex_low (x : Nat) (h : x < 16) : Nat.blt (hexL.getD x (UInt8.ofNat 0)).toNat 128 = true := by
 have : ∀ y : Fin 16, Nat.blt (hexL.getD y (UInt8.ofNat 0)).toNat 128 = true := by decide
 exact this ⟨x, h⟩
theorem hi16 (c : UInt8) : c.toNat / 16 < 16 := by have := c.toNat_lt; omega
theorem lo16 (c : UInt8) : c.toNat % 16 < 16 := by omega
theorem jt_cons (c : UInt8) (t : List UInt8) : Lib.joinTail [58] (hx (c :: t)) = 58 :: hexL.getD (c.toNat / 16) (UInt8.ofNat 0) :: hexL.getD (c.toNat % 16) (UInt8.ofNat 0) :: Lib.joinTail [58] (hx t) := rfl
theorem join_hx (c : UInt8) (t : List UInt8) : joinM (hx (c :: t)) [58] = hexL.getD (c.toNat / 16) (UInt8.ofNat 0) :: hexL.getD (c.toNat % 16) (UInt8.ofNat 0) :: Lib.joinTail [58] (hx t) := Lib.join_cons _ _ _
theorem jt_ok : ∀ (t : List UInt8) (j0 : Nat), j0 % 3 = 2 → ∀ j, j < 3 * t.length → chOk (j0 + j) ((Lib.joinTail [58] (hx t)).getD j 0) = true
 | [], _, _, j, h => by simp at h
 | c :: t, j0, h0, j, h => by
  rw [jt_cons]
  rw [List.length_cons] at h
  match j, h with
  | 0, _ => rw [chOk, if_pos (by omega)]; rfl
  | 1, _ => exact hex_ok _ _ (by omega) (hi16 c)
  | 2, _ => exact hex_ok _ _ (by omega) (lo16 c)
  | j + 3, h =>
   have := jt_ok t (j0 + 3) (by omega) j (by omega)
   rw [show j0 + (j + 3) = j0 + 3 + j by omega]
   exact this
theorem shown_fing {d : List UInt8} (h : d.length = 32) : fingM (shownM d) = true := by
 have hl := shown_len h
 refine (fing_iff _).2 ⟨by omega, by rw [shown_hd]; exact eqB_refl _, by rw [List.length_drop, hl], fun j hj => ?_⟩
 have e : (shownM d).drop 8 = joinM (hx d) [58] := rfl
 rw [e]
 match d, h with
 | c :: t, h =>
  rw [join_hx]
  rw [List.length_cons] at h
  match j, hj with
  | 0, _ => exact hex_ok _ _ (by omega) (hi16 c)
  | 1, _ => exact hex_ok _ _ (by omega) (lo16 c)
  | j + 2, hj =>
   have := jt_ok t 2 (by omega) j (by omega)
   rw [show j + 2 = 2 + j by omega]
   rw [Nat.add_comm 2 j]
   rw [Nat.add_comm 2 j] at this
   exact this
theorem jt_low : ∀ t : List UInt8, (Lib.joinTail [58] (hx t)).all (fun c => Nat.blt c.toNat 128) = true
 | [] => rfl
 | c :: t => by
  rw [jt_cons, List.all_cons, List.all_cons, List.all_cons, jt_low t, hex_low _ (hi16 c), hex_low _ (lo16 c)]
  rfl
theorem shown_low (d : List UInt8) : (shownM d).all (fun c => Nat.blt c.toNat 128) = true := by
 rw [shownM, List.all_append, Bool.and_eq_true]
 refine ⟨by decide, ?_⟩
 match d with
 | [] => rfl
 | c :: t =>
  show (joinM (hx (c :: t)) [58]).all _ = true
  rw [join_hx, List.all_cons, List.all_cons, jt_low t, hex_low _ (hi16 c), hex_low _ (lo16 c)]
  rfl
theorem bT {b : Bool} {A B : Prop} (h : b = true) (ha : A) : bif b then A else B := by
 rw [h]; exact ha
theorem low_len (s : List UInt8) : (lowM s).length = s.length := by
 simp [lowM, Lib.toLowerA]
theorem wakes_run (Q : Out → List Blk → Gh → Prop) (hq : Q (.ret (.bool true)) [] {}) : ∃ hv hb, goal_10 hv hb Q := by
 obtain ⟨hv', hb', e'⟩ : ∃ hv hb, goal_10 hv hb Q = _ := ⟨_, _, vc_10 Q⟩
 refine ⟨hv', hb', e'.mpr ?_⟩
 clear e'
 have hS : prtM nS kS 1 2 3 = (shB nS kS 1 2 3, 0) := by rw [prtM, if_pos rightS]; rfl
 generalize hsh : shB nS kS 1 2 3 = sh at hS
 have sl : sh.length = 103 := hsh ▸ shown_len (sumS_len _)
 have sf : fingM sh = true := hsh ▸ shown_fing (sumS_len _)
 have sw : sh.all (fun c => Nat.blt c.toNat 128) = true := hsh ▸ shown_low _
 have s8 : sh.take 8 = preM := hsh ▸ shown_hd _
 have hM : matchM nS kS 1 2 3 [sh] = (0, 0) := by
  rw [matchM, if_pos rightS, if_neg (by simp), if_pos (by simp [sf]), hsh]
  simp [List.findIdx?_cons, eqB_refl]
 have hl : ∀ s ∈ [sh], s.length ≤ 9223372036854775807 := fun s h => by
  rw [List.mem_singleton] at h
  subst h; omega
 refine ⟨⟨by decide⟩, ?_⟩
 rintro s0 e1 ⟨h0⟩
 rw [encS] at h0
 obtain ⟨rfl, rfl⟩ := Prod.mk.inj h0
 refine ⟨⟨by decide⟩, ?_⟩
 rintro n2 k3 f4 u5 m6 e7 ⟨h1⟩
 rw [decS] at h1
 simp only [Prod.mk.injEq] at h1
 obtain ⟨rfl, rfl, rfl, rfl, rfl, rfl⟩ := h1
 refine ⟨⟨by decide⟩, ?_⟩
 rintro s8' e9 ⟨h2⟩
 rw [hS] at h2
 obtain ⟨rfl, rfl⟩ := Prod.mk.inj h2
 refine ⟨[sh], ⟨⟨rfl, rfl⟩, by decide, hl⟩, ?_⟩
 rintro i11 e12 ⟨h3⟩
 rw [hM] at h3
 obtain ⟨rfl, rfl⟩ := Prod.mk.inj h3
 refine bT rfl (bT (by decide) (bT rfl (bT (by decide) (bT rfl ⟨_, rfl, bT (by rw [sl]; rfl) ⟨_, rfl, bT (by rw [sl]; rfl) (ckI (by rw [sl]; rfl) ⟨_, rfl, bT (by show eqB (sh.take 8) preM = true; rw [s8]; exact eqB_refl _) ⟨⟨by omega⟩, ?_⟩⟩)⟩⟩))))
 rintro e16 ⟨rfl⟩
 refine bT (by rw [ckpM, if_pos sf]; rfl) ⟨⟨by omega, sw⟩, ?_⟩
 rintro x17 ⟨rfl⟩
 have ll : (lowM sh).length = 103 := by rw [low_len, sl]
 refine ckI (by rw [ll]; rfl) ⟨_, rfl, ⟨by rw [List.length_append, ll]; decide⟩, ?_⟩
 rintro e19 ⟨rfl⟩
 have nf : ¬ fingM (lowM sh ++ [UInt8.ofNat 97]) = true := fun h => by
  have := ((fing_iff _).1 h).2.2.1
  rw [List.length_drop, List.length_append, ll] at this
  simp at this
 refine bT (by rw [ckpM, if_neg nf]; rfl) (bT rfl (bT rfl ⟨[sh], ⟨⟨rfl, rfl⟩, by decide, hl⟩, ?_⟩))
 rintro e21 ⟨rfl⟩
 refine bT (by rw [accM, hM]; rfl) ⟨[sh], ⟨⟨rfl, rfl⟩, by decide, hl⟩, ?_⟩
 rintro e23 ⟨rfl⟩
 refine bT (by rw [accM, hM]; rfl) ⟨⟨by decide⟩, ?_⟩
 rintro e24 ⟨rfl⟩
 refine bT (by rw [chkM, if_pos rightS]; rfl) ⟨⟨by decide⟩, ?_⟩
 rintro e25 ⟨rfl⟩
 exact bT (by decide) hq
def cWakes : Con
 | [], H, K => K (.ret (.bool true)) H
 | _, _, _ => False
theorem wakes_ok : ValidF Tryz.prog gl0 10 cWakes := by
 refine valid_flat (enters_of (by kernel_rfl)) gl0_noY fun args H Q hc => ?_
 unfold cWakes at hc
 split at hc
 ·obtain ⟨hv, hb', h⟩ := wakes_run (Q := fun o H' _ => H' = [] ∧ (∃ v, o = .ret v ∧ old 0 v = true ∧ noY v = true) ∧ Q o H) ⟨rfl, ⟨_, rfl, rfl, rfl⟩, hc⟩
  exact ⟨rfl, rfl, _, 1000, envFor18 smW_ok _ _ _, rfl, h⟩
 ·exact hc.elim
end Go.Proofs.YtifjpcdpmimccaaGreatDoor

/-
  Chapter 17: numbers as octets; heads of records.
-/
import Derived.Test.YtiholnebhmjbjaaM17CN
set_option linter.unusedSimpArgs false
set_option linter.unusedVariables false
set_option linter.unusedSectionVars false
namespace Go.Proofs.Ytiholnebhmjbjaa
open Go.RowKit
set_option maxRecDepth 1000000

/-- a number as octets, the greatest first -/
def beBM : Nat → Nat → List UInt8
  | 0, _ => []
  | n + 1, v => UInt8.ofNat (v / 256 ^ n % 256) :: beBM n v
noncomputable def goal_60 (hv : Nat → Option Pa) (hb : Nat → Option Bool) (n v : Int) (Q : Out → List Blk → Gh → Prop) : Prop :=
  callx (e04 sm0 (fun _ => none) hv hb) (wpx (e04 sm0 (fun _ => none) hv hb) 1000) 60 [.int .i64 n, .int .i64 v] [] {} Q
noncomputable def goal_60a (hv : Nat → Option Pa) (hb : Nat → Option Bool) (v : Int) (Q : Out → List Blk → Gh → Prop) : Prop := goal_60 hv hb 1 v Q
noncomputable def goal_60b (hv : Nat → Option Pa) (hb : Nat → Option Bool) (v : Int) (Q : Out → List Blk → Gh → Prop) : Prop := goal_60 hv hb 2 v Q
noncomputable def goal_60c (hv : Nat → Option Pa) (hb : Nat → Option Bool) (v : Int) (Q : Out → List Blk → Gh → Prop) : Prop := goal_60 hv hb 6 v Q
theorem vc_60a (v : Int) (Q : Out → List Blk → Gh → Prop) : goal_60a (lookV [(307223, .int .i64), (307240, .int .i64), (307241, .int .u8), (307245, .str)]) (lookB []) v Q = (
(bif (decide (v < (0 : Int))) then (Q (Out.ret (AV.str [])) [] (Gh.mk (0 : Nat) (0 : Nat) []))
else (∃ n_0 : Int, (((AV.int .i64 (Int.fdiv v (256 : Int))) = (AV.int .i64 n_0)) ∧
 (bif (n_0 != (0 : Int)) then (Q (Out.ret (AV.str [])) [] (Gh.mk (0 : Nat) (0 : Nat) []))
else (∃ n_1 : Int, (((AV.int .i64 (Int.fdiv v (1 : Int))) = (AV.int .i64 n_1)) ∧
 (∃ n_2 : Int, (((AV.int .u8 (IntKind.wrap .u8 n_1)) = (AV.int .u8 n_2)) ∧
 (∃ s_3 : (List UInt8), (((AV.str ((toB (AV.int .u8 n_2)) :: [])) = (AV.str s_3)) ∧
 (Q (Out.ret (AV.str s_3)) [] (Gh.mk (0 : Nat) (0 : Nat) []))))))))))))) := by kernel_rfl

theorem vc_60b (v : Int) (Q : Out → List Blk → Gh → Prop) : goal_60b (lookV [(307223, .int .i64), (307240, .int .i64), (307241, .int .u8), (307245, .str)]) (lookB []) v Q = (
(bif (decide (v < (0 : Int))) then (Q (Out.ret (AV.str [])) [] (Gh.mk (0 : Nat) (0 : Nat) []))
else (∃ n_0 : Int, (((AV.int .i64 (Int.fdiv v (65536 : Int))) = (AV.int .i64 n_0)) ∧
 (bif (n_0 != (0 : Int)) then (Q (Out.ret (AV.str [])) [] (Gh.mk (0 : Nat) (0 : Nat) []))
else (∃ n_1 : Int, (((AV.int .i64 (Int.fdiv v (256 : Int))) = (AV.int .i64 n_1)) ∧
 (∃ n_2 : Int, (((AV.int .u8 (IntKind.wrap .u8 n_1)) = (AV.int .u8 n_2)) ∧
 (∃ n_3 : Int, (((AV.int .i64 (Int.fdiv v (1 : Int))) = (AV.int .i64 n_3)) ∧
 (∃ n_4 : Int, (((AV.int .u8 (IntKind.wrap .u8 n_3)) = (AV.int .u8 n_4)) ∧
 (∃ s_5 : (List UInt8), (((AV.str ((toB (AV.int .u8 n_2)) :: ((toB (AV.int .u8 n_4)) :: []))) = (AV.str s_5)) ∧
 (Q (Out.ret (AV.str s_5)) [] (Gh.mk (0 : Nat) (0 : Nat) []))))))))))))))))) := by kernel_rfl

theorem vc_60c (v : Int) (Q : Out → List Blk → Gh → Prop) : goal_60c (lookV [(307223, .int .i64), (307240, .int .i64), (307241, .int .u8), (307245, .str)]) (lookB []) v Q = (
(bif (decide (v < (0 : Int))) then (Q (Out.ret (AV.str [])) [] (Gh.mk (0 : Nat) (0 : Nat) []))
else (∃ n_0 : Int, (((AV.int .i64 (Int.fdiv v (281474976710656 : Int))) = (AV.int .i64 n_0)) ∧
 (bif (n_0 != (0 : Int)) then (Q (Out.ret (AV.str [])) [] (Gh.mk (0 : Nat) (0 : Nat) []))
else (∃ n_1 : Int, (((AV.int .i64 (Int.fdiv v (1099511627776 : Int))) = (AV.int .i64 n_1)) ∧
 (∃ n_2 : Int, (((AV.int .u8 (IntKind.wrap .u8 n_1)) = (AV.int .u8 n_2)) ∧
 (∃ n_3 : Int, (((AV.int .i64 (Int.fdiv v (4294967296 : Int))) = (AV.int .i64 n_3)) ∧
 (∃ n_4 : Int, (((AV.int .u8 (IntKind.wrap .u8 n_3)) = (AV.int .u8 n_4)) ∧
 (∃ n_5 : Int, (((AV.int .i64 (Int.fdiv v (16777216 : Int))) = (AV.int .i64 n_5)) ∧
 (∃ n_6 : Int, (((AV.int .u8 (IntKind.wrap .u8 n_5)) = (AV.int .u8 n_6)) ∧
 (∃ n_7 : Int, (((AV.int .i64 (Int.fdiv v (65536 : Int))) = (AV.int .i64 n_7)) ∧
 (∃ n_8 : Int, (((AV.int .u8 (IntKind.wrap .u8 n_7)) = (AV.int .u8 n_8)) ∧
 (∃ n_9 : Int, (((AV.int .i64 (Int.fdiv v (256 : Int))) = (AV.int .i64 n_9)) ∧
 (∃ n_10 : Int, (((AV.int .u8 (IntKind.wrap .u8 n_9)) = (AV.int .u8 n_10)) ∧
 (∃ n_11 : Int, (((AV.int .i64 (Int.fdiv v (1 : Int))) = (AV.int .i64 n_11)) ∧
 (∃ n_12 : Int, (((AV.int .u8 (IntKind.wrap .u8 n_11)) = (AV.int .u8 n_12)) ∧
 (∃ s_13 : (List UInt8), (((AV.str ((toB (AV.int .u8 n_2)) :: ((toB (AV.int .u8 n_4)) :: ((toB (AV.int .u8 n_6)) :: ((toB (AV.int .u8 n_8)) :: ((toB (AV.int .u8 n_10)) :: ((toB (AV.int .u8 n_12)) :: []))))))) = (AV.str s_13)) ∧
 (Q (Out.ret (AV.str s_13)) [] (Gh.mk (0 : Nat) (0 : Nat) []))))))))))))))))))))))))))))))))) := by kernel_rfl

noncomputable def goal_61 (hv : Nat → Option Pa) (hb : Nat → Option Bool) (n v : Int) (Q : Out → List Blk → Gh → Prop) : Prop :=
  callx (e04 sm0 (fun _ => none) hv hb) (wpx (e04 sm0 (fun _ => none) hv hb) 1000) 61 [.int .i64 n, .int .i64 v] [] {} Q
noncomputable def goal_61a (hv : Nat → Option Pa) (hb : Nat → Option Bool) (v : Int) (Q : Out → List Blk → Gh → Prop) : Prop := goal_61 hv hb 1 v Q
noncomputable def goal_61b (hv : Nat → Option Pa) (hb : Nat → Option Bool) (v : Int) (Q : Out → List Blk → Gh → Prop) : Prop := goal_61 hv hb 2 v Q
noncomputable def goal_61c (hv : Nat → Option Pa) (hb : Nat → Option Bool) (v : Int) (Q : Out → List Blk → Gh → Prop) : Prop := goal_61 hv hb 6 v Q
theorem vc_61a (v : Int) (Q : Out → List Blk → Gh → Prop) : goal_61a (lookV [(249869, .int .i64), (249870, .int .u8), (249872, .str), (249874, .str), (249876, .int .i64)]) (lookB []) v Q = (
(∃ n_0 : Int, (((AV.int .i64 (Int.tmod v (256 : Int))) = (AV.int .i64 n_0)) ∧
 (∃ n_1 : Int, (((AV.int .u8 (IntKind.wrap .u8 n_0)) = (AV.int .u8 n_1)) ∧
 (∃ s_2 : (List UInt8), (((AV.str ((toB (AV.int .u8 n_1)) :: [])) = (AV.str s_2)) ∧
 (bif ((decide (((List.length s_2) + (0 : Nat)) ≤ (9223372036854775807 : Nat))) && true) then (∃ s_3 : (List UInt8), (((AV.str (s_2 ++ [])) = (AV.str s_3)) ∧
 (∃ n_4 : Int, (((AV.int .i64 (IntKind.wrap .i64 (Int.tdiv v (256 : Int)))) = (AV.int .i64 n_4)) ∧
 (Q (Out.ret (AV.str s_3)) [] (Gh.mk (0 : Nat) (0 : Nat) []))))))
else False)))))))) := by kernel_rfl

theorem vc_61b (v : Int) (Q : Out → List Blk → Gh → Prop) : goal_61b (lookV [(249869, .int .i64), (249870, .int .u8), (249872, .str), (249874, .str), (249876, .int .i64)]) (lookB []) v Q = (
(∃ n_0 : Int, (((AV.int .i64 (Int.tmod v (256 : Int))) = (AV.int .i64 n_0)) ∧
 (∃ n_1 : Int, (((AV.int .u8 (IntKind.wrap .u8 n_0)) = (AV.int .u8 n_1)) ∧
 (∃ s_2 : (List UInt8), (((AV.str ((toB (AV.int .u8 n_1)) :: [])) = (AV.str s_2)) ∧
 (bif ((decide (((List.length s_2) + (0 : Nat)) ≤ (9223372036854775807 : Nat))) && true) then (∃ s_3 : (List UInt8), (((AV.str (s_2 ++ [])) = (AV.str s_3)) ∧
 (∃ n_4 : Int, (((AV.int .i64 (IntKind.wrap .i64 (Int.tdiv v (256 : Int)))) = (AV.int .i64 n_4)) ∧
 (∃ n_5 : Int, (((AV.int .i64 (Int.tmod n_4 (256 : Int))) = (AV.int .i64 n_5)) ∧
 (∃ n_6 : Int, (((AV.int .u8 (IntKind.wrap .u8 n_5)) = (AV.int .u8 n_6)) ∧
 (∃ s_7 : (List UInt8), (((AV.str ((toB (AV.int .u8 n_6)) :: [])) = (AV.str s_7)) ∧
 (bif ((decide (((List.length s_7) + (List.length s_3)) ≤ (9223372036854775807 : Nat))) && true) then (∃ s_8 : (List UInt8), (((AV.str (s_7 ++ s_3)) = (AV.str s_8)) ∧
 (∃ n_9 : Int, (((AV.int .i64 (IntKind.wrap .i64 (Int.tdiv n_4 (256 : Int)))) = (AV.int .i64 n_9)) ∧
 (Q (Out.ret (AV.str s_8)) [] (Gh.mk (0 : Nat) (0 : Nat) []))))))
else False)))))))))))
else False)))))))) := by kernel_rfl

theorem vc_61c (v : Int) (Q : Out → List Blk → Gh → Prop) : goal_61c (lookV [(249869, .int .i64), (249870, .int .u8), (249872, .str), (249874, .str), (249876, .int .i64)]) (lookB []) v Q = (
(∃ n_0 : Int, (((AV.int .i64 (Int.tmod v (256 : Int))) = (AV.int .i64 n_0)) ∧
 (∃ n_1 : Int, (((AV.int .u8 (IntKind.wrap .u8 n_0)) = (AV.int .u8 n_1)) ∧
 (∃ s_2 : (List UInt8), (((AV.str ((toB (AV.int .u8 n_1)) :: [])) = (AV.str s_2)) ∧
 (bif ((decide (((List.length s_2) + (0 : Nat)) ≤ (9223372036854775807 : Nat))) && true) then (∃ s_3 : (List UInt8), (((AV.str (s_2 ++ [])) = (AV.str s_3)) ∧
 (∃ n_4 : Int, (((AV.int .i64 (IntKind.wrap .i64 (Int.tdiv v (256 : Int)))) = (AV.int .i64 n_4)) ∧
 (∃ n_5 : Int, (((AV.int .i64 (Int.tmod n_4 (256 : Int))) = (AV.int .i64 n_5)) ∧
 (∃ n_6 : Int, (((AV.int .u8 (IntKind.wrap .u8 n_5)) = (AV.int .u8 n_6)) ∧
 (∃ s_7 : (List UInt8), (((AV.str ((toB (AV.int .u8 n_6)) :: [])) = (AV.str s_7)) ∧
 (bif ((decide (((List.length s_7) + (List.length s_3)) ≤ (9223372036854775807 : Nat))) && true) then (∃ s_8 : (List UInt8), (((AV.str (s_7 ++ s_3)) = (AV.str s_8)) ∧
 (∃ n_9 : Int, (((AV.int .i64 (IntKind.wrap .i64 (Int.tdiv n_4 (256 : Int)))) = (AV.int .i64 n_9)) ∧
 (∃ n_10 : Int, (((AV.int .i64 (Int.tmod n_9 (256 : Int))) = (AV.int .i64 n_10)) ∧
 (∃ n_11 : Int, (((AV.int .u8 (IntKind.wrap .u8 n_10)) = (AV.int .u8 n_11)) ∧
 (∃ s_12 : (List UInt8), (((AV.str ((toB (AV.int .u8 n_11)) :: [])) = (AV.str s_12)) ∧
 (bif ((decide (((List.length s_12) + (List.length s_8)) ≤ (9223372036854775807 : Nat))) && true) then (∃ s_13 : (List UInt8), (((AV.str (s_12 ++ s_8)) = (AV.str s_13)) ∧
 (∃ n_14 : Int, (((AV.int .i64 (IntKind.wrap .i64 (Int.tdiv n_9 (256 : Int)))) = (AV.int .i64 n_14)) ∧
 (∃ n_15 : Int, (((AV.int .i64 (Int.tmod n_14 (256 : Int))) = (AV.int .i64 n_15)) ∧
 (∃ n_16 : Int, (((AV.int .u8 (IntKind.wrap .u8 n_15)) = (AV.int .u8 n_16)) ∧
 (∃ s_17 : (List UInt8), (((AV.str ((toB (AV.int .u8 n_16)) :: [])) = (AV.str s_17)) ∧
 (bif ((decide (((List.length s_17) + (List.length s_13)) ≤ (9223372036854775807 : Nat))) && true) then (∃ s_18 : (List UInt8), (((AV.str (s_17 ++ s_13)) = (AV.str s_18)) ∧
 (∃ n_19 : Int, (((AV.int .i64 (IntKind.wrap .i64 (Int.tdiv n_14 (256 : Int)))) = (AV.int .i64 n_19)) ∧
 (∃ n_20 : Int, (((AV.int .i64 (Int.tmod n_19 (256 : Int))) = (AV.int .i64 n_20)) ∧
 (∃ n_21 : Int, (((AV.int .u8 (IntKind.wrap .u8 n_20)) = (AV.int .u8 n_21)) ∧
 (∃ s_22 : (List UInt8), (((AV.str ((toB (AV.int .u8 n_21)) :: [])) = (AV.str s_22)) ∧
 (bif ((decide (((List.length s_22) + (List.length s_18)) ≤ (9223372036854775807 : Nat))) && true) then (∃ s_23 : (List UInt8), (((AV.str (s_22 ++ s_18)) = (AV.str s_23)) ∧
 (∃ n_24 : Int, (((AV.int .i64 (IntKind.wrap .i64 (Int.tdiv n_19 (256 : Int)))) = (AV.int .i64 n_24)) ∧
 (∃ n_25 : Int, (((AV.int .i64 (Int.tmod n_24 (256 : Int))) = (AV.int .i64 n_25)) ∧
 (∃ n_26 : Int, (((AV.int .u8 (IntKind.wrap .u8 n_25)) = (AV.int .u8 n_26)) ∧
 (∃ s_27 : (List UInt8), (((AV.str ((toB (AV.int .u8 n_26)) :: [])) = (AV.str s_27)) ∧
 (bif ((decide (((List.length s_27) + (List.length s_23)) ≤ (9223372036854775807 : Nat))) && true) then (∃ s_28 : (List UInt8), (((AV.str (s_27 ++ s_23)) = (AV.str s_28)) ∧
 (∃ n_29 : Int, (((AV.int .i64 (IntKind.wrap .i64 (Int.tdiv n_24 (256 : Int)))) = (AV.int .i64 n_29)) ∧
 (Q (Out.ret (AV.str s_28)) [] (Gh.mk (0 : Nat) (0 : Nat) []))))))
else False)))))))))))
else False)))))))))))
else False)))))))))))
else False)))))))))))
else False)))))))))))
else False)))))))) := by kernel_rfl


theorem byteN (x : Nat) : toB (AV.int .u8 (IntKind.wrap .u8 (x : Int))) = UInt8.ofNat (x % 256) := by
  show UInt8.ofNat (((x : Int) % 256).toNat) = _
  congr 1
theorem stepP {x : Nat} {t : List UInt8} {K : List UInt8 → Int → Prop} (hx : x ≤ 9223372036854775807) (ht : t.length ≤ 100) (hk : K (UInt8.ofNat (x % 256) :: t) ((x / 256 : Nat) : Int)) :
    ∃ n0 : Int, AV.int .i64 (Int.tmod (x : Int) 256) = AV.int .i64 n0 ∧ ∃ n1 : Int, AV.int .u8 (IntKind.wrap .u8 n0) = AV.int .u8 n1 ∧ ∃ s2 : List UInt8, AV.str (toB (AV.int .u8 n1) :: []) = AV.str s2 ∧
      (bif decide (s2.length + t.length ≤ 9223372036854775807) && true then ∃ s3 : List UInt8, AV.str (s2 ++ t) = AV.str s3 ∧ ∃ n4 : Int, AV.int .i64 (IntKind.wrap .i64 (Int.tdiv (x : Int) 256)) = AV.int .i64 n4 ∧ K s3 n4 else False) := by
  refine ⟨_, rfl, _, rfl, _, rfl, ckI (by simp; omega) ⟨_, rfl, ?_⟩⟩
  rw [show Int.tdiv (x : Int) 256 = ((x / 256 : Nat) : Int) from rfl, show Int.tmod (x : Int) 256 = ((x % 256 : Nat) : Int) from rfl, byteN, Nat.mod_mod]
  exact wrapI (by omega) (by omega) hk
theorem put_a (k : Nat) (h : k ≤ 255) (Q : Out → List Blk → Gh → Prop) (hq : Q (.ret (.str (beBM 1 k))) [] {}) : ∃ hv hb, goal_60 hv hb 1 k Q := by
  obtain ⟨hv, hb', e⟩ : ∃ hv hb, goal_60a hv hb k Q = _ := ⟨_, _, vc_60a k Q⟩
  refine ⟨hv, hb', (show goal_60a hv hb' k Q from e.mpr ?_)⟩
  clear e
  rw [fdivN k 256 256 rfl, fdivN k 1 1 rfl]
  refine splitD (fun h => absurd h (by omega)) (fun _ => ⟨_, rfl, splitNE (fun h => absurd h (by omega)) (fun _ => ⟨_, rfl, _, rfl, _, rfl, ?_⟩)⟩)
  rw [byteN]
  exact hq
theorem put_b (k : Nat) (h : k ≤ 65535) (Q : Out → List Blk → Gh → Prop) (hq : Q (.ret (.str (beBM 2 k))) [] {}) : ∃ hv hb, goal_60 hv hb 2 k Q := by
  obtain ⟨hv, hb', e⟩ : ∃ hv hb, goal_60b hv hb k Q = _ := ⟨_, _, vc_60b k Q⟩
  refine ⟨hv, hb', (show goal_60b hv hb' k Q from e.mpr ?_)⟩
  clear e
  rw [fdivN k 65536 65536 rfl, fdivN k 256 256 rfl, fdivN k 1 1 rfl]
  refine splitD (fun h => absurd h (by omega)) (fun _ => ⟨_, rfl, splitNE (fun h => absurd h (by omega)) (fun _ => ⟨_, rfl, _, rfl, _, rfl, _, rfl, _, rfl, ?_⟩)⟩)
  rw [byteN, byteN]
  exact hq
theorem put_c (k : Nat) (h : k ≤ 281474976710655) (Q : Out → List Blk → Gh → Prop) (hq : Q (.ret (.str (beBM 6 k))) [] {}) : ∃ hv hb, goal_60 hv hb 6 k Q := by
  obtain ⟨hv, hb', e⟩ : ∃ hv hb, goal_60c hv hb k Q = _ := ⟨_, _, vc_60c k Q⟩
  refine ⟨hv, hb', (show goal_60c hv hb' k Q from e.mpr ?_)⟩
  clear e
  rw [fdivN k 281474976710656 281474976710656 rfl, fdivN k 1099511627776 1099511627776 rfl, fdivN k 4294967296 4294967296 rfl, fdivN k 16777216 16777216 rfl, fdivN k 65536 65536 rfl, fdivN k 256 256 rfl, fdivN k 1 1 rfl]
  refine splitD (fun h => absurd h (by omega)) (fun _ => ⟨_, rfl, splitNE (fun h => absurd h (by omega)) (fun _ => ⟨_, rfl, _, rfl, _, rfl, _, rfl, _, rfl, _, rfl, _, rfl, _, rfl, _, rfl, _, rfl, _, rfl, _, rfl, _, rfl, ?_⟩)⟩)
  rw [byteN, byteN, byteN, byteN, byteN, byteN]
  exact hq
theorem rput_a (k : Nat) (h : k ≤ 255) (Q : Out → List Blk → Gh → Prop) (hq : Q (.ret (.str (beBM 1 k))) [] {}) : ∃ hv hb, goal_61 hv hb 1 k Q := by
  obtain ⟨hv, hb', e⟩ : ∃ hv hb, goal_61a hv hb k Q = _ := ⟨_, _, vc_61a k Q⟩
  refine ⟨hv, hb', (show goal_61a hv hb' k Q from e.mpr ?_)⟩
  clear e
  refine stepP (t := []) (by omega) (by simp) ?_
  rw [show beBM 1 k = [UInt8.ofNat (k % 256)] by simp [beBM]] at hq
  exact hq
theorem rput_b (k : Nat) (h : k ≤ 65535) (Q : Out → List Blk → Gh → Prop) (hq : Q (.ret (.str (beBM 2 k))) [] {}) : ∃ hv hb, goal_61 hv hb 2 k Q := by
  obtain ⟨hv, hb', e⟩ : ∃ hv hb, goal_61b hv hb k Q = _ := ⟨_, _, vc_61b k Q⟩
  refine ⟨hv, hb', (show goal_61b hv hb' k Q from e.mpr ?_)⟩
  clear e
  refine stepP (t := []) (by omega) (by simp) (stepP (by omega) (by simp) ?_)
  rw [show beBM 2 k = [UInt8.ofNat (k / 256 % 256), UInt8.ofNat (k % 256)] by simp [beBM]] at hq
  exact hq
theorem rput_c (k : Nat) (h : k ≤ 281474976710655) (Q : Out → List Blk → Gh → Prop) (hq : Q (.ret (.str (beBM 6 k))) [] {}) : ∃ hv hb, goal_61 hv hb 6 k Q := by
  obtain ⟨hv, hb', e⟩ : ∃ hv hb, goal_61c hv hb k Q = _ := ⟨_, _, vc_61c k Q⟩
  refine ⟨hv, hb', (show goal_61c hv hb' k Q from e.mpr ?_)⟩
  clear e
  refine stepP (t := []) (by omega) (by simp) (stepP (by omega) (by simp) (stepP (by omega) (by simp) (stepP (by omega) (by simp) (stepP (by omega) (by simp) (stepP (by omega) (by simp) ?_)))))
  rw [show beBM 6 k = [UInt8.ofNat (k / 256 / 256 / 256 / 256 / 256 % 256), UInt8.ofNat (k / 256 / 256 / 256 / 256 % 256), UInt8.ofNat (k / 256 / 256 / 256 % 256), UInt8.ofNat (k / 256 / 256 % 256), UInt8.ofNat (k / 256 % 256), UInt8.ofNat (k % 256)] by simp [beBM, Nat.div_div_eq_div_mul]] at hq
  exact hq
def cPut : Con
  | [.int .i64 n, .int .i64 v], H, K => Lf (0 ≤ v ∧ ((n = 1 ∧ v ≤ 255) ∨ (n = 2 ∧ v ≤ 65535) ∨ (n = 6 ∧ v ≤ 281474976710655))) ∧ ∀ s, Lf (s = beBM n.toNat v.toNat) → K (.ret (.str s)) H
  | _, _, _ => False
theorem put_ok : ValidF Try.prog gl0 60 cPut := by
  refine valid_flat (enters_of (by kernel_rfl)) gl0_noY fun args H Q hc => ?_
  unfold cPut at hc
  split at hc
  · rename_i n v
    obtain ⟨⟨h0, h1⟩, hq⟩ := hc
    obtain ⟨k, rfl⟩ : ∃ k : Nat, v = (k : Int) := ⟨v.toNat, by omega⟩
    rcases h1 with ⟨rfl, h1⟩ | ⟨rfl, h1⟩ | ⟨rfl, h1⟩
    · obtain ⟨hv, hb', h⟩ := put_a k (by omega) (Q := fun o H' _ => H' = [] ∧ (∃ v, o = .ret v ∧ old 0 v = true ∧ noY v = true) ∧ Q o H) ⟨rfl, ⟨_, rfl, rfl, rfl⟩, hq (beBM 1 k) ⟨by rw [Int.toNat_natCast]; rfl⟩⟩
      exact ⟨rfl, rfl, _, 1000, envFor04 sm0_ok _ _ _, rfl, h⟩
    · obtain ⟨hv, hb', h⟩ := put_b k (by omega) (Q := fun o H' _ => H' = [] ∧ (∃ v, o = .ret v ∧ old 0 v = true ∧ noY v = true) ∧ Q o H) ⟨rfl, ⟨_, rfl, rfl, rfl⟩, hq (beBM 2 k) ⟨by rw [Int.toNat_natCast]; rfl⟩⟩
      exact ⟨rfl, rfl, _, 1000, envFor04 sm0_ok _ _ _, rfl, h⟩
    · obtain ⟨hv, hb', h⟩ := put_c k (by omega) (Q := fun o H' _ => H' = [] ∧ (∃ v, o = .ret v ∧ old 0 v = true ∧ noY v = true) ∧ Q o H) ⟨rfl, ⟨_, rfl, rfl, rfl⟩, hq (beBM 6 k) ⟨by rw [Int.toNat_natCast]; rfl⟩⟩
      exact ⟨rfl, rfl, _, 1000, envFor04 sm0_ok _ _ _, rfl, h⟩
  · exact hc.elim
theorem rput_ok : ValidF Try.prog gl0 61 cPut := by
  refine valid_flat (enters_of (by kernel_rfl)) gl0_noY fun args H Q hc => ?_
  unfold cPut at hc
  split at hc
  · rename_i n v
    obtain ⟨⟨h0, h1⟩, hq⟩ := hc
    obtain ⟨k, rfl⟩ : ∃ k : Nat, v = (k : Int) := ⟨v.toNat, by omega⟩
    rcases h1 with ⟨rfl, h1⟩ | ⟨rfl, h1⟩ | ⟨rfl, h1⟩
    · obtain ⟨hv, hb', h⟩ := rput_a k (by omega) (Q := fun o H' _ => H' = [] ∧ (∃ v, o = .ret v ∧ old 0 v = true ∧ noY v = true) ∧ Q o H) ⟨rfl, ⟨_, rfl, rfl, rfl⟩, hq (beBM 1 k) ⟨by rw [Int.toNat_natCast]; rfl⟩⟩
      exact ⟨rfl, rfl, _, 1000, envFor04 sm0_ok _ _ _, rfl, h⟩
    · obtain ⟨hv, hb', h⟩ := rput_b k (by omega) (Q := fun o H' _ => H' = [] ∧ (∃ v, o = .ret v ∧ old 0 v = true ∧ noY v = true) ∧ Q o H) ⟨rfl, ⟨_, rfl, rfl, rfl⟩, hq (beBM 2 k) ⟨by rw [Int.toNat_natCast]; rfl⟩⟩
      exact ⟨rfl, rfl, _, 1000, envFor04 sm0_ok _ _ _, rfl, h⟩
    · obtain ⟨hv, hb', h⟩ := rput_c k (by omega) (Q := fun o H' _ => H' = [] ∧ (∃ v, o = .ret v ∧ old 0 v = true ∧ noY v = true) ∧ Q o H) ⟨rfl, ⟨_, rfl, rfl, rfl⟩, hq (beBM 6 k) ⟨by rw [Int.toNat_natCast]; rfl⟩⟩
      exact ⟨rfl, rfl, _, 1000, envFor04 sm0_ok _ _ _, rfl, h⟩
  · exact hc.elim

/-! ## heads of records -/
def headM (r : Rc) (n : Int) : List UInt8 := beBM 1 r.1.toNat ++ (beBM 2 r.2.1.toNat ++ (beBM 6 r.2.2.1.toNat ++ beBM 2 n.toNat))
/-- the numbers of a record are valid -/
abbrev numsOk (r : Rc) : Prop := (0 ≤ r.1 ∧ r.1 ≤ 255) ∧ (0 ≤ r.2.1 ∧ r.2.1 ≤ 65535) ∧ (0 ≤ r.2.2.1 ∧ r.2.2.1 ≤ 281474976710655)
def smP : SM := lookS [(60, cPut), (61, cPut)]
theorem smP_ok : ∀ f g, smP f = some g → ValidF Try.prog gl0 f g := lookS_ok _ (by simp only [List.mem_cons, List.not_mem_nil, or_false, forall_eq_or_imp, forall_eq]; exact ⟨put_ok, rput_ok⟩)
noncomputable def goal_36 (hv : Nat → Option Pa) (hb : Nat → Option Bool) (a b c : Int) (s : List UInt8) (n : Int) (Q : Out → List Blk → Gh → Prop) : Prop :=
  callx (e04 smP (fun _ => none) hv hb) (wpx (e04 smP (fun _ => none) hv hb) 1000) 36 [.agg [.int .i64 a, .int .i64 b, .int .i64 c, .str s], .int .i64 n] [] {} Q
theorem vc_36 (a : Int) (b : Int) (c : Int) (s : List UInt8) (n : Int) (Q : Out → List Blk → Gh → Prop) : goal_36 (lookV [(147467, .str), (147471, .str), (147474, .str)]) (lookB []) a b c s n Q = (
((Lf (((0 : Int) ≤ a) ∧
 ((((1 : Int) = (1 : Int)) ∧
 (a ≤ (255 : Int))) ∨
 ((((1 : Int) = (2 : Int)) ∧
 (a ≤ (65535 : Int))) ∨
 (((1 : Int) = (6 : Int)) ∧
 (a ≤ (281474976710655 : Int))))))) ∧
 (∀ s_0 : (List UInt8), ((Lf (s_0 = (beBM (Int.toNat (1 : Int)) (Int.toNat a)))) →
(bif ((eqAVL ((AV.int .i64 c) :: []) ((AV.int .i64 c) :: [])) && true) then (bif ((eqAVL ((AV.int .i64 b) :: []) ((AV.int .i64 b) :: [])) && true) then ((Lf (((0 : Int) ≤ b) ∧
 ((((2 : Int) = (1 : Int)) ∧
 (b ≤ (255 : Int))) ∨
 ((((2 : Int) = (2 : Int)) ∧
 (b ≤ (65535 : Int))) ∨
 (((2 : Int) = (6 : Int)) ∧
 (b ≤ (281474976710655 : Int))))))) ∧
 (∀ s_1 : (List UInt8), ((Lf (s_1 = (beBM (Int.toNat (2 : Int)) (Int.toNat b)))) →
(bif ((eqAVL ((AV.int .i64 c) :: []) ((AV.int .i64 c) :: [])) && true) then (bif ((decide (((List.length s_0) + (List.length s_1)) ≤ (9223372036854775807 : Nat))) && true) then (∃ s_2 : (List UInt8), (((AV.str (s_0 ++ s_1)) = (AV.str s_2)) ∧
 ((Lf (((0 : Int) ≤ c) ∧
 ((((6 : Int) = (1 : Int)) ∧
 (c ≤ (255 : Int))) ∨
 ((((6 : Int) = (2 : Int)) ∧
 (c ≤ (65535 : Int))) ∨
 (((6 : Int) = (6 : Int)) ∧
 (c ≤ (281474976710655 : Int))))))) ∧
 (∀ s_3 : (List UInt8), ((Lf (s_3 = (beBM (Int.toNat (6 : Int)) (Int.toNat c)))) →
(bif ((decide (((List.length s_2) + (List.length s_3)) ≤ (9223372036854775807 : Nat))) && true) then (∃ s_4 : (List UInt8), (((AV.str (s_2 ++ s_3)) = (AV.str s_4)) ∧
 ((Lf (((0 : Int) ≤ n) ∧
 ((((2 : Int) = (1 : Int)) ∧
 (n ≤ (255 : Int))) ∨
 ((((2 : Int) = (2 : Int)) ∧
 (n ≤ (65535 : Int))) ∨
 (((2 : Int) = (6 : Int)) ∧
 (n ≤ (281474976710655 : Int))))))) ∧
 (∀ s_5 : (List UInt8), ((Lf (s_5 = (beBM (Int.toNat (2 : Int)) (Int.toNat n)))) →
(bif ((decide (((List.length s_4) + (List.length s_5)) ≤ (9223372036854775807 : Nat))) && true) then (∃ s_6 : (List UInt8), (((AV.str (s_4 ++ s_5)) = (AV.str s_6)) ∧
 (Q (Out.ret (AV.str s_6)) [] (Gh.mk (0 : Nat) (0 : Nat) []))))
else False))))))
else False))))))
else False)
else False))))
else False)
else False))))) := by kernel_rfl

noncomputable def goal_38 (hv : Nat → Option Pa) (hb : Nat → Option Bool) (a b c : Int) (s : List UInt8) (n : Int) (Q : Out → List Blk → Gh → Prop) : Prop :=
  callx (e04 smP (fun _ => none) hv hb) (wpx (e04 smP (fun _ => none) hv hb) 1000) 38 [.agg [.int .i64 a, .int .i64 b, .int .i64 c, .str s], .int .i64 n] [] {} Q
theorem vc_38 (a : Int) (b : Int) (c : Int) (s : List UInt8) (n : Int) (Q : Out → List Blk → Gh → Prop) : goal_38 (lookV [(155659, .str), (155663, .str), (155666, .str)]) (lookB []) a b c s n Q = (
((Lf (((0 : Int) ≤ a) ∧
 ((((1 : Int) = (1 : Int)) ∧
 (a ≤ (255 : Int))) ∨
 ((((1 : Int) = (2 : Int)) ∧
 (a ≤ (65535 : Int))) ∨
 (((1 : Int) = (6 : Int)) ∧
 (a ≤ (281474976710655 : Int))))))) ∧
 (∀ s_0 : (List UInt8), ((Lf (s_0 = (beBM (Int.toNat (1 : Int)) (Int.toNat a)))) →
(bif ((eqAVL ((AV.int .i64 c) :: []) ((AV.int .i64 c) :: [])) && true) then (bif ((eqAVL ((AV.int .i64 b) :: []) ((AV.int .i64 b) :: [])) && true) then ((Lf (((0 : Int) ≤ b) ∧
 ((((2 : Int) = (1 : Int)) ∧
 (b ≤ (255 : Int))) ∨
 ((((2 : Int) = (2 : Int)) ∧
 (b ≤ (65535 : Int))) ∨
 (((2 : Int) = (6 : Int)) ∧
 (b ≤ (281474976710655 : Int))))))) ∧
 (∀ s_1 : (List UInt8), ((Lf (s_1 = (beBM (Int.toNat (2 : Int)) (Int.toNat b)))) →
(bif ((eqAVL ((AV.int .i64 c) :: []) ((AV.int .i64 c) :: [])) && true) then (bif ((decide (((List.length s_0) + (List.length s_1)) ≤ (9223372036854775807 : Nat))) && true) then (∃ s_2 : (List UInt8), (((AV.str (s_0 ++ s_1)) = (AV.str s_2)) ∧
 ((Lf (((0 : Int) ≤ c) ∧
 ((((6 : Int) = (1 : Int)) ∧
 (c ≤ (255 : Int))) ∨
 ((((6 : Int) = (2 : Int)) ∧
 (c ≤ (65535 : Int))) ∨
 (((6 : Int) = (6 : Int)) ∧
 (c ≤ (281474976710655 : Int))))))) ∧
 (∀ s_3 : (List UInt8), ((Lf (s_3 = (beBM (Int.toNat (6 : Int)) (Int.toNat c)))) →
(bif ((decide (((List.length s_2) + (List.length s_3)) ≤ (9223372036854775807 : Nat))) && true) then (∃ s_4 : (List UInt8), (((AV.str (s_2 ++ s_3)) = (AV.str s_4)) ∧
 ((Lf (((0 : Int) ≤ n) ∧
 ((((2 : Int) = (1 : Int)) ∧
 (n ≤ (255 : Int))) ∨
 ((((2 : Int) = (2 : Int)) ∧
 (n ≤ (65535 : Int))) ∨
 (((2 : Int) = (6 : Int)) ∧
 (n ≤ (281474976710655 : Int))))))) ∧
 (∀ s_5 : (List UInt8), ((Lf (s_5 = (beBM (Int.toNat (2 : Int)) (Int.toNat n)))) →
(bif ((decide (((List.length s_4) + (List.length s_5)) ≤ (9223372036854775807 : Nat))) && true) then (∃ s_6 : (List UInt8), (((AV.str (s_4 ++ s_5)) = (AV.str s_6)) ∧
 (Q (Out.ret (AV.str s_6)) [] (Gh.mk (0 : Nat) (0 : Nat) []))))
else False))))))
else False))))))
else False)
else False))))
else False)
else False))))) := by kernel_rfl

end Go.Proofs.Ytiholnebhmjbjaa

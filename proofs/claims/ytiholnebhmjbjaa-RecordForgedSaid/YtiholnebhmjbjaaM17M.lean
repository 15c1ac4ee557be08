/-
  Chapter 17: senders and receivers: what is checked; nonces; Seal of records.
-/
import Derived.Test.YtiholnebhmjbjaaM17D
import Derived.Test.YtiholnebhmjbjaaM17L
set_option linter.unusedSimpArgs false
set_option linter.unusedVariables false
set_option linter.unusedSectionVars false
namespace Go.Proofs.Ytiholnebhmjbjaa
open Go.RowKit
set_option maxRecDepth 1000000

noncomputable def goal_42m (hv : Nat → Option Pa) (hb : Nat → Option Bool) (t : Int) (k : Nat) (Q : Out → List Blk → Gh → Prop) : Prop :=
  callx (e04 sm0 (fun _ => none) hv hb) (wpx (e04 sm0 (fun _ => none) hv hb) 1000) 42 [.agg [.int .i64 t, .int .u64 (k : Nat)]] [] {} Q
theorem vc_42m (t : Int) (k : Nat) (Q : Out → List Blk → Gh → Prop) : goal_42m (lookV [(172035, .agg [(.int .i64), (.int .u64)]), (172043, .int .u64), (172044, .int .u64), (172053, .int .u64), (172056, .int .i64), (172057, .int .u64)]) (lookB []) t k Q = (
(∃ n_0 : Int, (∃ n_1 : Int, (((AV.agg ((AV.int .i64 t) :: ((AV.int .u64 (Nat.cast k : Int)) :: []))) = (AV.agg ((AV.int .i64 n_0) :: ((AV.int .u64 n_1) :: [])))) ∧
 (bif ((n_0 == (- (1 : Int))) && ((n_1 == (0 : Int)) && true)) then (Q (Out.ret (AV.bool true)) [] (Gh.mk (0 : Nat) (0 : Nat) []))
else (bif (decide (t ≥ (0 : Int))) then (bif (decide (t ≤ (281474976710655 : Int))) then (∃ n_2 : Int, (((AV.int .u64 (Nat.cast k : Int)) = (AV.int .u64 n_2)) ∧
 (∃ n_3 : Int, (((AV.int .u64 (IntKind.wrap .u64 (Nat.cast ((Int.toNat (n_2 % (18446744073709551616 : Int))) &&& (1 : Nat)) : Int))) = (AV.int .u64 n_3)) ∧
 (bif (n_3 == (1 : Int)) then (bif (decide (t ≥ (63 : Int))) then (Q (Out.ret (AV.bool true)) [] (Gh.mk (0 : Nat) (0 : Nat) []))
else (∃ n_4 : Int, (((AV.int .u64 (Nat.cast k : Int)) = (AV.int .u64 n_4)) ∧
 (∃ n_5 : Int, (((AV.int .i64 (IntKind.wrap .i64 (t + (1 : Int)))) = (AV.int .i64 n_5)) ∧
 (bif ((decide ((0 : Int) ≤ n_5)) && true) then (∃ n_6 : Int, (((AV.int .u64 (Int.fdiv n_4 ((2 : Int) ^ (Min.min (Int.toNat n_5) (64 : Nat))))) = (AV.int .u64 n_6)) ∧
 (bif (n_6 == (0 : Int)) then (Q (Out.ret (AV.bool true)) [] (Gh.mk (0 : Nat) (0 : Nat) []))
else (Q (Out.ret (AV.bool false)) [] (Gh.mk (0 : Nat) (0 : Nat) [])))))
else False))))))
else (Q (Out.ret (AV.bool false)) [] (Gh.mk (0 : Nat) (0 : Nat) [])))))))
else (Q (Out.ret (AV.bool false)) [] (Gh.mk (0 : Nat) (0 : Nat) [])))
else (Q (Out.ret (AV.bool false)) [] (Gh.mk (0 : Nat) (0 : Nat) [])))))))) := by kernel_rfl

noncomputable def goal_44m (hv : Nat → Option Pa) (hb : Nat → Option Bool) (t : Int) (k : Nat) (q : Int) (Q : Out → List Blk → Gh → Prop) : Prop :=
  callx (e04 sm0 (fun _ => none) hv hb) (wpx (e04 sm0 (fun _ => none) hv hb) 1000) 44 [.agg [.int .i64 t, .int .u64 (k : Nat)], .int .i64 q] [] {} Q
theorem vc_44m (t : Int) (k : Nat) (q : Int) (Q : Out → List Blk → Gh → Prop) : goal_44m (lookV [(180236, .int .i64), (180240, .int .u64), (180244, .int .i64), (180245, .int .u64), (180246, .int .u64)]) (lookB []) t k q Q = (
(bif (decide (q > t)) then (Q (Out.ret (AV.bool true)) [] (Gh.mk (0 : Nat) (0 : Nat) []))
else (∃ n_0 : Int, (((AV.int .i64 (IntKind.wrap .i64 (t - (64 : Int)))) = (AV.int .i64 n_0)) ∧
 (bif (decide (q > n_0)) then (∃ n_1 : Int, (((AV.int .u64 (Nat.cast k : Int)) = (AV.int .u64 n_1)) ∧
 (∃ n_2 : Int, (((AV.int .i64 (IntKind.wrap .i64 (t - q))) = (AV.int .i64 n_2)) ∧
 (bif ((decide ((0 : Int) ≤ n_2)) && true) then (∃ n_3 : Int, (((AV.int .u64 (Int.fdiv n_1 ((2 : Int) ^ (Min.min (Int.toNat n_2) (64 : Nat))))) = (AV.int .u64 n_3)) ∧
 (∃ n_4 : Int, (((AV.int .u64 (IntKind.wrap .u64 (Nat.cast ((Int.toNat (n_3 % (18446744073709551616 : Int))) &&& (1 : Nat)) : Int))) = (AV.int .u64 n_4)) ∧
 (bif (n_4 == (0 : Int)) then (Q (Out.ret (AV.bool true)) [] (Gh.mk (0 : Nat) (0 : Nat) []))
else (Q (Out.ret (AV.bool false)) [] (Gh.mk (0 : Nat) (0 : Nat) [])))))))
else False)))))
else (Q (Out.ret (AV.bool false)) [] (Gh.mk (0 : Nat) (0 : Nat) []))))))) := by kernel_rfl

noncomputable def goal_31m (hv : Nat → Option Pa) (hb : Nat → Option Bool) (e nx : Int) (key salt : List UInt8) (Q : Out → List Blk → Gh → Prop) : Prop :=
  callx (e04 sm0 (fun _ => none) hv hb) (wpx (e04 sm0 (fun _ => none) hv hb) 1000) 31 [.agg [.int .i64 e, .int .i64 nx, .str key, .str salt]] [] {} Q
theorem vc_31m (e : Int) (nx : Int) (key : List UInt8) (salt : List UInt8) (Q : Out → List Blk → Gh → Prop) : goal_31m (lookV [(208907, .int .i64), (208912, .int .i64)]) (lookB []) e nx key salt Q = (
(bif (decide (e ≥ (0 : Int))) then (bif (decide (e ≤ (65535 : Int))) then (∃ n_0 : Int, (((AV.int .i64 (Nat.cast (List.length key) : Int)) = (AV.int .i64 n_0)) ∧
 (bif (n_0 == (32 : Int)) then (∃ n_1 : Int, (((AV.int .i64 (Nat.cast (List.length salt) : Int)) = (AV.int .i64 n_1)) ∧
 (bif (n_1 == (12 : Int)) then (bif (decide (nx ≥ (0 : Int))) then (bif (decide (nx ≤ (281474976710656 : Int))) then (Q (Out.ret (AV.int .i64 (0 : Int))) [] (Gh.mk (0 : Nat) (0 : Nat) []))
else (Q (Out.ret (AV.int .i64 (170 : Int))) [] (Gh.mk (0 : Nat) (0 : Nat) [])))
else (Q (Out.ret (AV.int .i64 (170 : Int))) [] (Gh.mk (0 : Nat) (0 : Nat) [])))
else (Q (Out.ret (AV.int .i64 (170 : Int))) [] (Gh.mk (0 : Nat) (0 : Nat) [])))))
else (Q (Out.ret (AV.int .i64 (170 : Int))) [] (Gh.mk (0 : Nat) (0 : Nat) [])))))
else (Q (Out.ret (AV.int .i64 (170 : Int))) [] (Gh.mk (0 : Nat) (0 : Nat) [])))
else (Q (Out.ret (AV.int .i64 (170 : Int))) [] (Gh.mk (0 : Nat) (0 : Nat) [])))) := by kernel_rfl

/-- the nonce, octet by octet -/
def xorNM (w : List UInt8) : Nat → List UInt8 → List UInt8
  | 0, s => s
  | i + 1, s => (xorNM w i s).set (4 + i) ((xorNM w i s).getD (4 + i) 0 ^^^ w.getD i 0)
def numsNM (b c : Int) : List UInt8 := beBM 2 b.toNat ++ beBM 6 c.toNat
def nonceM (s : List UInt8) (b c : Int) : List UInt8 := xorNM (numsNM b c) 8 s
def inv_49m (s w : List UInt8) (a b c : Int) (t : List UInt8) : LInv where
  α := Nat
  pre i := Lf (i ≤ w.length)
  st i := ⟨mkT [(5, .sl 1 s.length 0 s.length 1), (17, .sl 2 w.length 0 w.length 1), (18, .int .i64 (w.length : Nat)), (19, .int .i64 (i : Nat))], [⟨.exact, true, [.int .i64 a, .int .i64 b, .int .i64 c, .str t]⟩, ⟨.grow, true, ofBytes (xorNM w i s)⟩, ⟨.grow, true, ofBytes w⟩]⟩
  mu i := w.length - i
noncomputable def env_49m (hv : Nat → Option Pa) (hb : Nat → Option Bool) (s w : List UInt8) (a b c : Int) (t : List UInt8) : Env :=
  e04 smP (fun i => bif Nat.beq i 49000 then some (fun _ => [[inv_49m s w a b c t]]) else none) hv hb
noncomputable def goal_49m (hv : Nat → Option Pa) (hb : Nat → Option Bool) (s w : List UInt8) (a b c : Int) (t : List UInt8) (Q : Out → List Blk → Gh → Prop) : Prop :=
  callx (env_49m hv hb s w a b c t) (wpx (env_49m hv hb s w a b c t) 1000) 49 [.str s, .agg [.int .i64 a, .int .i64 b, .int .i64 c, .str t]] [] {} Q
theorem vc_49m (s : List UInt8) (w : List UInt8) (a : Int) (b : Int) (c : Int) (t : List UInt8) (Q : Out → List Blk → Gh → Prop) : goal_49m (lookV [(200720, .str), (200722, .int .i64), (200725, .int .i64), (200727, .int .u8), (200730, .int .i64), (200732, .int .u8), (200734, .int .u8), (200736, .int .i64), (200738, .str)]) (lookB []) s w a b c t Q = (
((Lf (((0 : Int) ≤ b) ∧
 ((((2 : Int) = (1 : Int)) ∧
 (b ≤ (255 : Int))) ∨
 ((((2 : Int) = (2 : Int)) ∧
 (b ≤ (65535 : Int))) ∨
 (((2 : Int) = (6 : Int)) ∧
 (b ≤ (281474976710655 : Int))))))) ∧
 (∀ s_0 : (List UInt8), ((Lf (s_0 = (beBM (Int.toNat (2 : Int)) (Int.toNat b)))) →
(bif ((eqAVL ((AV.int .i64 c) :: []) ((AV.int .i64 c) :: [])) && true) then ((Lf (((0 : Int) ≤ c) ∧
 ((((6 : Int) = (1 : Int)) ∧
 (c ≤ (255 : Int))) ∨
 ((((6 : Int) = (2 : Int)) ∧
 (c ≤ (65535 : Int))) ∨
 (((6 : Int) = (6 : Int)) ∧
 (c ≤ (281474976710655 : Int))))))) ∧
 (∀ s_1 : (List UInt8), ((Lf (s_1 = (beBM (Int.toNat (6 : Int)) (Int.toNat c)))) →
(bif ((decide (((List.length s_0) + (List.length s_1)) ≤ (9223372036854775807 : Nat))) && true) then (∃ s_2 : (List UInt8), (((AV.str (s_0 ++ s_1)) = (AV.str s_2)) ∧
 (bif (Nat.beq (List.length (ofBytes s_2)) (List.length s_2)) then (∃ n_3 : Int, (((AV.int .i64 (Nat.cast (List.length s_2) : Int)) = (AV.int .i64 n_3)) ∧
 ((∃ x_4 : Nat, ((Lf (x_4 ≤ (List.length w))) ∧
 ((((AV.int .i64 a) :: ((AV.int .i64 b) :: ((AV.int .i64 c) :: ((AV.str t) :: [])))) = ((AV.int .i64 a) :: ((AV.int .i64 b) :: ((AV.int .i64 c) :: ((AV.str t) :: []))))) ∧
 (bif ((oldL (0 : Nat) (ofBytes s)) == true) then (((ofBytes s) = (ofBytes (xorNM w x_4 s))) ∧
 (bif ((oldL (0 : Nat) (ofBytes s_2)) == true) then (((ofBytes s_2) = (ofBytes w)) ∧
 (((AV.int .i64 (0 : Int)) = (AV.int .i64 (Nat.cast x_4 : Int))) ∧
 (((AV.sl (1 : Nat) (List.length s) (0 : Nat) (List.length s) (1 : Nat)) = (AV.sl (1 : Nat) (List.length s) (0 : Nat) (List.length s) (1 : Nat))) ∧
 (((AV.sl (2 : Nat) (List.length s_2) (0 : Nat) (List.length s_2) (1 : Nat)) = (AV.sl (2 : Nat) (List.length w) (0 : Nat) (List.length w) (1 : Nat))) ∧
 (((AV.int .i64 n_3) = (AV.int .i64 (Nat.cast (List.length w) : Int))) ∧
 True)))))
else False))
else False)))) ∧
 (∀ x_4 : Nat, ((Lf (x_4 ≤ (List.length w))) →
(bif (decide ((Nat.cast x_4 : Int) < (Nat.cast (List.length w) : Int))) then (∃ n_5 : Int, (((AV.int .i64 (Nat.cast x_4 : Int)) = (AV.int .i64 n_5)) ∧
 (bif (((Nat.blt (Int.toNat (Nat.cast x_4 : Int)) (List.length w)) && (Nat.beq (List.length (ofBytes w)) (List.length w))) && true) then (bif ((Nat.beq (List.length (ofBytes w)) (List.length w)) && (Nat.blt ((0 : Nat) + ((Int.toNat (Nat.cast x_4 : Int)) * (1 : Nat))) (List.length w))) then (∃ n_6 : Int, (((List.getD (List.take (1 : Nat) (List.drop ((0 : Nat) + ((Int.toNat (Nat.cast x_4 : Int)) * (1 : Nat))) (ofBytes w))) (0 : Nat) AV.undef) = (AV.int .u8 n_6)) ∧
 (∃ n_7 : Int, (((AV.int .i64 (IntKind.wrap .i64 ((4 : Int) + n_5))) = (AV.int .i64 n_7)) ∧
 (bif ((((decide ((0 : Int) ≤ n_7)) && (Nat.blt (Int.toNat n_7) (List.length s))) && (Nat.beq (List.length (ofBytes (xorNM w x_4 s))) (List.length s))) && true) then (bif ((Nat.beq (List.length (ofBytes (xorNM w x_4 s))) (List.length s)) && (Nat.blt ((0 : Nat) + ((Int.toNat n_7) * (1 : Nat))) (List.length s))) then (∃ n_8 : Int, (((List.getD (List.take (1 : Nat) (List.drop ((0 : Nat) + ((Int.toNat n_7) * (1 : Nat))) (ofBytes (xorNM w x_4 s)))) (0 : Nat) AV.undef) = (AV.int .u8 n_8)) ∧
 (∃ n_9 : Int, (((AV.int .u8 (IntKind.wrap .u8 (Nat.cast ((Int.toNat (n_8 % (256 : Int))) ^^^ (Int.toNat (n_6 % (256 : Int)))) : Int))) = (AV.int .u8 n_9)) ∧
 (bif ((((decide ((0 : Int) ≤ n_7)) && (Nat.blt (Int.toNat n_7) (List.length s))) && (Nat.beq (List.length (ofBytes (xorNM w x_4 s))) (List.length s))) && true) then (bif (((((Nat.beq (List.length (ofBytes (xorNM w x_4 s))) (List.length s)) && (Nat.ble (((0 : Nat) + ((Int.toNat n_7) * (1 : Nat))) + (1 : Nat)) (List.length s))) && true) && true) && true) then (∃ n_10 : Int, (((AV.int .i64 (IntKind.wrap .i64 ((Nat.cast x_4 : Int) + (1 : Int)))) = (AV.int .i64 n_10)) ∧
 ((True ∧
 ((0 : Nat) = (0 : Nat))) ∧
 (∃ y_11 : Nat, ((Lf (y_11 ≤ (List.length w))) ∧
 ((((List.length w) - y_11) < ((List.length w) - x_4)) ∧
 ((((AV.int .i64 a) :: ((AV.int .i64 b) :: ((AV.int .i64 c) :: ((AV.str t) :: [])))) = ((AV.int .i64 a) :: ((AV.int .i64 b) :: ((AV.int .i64 c) :: ((AV.str t) :: []))))) ∧
 (((setRange (ofBytes (xorNM w x_4 s)) ((0 : Nat) + ((Int.toNat n_7) * (1 : Nat))) ((AV.int .u8 n_9) :: [])) = (ofBytes (xorNM w y_11 s))) ∧
 (((ofBytes w) = (ofBytes w)) ∧
 (((AV.int .i64 n_10) = (AV.int .i64 (Nat.cast y_11 : Int))) ∧
 (((AV.sl (1 : Nat) (List.length s) (0 : Nat) (List.length s) (1 : Nat)) = (AV.sl (1 : Nat) (List.length s) (0 : Nat) (List.length s) (1 : Nat))) ∧
 (((AV.sl (2 : Nat) (List.length w) (0 : Nat) (List.length w) (1 : Nat)) = (AV.sl (2 : Nat) (List.length w) (0 : Nat) (List.length w) (1 : Nat))) ∧
 (((AV.int .i64 (Nat.cast (List.length w) : Int)) = (AV.int .i64 (Nat.cast (List.length w) : Int))) ∧
 True)))))))))))))
else False)
else False)))))
else False)
else False)))))
else False)
else False)))
else (bif ((((Nat.beq (List.length (ofBytes (xorNM w x_4 s))) (List.length s)) && (Nat.ble ((0 : Nat) + (List.length s)) (List.length s))) && true) && (allU8 (List.take (List.length s) (List.drop (0 : Nat) (ofBytes (xorNM w x_4 s)))))) then (∃ s_5 : (List UInt8), (((AV.str (List.map toB (List.take (List.length s) (List.drop (0 : Nat) (ofBytes (xorNM w x_4 s)))))) = (AV.str s_5)) ∧
 (Q (Out.ret (AV.str s_5)) [] (Gh.mk (0 : Nat) (0 : Nat) []))))
else False)))))))
else False)))
else False))))
else False))))) := by kernel_rfl

noncomputable def goal_24m (hv : Nat → Option Pa) (hb : Nat → Option Bool) (ep st kk sk : Int) (z : AV) (Q : Out → List Blk → Gh → Prop) : Prop :=
  callx (e04 smTx (fun _ => none) hv hb) (wpx (e04 smTx (fun _ => none) hv hb) 1000) 24 [.agg [.int .u16 ep, .int .u16 st, .int .u8 kk, .int .u8 sk, z]] [] {} Q
theorem vc_24m (ep : Int) (st : Int) (kk : Int) (sk : Int) (z : AV) (Q : Out → List Blk → Gh → Prop) : goal_24m (lookV [(98309, .int .u16), (98310, .int .i64), (98313, .int .i64), (98316, .int .u8), (98320, .int .u8), (98321, .int .u8)]) (lookB []) ep st kk sk z Q = (
(∃ n_0 : Int, (((AV.int .u16 (Int.tmod ep (4 : Int))) = (AV.int .u16 n_0)) ∧
 (∃ n_1 : Int, (((AV.int .i64 (IntKind.wrap .i64 n_0)) = (AV.int .i64 n_1)) ∧
 (∃ n_2 : Int, (((AV.int .i64 (IntKind.wrap .i64 st)) = (AV.int .i64 n_2)) ∧
 (∃ n_3 : Int, (((AV.int .u8 (Int.tmod kk (4 : Int))) = (AV.int .u8 n_3)) ∧
 (∃ n_4 : Int, (((AV.int .u8 (Int.tmod sk (3 : Int))) = (AV.int .u8 n_4)) ∧
 (∃ n_5 : Int, (((AV.int .u8 (IntKind.wrap .u8 ((100 : Int) + n_4))) = (AV.int .u8 n_5)) ∧
 ((Lf (((0 : Int) ≤ (32 : Int)) ∧
 ((32 : Int) ≤ (1000 : Int)))) ∧
 (∀ t_6 : (List UInt8), ((Lf ((List.length t_6) = (Int.toNat (32 : Int)))) →
(bif ((eqAVL ((AV.int .u8 sk) :: []) ((AV.int .u8 sk) :: [])) && true) then (bif ((eqAVL ((AV.int .u16 st) :: []) ((AV.int .u16 st) :: [])) && true) then (bif ((eqAVL ((AV.int .u16 ep) :: []) ((AV.int .u16 ep) :: [])) && true) then ((Lf (((0 : Int) ≤ (12 : Int)) ∧
 ((12 : Int) ≤ (1000 : Int)))) ∧
 (∀ t_7 : (List UInt8), ((Lf ((List.length t_7) = (Int.toNat (12 : Int)))) →
(bif ((eqAVL ((AV.int .u16 st) :: []) ((AV.int .u16 st) :: [])) && true) then (bif ((eqAVL ((AV.int .u16 ep) :: []) ((AV.int .u16 ep) :: [])) && true) then (Q (Out.ret (AV.agg ((AV.int .i64 n_1) :: ((AV.int .i64 n_2) :: ((AV.str t_6) :: ((AV.str t_7) :: [])))))) [] (Gh.mk (0 : Nat) (0 : Nat) []))
else False)
else False))))
else False)
else False)
else False))))))))))))))))) := by kernel_rfl

/-! ## windows -/
theorem window_run (t : Int) (k : Nat) (hk : k < 18446744073709551616) (Q : Out → List Blk → Gh → Prop) (hq : Q (.ret (.bool (okWM t k))) [] {}) : ∃ hv hb, goal_42m hv hb t k Q := by
  obtain ⟨hv, hb', e⟩ : ∃ hv hb, goal_42m hv hb t k Q = _ := ⟨_, _, vc_42m t k Q⟩
  refine ⟨hv, hb', e.mpr ?_⟩
  clear e
  have bad : okWM t k = false → Q (.ret (.bool false)) [] {} := fun h => by rwa [h] at hq
  have good : okWM t k = true → Q (.ret (.bool true)) [] {} := fun h => by rwa [h] at hq
  refine aggW (splitAnd (splitE (fun h1 => splitAnd (splitE (fun h2 => good ?_) (fun h2 => ?_))) (fun h1 => ?_)))
  · obtain rfl : k = 0 := by omega
    subst h1
    rfl
  · subst h1
    exact splitD (fun h => absurd h (by omega)) (fun _ => bad (by
      rw [okWM, decide_eq_false (by omega : ¬ (0 : Int) ≤ -1), show Nat.beq k 0 = false by cases hb : Nat.beq k 0 with | false => rfl | true => exact absurd (Nat.eq_of_beq_eq_true hb) (by omega)]
      simp))
  · have hf : (decide (t = -1) && Nat.beq k 0) = false := by rw [decide_eq_false h1]; rfl
    refine splitD (fun h2 => splitD (fun h3 => ?_) (fun h3 => bad ?_)) (fun h2 => bad ?_)
    · refine ⟨_, rfl, ?_⟩
      rw [show Int.toNat (((k : Nat) : Int) % 18446744073709551616) = k by omega, and1]
      have hr : (decide ((0 : Int) ≤ t) && decide (t < 281474976710656)) = true := by simp; omega
      refine wrapW (by omega) (splitE (fun h4 => splitD (fun h5 => good ?_) (fun h5 => ⟨_, rfl, wrapI (by omega) (by omega) (ckI (by simp; omega) ?_)⟩)) (fun h4 => bad ?_))
      · rw [okWM, hf, hr, bit0, decide_eq_true (by omega : 63 ≤ t)]
        simp; omega
      · rw [show min (Int.toNat (t + 1)) 64 = t.toNat + 1 by omega, fdiv2]
        refine ⟨_, rfl, splitE (fun h6 => good ?_) (fun h6 => bad ?_)⟩
        · rw [okWM, hf, hr, bit0, show k / 2 ^ (t.toNat + 1) = 0 by omega]
          simp; omega
        · rw [okWM, hf, hr, decide_eq_false (by omega : ¬ 63 ≤ t), show Nat.beq (k / 2 ^ (t.toNat + 1)) 0 = false by cases hb : Nat.beq (k / 2 ^ (t.toNat + 1)) 0 with | false => rfl | true => exact absurd (Nat.eq_of_beq_eq_true hb) (by omega)]
          simp
      · rw [okWM, hf, hr, bit0, show (k % 2 == 1) = false by simp; omega]
        simp
    · rw [okWM, hf, decide_eq_false (by omega : ¬ t < 281474976710656)]
      simp
    · rw [okWM, hf, decide_eq_false (by omega : ¬ (0 : Int) ≤ t)]
      simp
def cWin : Con
  | [.agg [.int .i64 t, .int .u64 u]], H, K => ∃ k : Nat, Lf (u = (k : Int) ∧ k < 18446744073709551616) ∧ ∀ b, Lf (b = okWM t k) → K (.ret (.bool b)) H
  | _, _, _ => False
theorem win_ok : ValidF Try.prog gl0 42 cWin := by
  refine valid_flat (enters_of (by kernel_rfl)) gl0_noY fun args H Q hc => ?_
  unfold cWin at hc
  split at hc
  · rename_i t u
    obtain ⟨k, ⟨rfl, h1⟩, hq⟩ := hc
    obtain ⟨hv, hb', h⟩ := window_run t k h1 (Q := fun o H' _ => H' = [] ∧ (∃ v, o = .ret v ∧ old 0 v = true ∧ noY v = true) ∧ Q o H) ⟨rfl, ⟨_, rfl, rfl, rfl⟩, hq _ ⟨rfl⟩⟩
    exact ⟨rfl, rfl, _, 1000, envFor04 sm0_ok _ _ _, rfl, h⟩
  · exact hc.elim
/-- whether a number is fresh for a valid window -/
def isFreshM (t : Int) (k : Nat) (q : Int) : Bool := decide (t < q) || (decide (t - 64 < q) && !bitWM k (t - q).toNat)
theorem fresh_eq {t : Int} {k : Nat} {q : Int} (hok : okWM t k = true) (hq : 0 ≤ q ∧ q < 281474976710656) : freshWM t k q = 0 ↔ isFreshM t k q = true := by
  unfold freshWM isFreshM
  rw [if_neg (by simp [hok]), if_neg (by omega)]
  by_cases h1 : t < q
  · simp [h1]; omega
  · by_cases h2 : t - 64 < q
    · cases hb : bitWM k (t - q).toNat <;> simp [h1, h2] <;> omega
    · rw [if_pos ⟨by omega, .inl (by omega)⟩]
      simp [h1, h2]
theorem isfresh_run (t : Int) (k : Nat) (q : Int) (hk : k < 18446744073709551616) (ht : -1 ≤ t ∧ t < 281474976710656) (hqr : 0 ≤ q ∧ q < 281474976710656) (Q : Out → List Blk → Gh → Prop) (hq : Q (.ret (.bool (isFreshM t k q))) [] {}) : ∃ hv hb, goal_44m hv hb t k q Q := by
  obtain ⟨hv, hb', e⟩ : ∃ hv hb, goal_44m hv hb t k q Q = _ := ⟨_, _, vc_44m t k q Q⟩
  refine ⟨hv, hb', e.mpr ?_⟩
  clear e
  unfold isFreshM at hq
  refine splitD (fun h1 => ?_) (fun h1 => wrapI (by omega) (by omega) (splitD (fun h2 => ⟨_, rfl, wrapI (by omega) (by omega) (ckI (by simp; omega) ?_)⟩) (fun h2 => ?_)))
  · rw [decide_eq_true (by omega : t < q)] at hq
    exact hq
  · rw [decide_eq_false (by omega : ¬ t < q), decide_eq_true (by omega : t - 64 < q)] at hq
    rw [show min (Int.toNat (t - q)) 64 = (t - q).toNat by omega, fdiv2]
    have hx := Nat.div_le_self k (2 ^ (t - q).toNat)
    have hbit : bitWM k (t - q).toNat = (k / 2 ^ (t - q).toNat % 2 == 1) := rfl
    rw [hbit] at hq
    generalize k / 2 ^ (t - q).toNat = x at *
    refine ⟨_, rfl, ?_⟩
    rw [show Int.toNat (((x : Nat) : Int) % 18446744073709551616) = x by omega, and1]
    refine wrapW (by omega) (splitE (fun h5 => ?_) (fun h5 => ?_))
    · rw [show (x % 2 == 1) = false by simp; omega] at hq
      exact hq
    · rw [show (x % 2 == 1) = true by simp; omega] at hq
      exact hq
  · rw [decide_eq_false (by omega : ¬ t < q), decide_eq_false (by omega : ¬ t - 64 < q)] at hq
    exact hq
def cIsFresh : Con
  | [.agg [.int .i64 t, .int .u64 u], .int .i64 q], H, K => ∃ k : Nat, Lf (u = (k : Int) ∧ k < 18446744073709551616 ∧ (-1 ≤ t ∧ t < 281474976710656) ∧ 0 ≤ q ∧ q < 281474976710656) ∧ ∀ b, Lf (b = isFreshM t k q) → K (.ret (.bool b)) H
  | _, _, _ => False
theorem isfresh_ok : ValidF Try.prog gl0 44 cIsFresh := by
  refine valid_flat (enters_of (by kernel_rfl)) gl0_noY fun args H Q hc => ?_
  unfold cIsFresh at hc
  split at hc
  · rename_i t u q
    obtain ⟨k, ⟨rfl, h1, h2, h3⟩, hq⟩ := hc
    obtain ⟨hv, hb', h⟩ := isfresh_run t k q h1 h2 h3 (Q := fun o H' _ => H' = [] ∧ (∃ v, o = .ret v ∧ old 0 v = true ∧ noY v = true) ∧ Q o H) ⟨rfl, ⟨_, rfl, rfl, rfl⟩, hq _ ⟨rfl⟩⟩
    exact ⟨rfl, rfl, _, 1000, envFor04 sm0_ok _ _ _, rfl, h⟩
  · exact hc.elim
/-! ## senders -/
def sndOkM (e nx : Int) (key salt : List UInt8) : Bool := decide (0 ≤ e ∧ e ≤ 65535) && decide (key.length = 32) && decide (salt.length = 12) && decide (0 ≤ nx ∧ nx ≤ 281474976710656)
theorem snd_iff (e nx : Int) (key salt : List UInt8) : sndOkM e nx key salt = true ↔ (0 ≤ e ∧ e ≤ 65535) ∧ key.length = 32 ∧ salt.length = 12 ∧ 0 ≤ nx ∧ nx ≤ 281474976710656 := by
  simp [sndOkM, and_assoc]
def chkM (b : Bool) : Int := if b then 0 else 170
theorem chkS_run (e nx : Int) (key salt : List UInt8) (Q : Out → List Blk → Gh → Prop) (hq : Q (.ret (.int .i64 (chkM (sndOkM e nx key salt)))) [] {}) : ∃ hv hb, goal_31m hv hb e nx key salt Q := by
  obtain ⟨hv, hb', e'⟩ : ∃ hv hb, goal_31m hv hb e nx key salt Q = _ := ⟨_, _, vc_31m e nx key salt Q⟩
  refine ⟨hv, hb', e'.mpr ?_⟩
  clear e'
  have hi := snd_iff e nx key salt
  have no : ¬ ((0 ≤ e ∧ e ≤ 65535) ∧ key.length = 32 ∧ salt.length = 12 ∧ 0 ≤ nx ∧ nx ≤ 281474976710656) → Q (.ret (.int .i64 170)) [] {} := fun h => by
    rwa [show sndOkM e nx key salt = false by rw [← Bool.not_eq_true, hi]; exact h] at hq
  refine splitD (fun h1 => splitD (fun h2 => ⟨_, rfl, splitE (fun h3 => ⟨_, rfl, splitE (fun h4 => splitD (fun h5 => splitD (fun h6 => ?_) (fun h => no (by omega))) (fun h => no (by omega))) (fun h => no (by omega))⟩) (fun h => no (by omega))⟩) (fun h => no (by omega))) (fun h => no (by omega))
  rwa [hi.2 (by omega)] at hq
def cChkS : Con
  | [.agg [.int .i64 e, .int .i64 nx, .str key, .str salt]], H, K => ∀ x, Lf (x = chkM (sndOkM e nx key salt)) → K (.ret (.int .i64 x)) H
  | _, _, _ => False
theorem chkS_ok : ValidF Try.prog gl0 31 cChkS := by
  refine valid_flat (enters_of (by kernel_rfl)) gl0_noY fun args H Q hc => ?_
  unfold cChkS at hc
  split at hc
  · rename_i e nx key salt
    obtain ⟨hv, hb', h⟩ := chkS_run e nx key salt (Q := fun o H' _ => H' = [] ∧ (∃ v, o = .ret v ∧ old 0 v = true ∧ noY v = true) ∧ Q o H) ⟨rfl, ⟨_, rfl, rfl, rfl⟩, hc _ ⟨rfl⟩⟩
    exact ⟨rfl, rfl, _, 1000, envFor04 sm0_ok _ _ _, rfl, h⟩
  · exact hc.elim
theorem draftS_run (ep st kk sk : Int) (z : AV) (h1 : 0 ≤ ep ∧ ep ≤ 65535) (h2 : 0 ≤ st ∧ st ≤ 65535) (Q : Out → List Blk → Gh → Prop) (hq : ∀ key salt : List UInt8, key.length = 32 → salt.length = 12 → Q (.ret (.agg [.int .i64 (ep % 4), .int .i64 st, .str key, .str salt])) [] {}) : ∃ hv hb, goal_24m hv hb ep st kk sk z Q := by
  obtain ⟨hv, hb', e'⟩ : ∃ hv hb, goal_24m hv hb ep st kk sk z Q = _ := ⟨_, _, vc_24m ep st kk sk z Q⟩
  refine ⟨hv, hb', e'.mpr ?_⟩
  clear e'
  have eU : ∀ (k : IntKind) (n : Int), eqAVL [AV.int k n] [AV.int k n] = true := eqAVL_i
  have hm : Int.tmod ep 4 = ep % 4 := Int.tmod_eq_emod_of_nonneg h1.1
  refine ⟨_, rfl, ?_⟩
  rw [hm]
  refine wrapI (by omega) (by omega) (wrapI (by omega) (by omega) ⟨_, rfl, _, rfl, _, rfl, ⟨by omega, by omega⟩, ?_⟩)
  rintro key ⟨hk⟩
  refine ckI (by rw [eU]; rfl) (ckI (by rw [eU]; rfl) (ckI (by rw [eU]; rfl) ⟨⟨by omega, by omega⟩, ?_⟩))
  rintro salt ⟨hs⟩
  exact ckI (by rw [eU]; rfl) (ckI (by rw [eU]; rfl) (hq key salt hk hs))
def cDraftS : Con
  | [.agg [.int .u16 ep, .int .u16 st, .int .u8 _, .int .u8 _, .lst _ l _ 1]], H, K => ∃ s : List UInt8, Lf (l = ofBytes s ∧ (0 ≤ ep ∧ ep ≤ 65535) ∧ 0 ≤ st ∧ st ≤ 65535) ∧ ∀ e key salt, Lf (e = ep % 4 ∧ key.length = 32 ∧ salt.length = 12) → K (.ret (.agg [.int .i64 e, .int .i64 st, .str key, .str salt])) H
  | _, _, _ => False
/-! ## nonces -/
theorem xorN_len (w : List UInt8) : ∀ i s, (xorNM w i s).length = s.length
  | 0, s => rfl
  | i + 1, s => by rw [xorNM, List.length_set, xorN_len w i s]
theorem nonce_len (s : List UInt8) (b c : Int) : (nonceM s b c).length = s.length := xorN_len _ _ _
theorem xor_u8 (a b : UInt8) : IntKind.wrap .u8 ((((a.toNat : Int) % 256).toNat ^^^ ((b.toNat : Int) % 256).toNat : Nat) : Int) = ((a ^^^ b).toNat : Int) := by
  have h1 : ((a.toNat : Int) % 256).toNat = a.toNat := by have := a.toNat_lt; omega
  have h2 : ((b.toNat : Int) % 256).toNat = b.toNat := by have := b.toNat_lt; omega
  rw [h1, h2, UInt8.toNat_xor]
  have h3 : a.toNat ^^^ b.toNat < 2 ^ 8 := Nat.xor_lt_two_pow a.toNat_lt b.toNat_lt
  show ((a.toNat ^^^ b.toNat : Nat) : Int) % 256 = _
  omega
theorem nonce_run (s : List UInt8) (a b c : Int) (t : List UInt8) (hs : s.length = 12) (hb : 0 ≤ b ∧ b ≤ 65535) (hc : 0 ≤ c ∧ c ≤ 281474976710655) (Q : Out → List Blk → Gh → Prop) (hq : Q (.ret (.str (nonceM s b c))) [] {}) : ∃ hv hb, goal_49m hv hb s (numsNM b c) a b c t Q := by
  have hwl : (numsNM b c).length = 8 := by rw [numsNM, List.length_append, be_len, be_len]
  have hw : numsNM b c = beBM 2 b.toNat ++ beBM 6 c.toNat := rfl
  rw [nonceM] at hq
  generalize numsNM b c = w at *
  obtain ⟨hv, hb', e'⟩ : ∃ hv hb, goal_49m hv hb s w a b c t Q = _ := ⟨_, _, vc_49m s w a b c t Q⟩
  refine ⟨hv, hb', e'.mpr ?_⟩
  clear e'
  refine ⟨⟨hb.1, .inr (.inl ⟨rfl, hb.2⟩)⟩, ?_⟩
  rintro s0 ⟨e0⟩
  refine ckI (by rw [eqAVL_i]; rfl) ⟨⟨hc.1, .inr (.inr ⟨rfl, hc.2⟩)⟩, ?_⟩
  rintro s1 ⟨e1⟩
  have hws : s0 ++ s1 = w := by rw [e0, e1, hw]; rfl
  rw [hws]
  have hl01 : s0.length + s1.length = 8 := by rw [← hwl, ← hws, List.length_append]
  refine ckI (by rw [hl01]; rfl) ⟨w, rfl, ckI (by rw [ofB_len]; simp) ⟨_, rfl, ?_, ?_⟩⟩
  · refine ⟨0, ⟨by omega⟩, rfl, ?_⟩
    rw [oldL_ofB, oldL_ofB]
    exact ⟨rfl, rfl, rfl, rfl, rfl, rfl, trivial⟩
  · rintro i ⟨h1⟩
    have hxl := xorN_len w i s
    have hol : (ofBytes (xorNM w i s)).length = s.length := by rw [ofB_len, hxl]
    have hwo := ofB_len w
    refine splitD (fun h2 => ?_) (fun h2 => ?_)
    · refine ⟨_, rfl, ckI (by rw [hwo]; simp; omega) (ckI (by rw [hwo]; simp; omega) (ldB (j := i) (by omega) (by simp) (wrapI (by omega) (by omega) (ckI (by rw [hol]; simp; omega) (ckI (by rw [hol]; simp; omega) (ldB (j := 4 + i) (by omega) (by omega) ?_))))))⟩
      rw [xor_u8]
      refine ⟨_, rfl, ckI (by rw [hol]; simp; omega) (ckI (by rw [hol]; simp; omega) (wrapI (by omega) (by omega) ⟨⟨trivial, rfl⟩, i + 1, ⟨by omega⟩, by omega, rfl, ?_, rfl, rfl, rfl, rfl, rfl, trivial⟩))⟩
      exact stB (j := 4 + i) (by omega) (by omega)
    · have hi : i = 8 := by omega
      subst hi
      refine ckI (by rw [hol, allU8_take]; simp) ⟨_, rfl, ?_⟩
      rw [strB (by omega) rfl]
      exact hq
def cNonce : Con
  | [.str s, .agg [.int .i64 a, .int .i64 b, .int .i64 c, .str t]], H, K => Lf (s.length = 12 ∧ (0 ≤ b ∧ b ≤ 65535) ∧ (0 ≤ c ∧ c ≤ 281474976710655)) ∧ ∀ x, Lf (x = nonceM s b c) → K (.ret (.str x)) H
  | _, _, _ => False
theorem nonce_ok : ValidF Try.prog gl0 49 cNonce := by
  refine valid_flat (enters_of (by kernel_rfl)) gl0_noY fun args H Q hc => ?_
  unfold cNonce at hc
  split at hc
  · rename_i s a b c t
    obtain ⟨⟨h1, h2, h3⟩, hq⟩ := hc
    obtain ⟨hv, hb', h⟩ := nonce_run s a b c t h1 h2 h3 (Q := fun o H' _ => H' = [] ∧ (∃ v, o = .ret v ∧ old 0 v = true ∧ noY v = true) ∧ Q o H) ⟨rfl, ⟨_, rfl, rfl, rfl⟩, hq _ ⟨rfl⟩⟩
    exact ⟨rfl, rfl, _, 1000, envFor04 smP_ok _ _ _, rfl, h⟩
  · exact hc.elim
theorem draftS_ok : ValidF Try.prog gl0 24 cDraftS := by
  refine valid_flat (enters_of (by kernel_rfl)) gl0_noY fun args H Q hc => ?_
  unfold cDraftS at hc
  split at hc
  · rename_i ep st kk sk tg l n
    obtain ⟨s, ⟨rfl, h1, h2⟩, hq⟩ := hc
    obtain ⟨hv, hb', h⟩ := draftS_run ep st kk sk (.lst tg (ofBytes s) n 1) h1 h2 (Q := fun o H' _ => H' = [] ∧ (∃ v, o = .ret v ∧ old 0 v = true ∧ noY v = true) ∧ Q o H) (fun key salt k1 k2 => ⟨rfl, ⟨_, rfl, rfl, rfl⟩, hq _ _ _ ⟨rfl, k1, k2⟩⟩)
    exact ⟨by simp [oldL, old, oldL_ofB], by simp [noYL, noY], _, 1000, envFor04 smTx_ok _ _ _, rfl, h⟩
  · exact hc.elim

/-! ## Seal of records -/
/-- the datagram of a record that is sealed -/
def boxM (e nx : Int) (key salt : List UInt8) (kind : Int) (body : List UInt8) : List UInt8 := headM (kind, e, nx, []) ((body.length : Int) + 16) ++ (sealM key (nonceM salt e nx) (headM (kind, e, nx, []) ((body.length : Int) + 16)) body).1
def smS : SM := lookS [(31, cChkS), (36, cHead), (48, cSeal), (49, cNonce)]
theorem smS_ok : ∀ f g, smS f = some g → ValidF Try.prog gl0 f g := lookS_ok _ (by simp only [List.mem_cons, List.not_mem_nil, or_false, forall_eq_or_imp, forall_eq]; exact ⟨chkS_ok, head_ok, seal_ok, nonce_ok⟩)
noncomputable def goal_26m (hv : Nat → Option Pa) (hb : Nat → Option Bool) (e nx : Int) (key salt : List UInt8) (kind : Int) (body : List UInt8) (Q : Out → List Blk → Gh → Prop) : Prop :=
  callx (e04 smS (fun _ => none) hv hb) (wpx (e04 smS (fun _ => none) hv hb) 1000) 26 [.agg [.int .i64 e, .int .i64 nx, .str key, .str salt], .int .i64 kind, .str body] [] {} Q
theorem vc_26m (e : Int) (nx : Int) (key : List UInt8) (salt : List UInt8) (kind : Int) (body : List UInt8) (Q : Out → List Blk → Gh → Prop) : goal_26m (lookV [(106521, .int .i64), (106537, .int .i64), (106538, .int .i64), (106554, .int .i64), (106559, .str)]) (lookB []) e nx key salt kind body Q = (
(∀ x_0 : Int, ((Lf (x_0 = (chkM (sndOkM e nx key salt)))) →
(bif (x_0 != (0 : Int)) then (Q (Out.ret (AV.tup ((AV.agg ((AV.int .i64 (0 : Int)) :: ((AV.int .i64 (0 : Int)) :: ((AV.str []) :: ((AV.str []) :: []))))) :: ((AV.str []) :: ((AV.int .i64 (170 : Int)) :: []))))) [] (Gh.mk (0 : Nat) (0 : Nat) []))
else (bif (decide (kind ≥ (0 : Int))) then (bif (decide (kind ≤ (255 : Int))) then (∃ n_1 : Int, (((AV.int .i64 (Nat.cast (List.length body) : Int)) = (AV.int .i64 n_1)) ∧
 (bif (decide (n_1 > (984 : Int))) then (Q (Out.ret (AV.tup ((AV.agg ((AV.int .i64 (0 : Int)) :: ((AV.int .i64 (0 : Int)) :: ((AV.str []) :: ((AV.str []) :: []))))) :: ((AV.str []) :: ((AV.int .i64 (3 : Int)) :: []))))) [] (Gh.mk (0 : Nat) (0 : Nat) []))
else (bif (nx == (281474976710656 : Int)) then (Q (Out.ret (AV.tup ((AV.agg ((AV.int .i64 (0 : Int)) :: ((AV.int .i64 (0 : Int)) :: ((AV.str []) :: ((AV.str []) :: []))))) :: ((AV.str []) :: ((AV.int .i64 (6 : Int)) :: []))))) [] (Gh.mk (0 : Nat) (0 : Nat) []))
else (∃ n_2 : Int, (((AV.int .i64 (Nat.cast (List.length body) : Int)) = (AV.int .i64 n_2)) ∧
 (∃ n_3 : Int, (((AV.int .i64 (IntKind.wrap .i64 (n_2 + (16 : Int)))) = (AV.int .i64 n_3)) ∧
 ((Lf ((numsOk (Prod.mk kind (Prod.mk e (Prod.mk nx [])))) ∧
 (((0 : Int) ≤ n_3) ∧
 (n_3 ≤ (65535 : Int))))) ∧
 (∀ t_4 : (List UInt8), ((Lf (t_4 = (headM (Prod.mk kind (Prod.mk e (Prod.mk nx []))) n_3))) →
((Lf (((List.length salt) = (12 : Nat)) ∧
 ((((0 : Int) ≤ e) ∧
 (e ≤ (65535 : Int))) ∧
 (((0 : Int) ≤ nx) ∧
 (nx ≤ (281474976710655 : Int)))))) ∧
 (∀ x_5 : (List UInt8), ((Lf (x_5 = (nonceM salt e nx))) →
(bif ((eqAVL ((AV.str key) :: []) ((AV.str key) :: [])) && true) then (∀ t_6 : (List UInt8), (∀ e_7 : Int, ((Lf ((sealM key x_5 t_4 body) = (Prod.mk t_6 e_7))) →
(∃ n_8 : Int, (((AV.int .i64 (IntKind.wrap .i64 (nx + (1 : Int)))) = (AV.int .i64 n_8)) ∧
 (bif ((decide (((List.length t_4) + (List.length t_6)) ≤ (9223372036854775807 : Nat))) && true) then (∃ s_9 : (List UInt8), (((AV.str (t_4 ++ t_6)) = (AV.str s_9)) ∧
 (Q (Out.ret (AV.tup ((AV.agg ((AV.int .i64 e) :: ((AV.int .i64 n_8) :: ((AV.str key) :: ((AV.str salt) :: []))))) :: ((AV.str s_9) :: ((AV.int .i64 (0 : Int)) :: []))))) [] (Gh.mk (0 : Nat) (0 : Nat) []))))
else False))))))
else False)))))))))))))))
else (Q (Out.ret (AV.tup ((AV.agg ((AV.int .i64 (0 : Int)) :: ((AV.int .i64 (0 : Int)) :: ((AV.str []) :: ((AV.str []) :: []))))) :: ((AV.str []) :: ((AV.int .i64 (2 : Int)) :: []))))) [] (Gh.mk (0 : Nat) (0 : Nat) [])))
else (Q (Out.ret (AV.tup ((AV.agg ((AV.int .i64 (0 : Int)) :: ((AV.int .i64 (0 : Int)) :: ((AV.str []) :: ((AV.str []) :: []))))) :: ((AV.str []) :: ((AV.int .i64 (2 : Int)) :: []))))) [] (Gh.mk (0 : Nat) (0 : Nat) []))))))) := by kernel_rfl

theorem right17 {key nonce : List UInt8} (h1 : key.length = 32) (h2 : nonce.length = 12) : rightM key nonce 0 = true := by simp [rightM, h1, h2]
theorem sealed17 {key nonce extra plain : List UInt8} (h1 : key.length = 32) (h2 : nonce.length = 12) (h3 : extra.length ≤ 4096) (h4 : plain.length ≤ 4096) :
    sealM key nonce extra plain = (appM (firstM key nonce) 1 70 plain ++ checkM key nonce extra (appM (firstM key nonce) 1 70 plain), 0) := by
  rw [sealM, if_neg (by rw [right17 h1 h2]; simp), if_neg (by omega)]
theorem sealed17_len {key nonce extra plain : List UInt8} (h1 : key.length = 32) (h2 : nonce.length = 12) (h3 : extra.length ≤ 4096) (h4 : plain.length ≤ 4096) : (sealM key nonce extra plain).1.length = plain.length + 16 := by
  rw [sealed17 h1 h2 h3 h4]
  dsimp only
  rw [List.length_append, check_len, app_len _ _ _ _ (by omega)]
theorem box_len {e nx : Int} {key salt : List UInt8} {kind : Int} {body : List UInt8} (h1 : key.length = 32) (h2 : salt.length = 12) (h4 : body.length ≤ 984) : (boxM e nx key salt kind body).length = body.length + 27 := by
  rw [boxM, List.length_append, head_len, sealed17_len h1 (by rw [nonce_len]; exact h2) (by rw [head_len]; omega) (by omega)]
  omega
def cSealR : Con
  | [.agg [.int .i64 e, .int .i64 nx, .str key, .str salt], .int .i64 kind, .str body], H, K => Lf (sndOkM e nx key salt = true ∧ nx ≤ 281474976710655 ∧ (0 ≤ kind ∧ kind ≤ 255) ∧ body.length ≤ 984) ∧
      ∀ box, Lf (box = boxM e nx key salt kind body) → K (.ret (.tup [.agg [.int .i64 e, .int .i64 (nx + 1), .str key, .str salt], .str box, .int .i64 0])) H
  | _, _, _ => False
theorem sealR_run (e nx : Int) (key salt : List UInt8) (kind : Int) (body : List UInt8) (h1 : sndOkM e nx key salt = true) (h2 : nx ≤ 281474976710655) (h3 : 0 ≤ kind ∧ kind ≤ 255) (h4 : body.length ≤ 984) (Q : Out → List Blk → Gh → Prop)
    (hq : Q (.ret (.tup [.agg [.int .i64 e, .int .i64 (nx + 1), .str key, .str salt], .str (boxM e nx key salt kind body), .int .i64 0])) [] {}) : ∃ hv hb, goal_26m hv hb e nx key salt kind body Q := by
  obtain ⟨hv, hb', e'⟩ : ∃ hv hb, goal_26m hv hb e nx key salt kind body Q = _ := ⟨_, _, vc_26m e nx key salt kind body Q⟩
  refine ⟨hv, hb', e'.mpr ?_⟩
  clear e'
  rintro x ⟨rfl⟩
  obtain ⟨k1, k2, k3, k4, k5⟩ := (snd_iff e nx key salt).1 h1
  rw [h1]
  refine splitNE (fun h => absurd rfl h) (fun _ => splitD (fun _ => splitD (fun _ => ⟨_, rfl, splitD (fun h => absurd h (by omega)) (fun _ => splitE (fun h => absurd h (by omega)) (fun _ => ⟨_, rfl, wrapI (by omega) (by omega) ⟨⟨⟨h3, k1, k4, h2⟩, by omega, by omega⟩, ?_⟩⟩))⟩) (fun h => absurd h (by omega))) (fun h => absurd h (by omega)))
  rintro t ⟨ht⟩
  refine ⟨⟨k3, k1, k4, h2⟩, ?_⟩
  rintro x ⟨hx⟩
  refine ckI (by simp [eqAVL, eqAV, eqB_refl]) ?_
  rintro u f ⟨hu⟩
  have hul := sealed17_len (key := key) (nonce := x) (extra := t) (plain := body) k2 (by rw [hx, nonce_len]; exact k3) (by rw [ht, head_len]; omega) (by omega)
  have htl : t.length = 11 := by rw [ht]; exact head_len _ _
  have hb : t ++ u = boxM e nx key salt kind body := by rw [boxM, ← ht, ← hx, hu]
  rw [hu] at hul
  dsimp only at hul
  refine wrapI (by omega) (by omega) (ckI (by simp; omega) ⟨_, rfl, ?_⟩)
  rw [hb]
  exact hq
theorem sealR_ok : ValidF Try.prog gl0 26 cSealR := by
  refine valid_flat (enters_of (by kernel_rfl)) gl0_noY fun args H Q hc => ?_
  unfold cSealR at hc
  split at hc
  · rename_i e nx key salt kind body
    obtain ⟨⟨h1, h2, h3, h4⟩, hq⟩ := hc
    obtain ⟨hv, hb', h⟩ := sealR_run e nx key salt kind body h1 h2 h3 h4 (Q := fun o H' _ => H' = [] ∧ (∃ v, o = .ret v ∧ old 0 v = true ∧ noY v = true) ∧ Q o H) ⟨rfl, ⟨_, rfl, rfl, rfl⟩, hq _ ⟨rfl⟩⟩
    exact ⟨rfl, rfl, _, 1000, envFor04 smS_ok _ _ _, rfl, h⟩
  · exact hc.elim
end Go.Proofs.Ytiholnebhmjbjaa

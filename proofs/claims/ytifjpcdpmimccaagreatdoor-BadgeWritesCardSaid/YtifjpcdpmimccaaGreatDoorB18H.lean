/-
  Chapter 18: the program's digest: mix, add, end, sum, Sum as contracts.
-/
import Derived.Test.YtifjpcdpmimccaaGreatDoorB18G
set_option linter.unusedSimpArgs false
set_option linter.unusedVariables false
set_option linter.unusedSectionVars false
namespace Go.Proofs.YtifjpcdpmimccaaGreatDoor
open Go.RowKit
set_option maxRecDepth 1000000

abbrev okK (kk : List Nat) : Prop := kk.length = 64 ∧ ∀ i, kk.getD i 0 < 4294967296
def gMix : List AV → List AV → (Out → List AV → Prop) → Prop
  | [.str s, .agg ks], cs, R => ∃ (v : W8) (kk : List Nat) (t : List UInt8) (n : Int), Lf (cs = celT v t n ∧ ks = cells32M kk ∧ okK kk ∧ okW8 v ∧ s.length ≤ 9223372036854775807) ∧ ∀ v', Lf (v' = mixM kk (s.length / 64) v s ∧ okW8 v') → R (.ret (.tup [])) (celT v' t n)
  | _, _, _ => False
theorem celT_old (m : Nat) (v : W8) (t : List UInt8) (n : Int) : oldL m (celT v t n) = true := rfl
theorem celT_noY (v : W8) (t : List UInt8) (n : Int) : noYL (celT v t n) = true := rfl
theorem mix_ok : ValidF Tryz.prog gl0 154 (ptrC 10 gMix) := by
  refine valid_ptr (enters_of (by kernel_rfl)) gl0_noY fun rest cs R h1 h2 h3 h4 hg => ?_
  unfold gMix at hg
  split at hg
  · rename_i s ks
    obtain ⟨v, kk, t, n, ⟨rfl, rfl, ⟨k1, k2⟩, k3, k4⟩, hq⟩ := hg
    obtain ⟨hv, hb', h⟩ := mix_run v t n s kk k3 k1 k2 k4 (Q := fun o H' _ => ∃ cs', H' = [⟨.exact, true, cs'⟩] ∧ oldL 0 cs' = true ∧ noYL cs' = true ∧ (∃ v, o = .ret v ∧ old 0 v = true ∧ noY v = true) ∧ R o cs') (fun v' e1 e2 k => ⟨_, rfl, rfl, rfl, ⟨_, rfl, rfl, rfl⟩, hq v' ⟨e1, e2⟩⟩)
    exact ⟨_, 1000, envFor18 smX_ok _ _ _, rfl, h⟩
  · exact hg.elim
def smH : SM := lookS [(154, ptrC 10 gMix), (161, cClone)]
theorem smH_ok : ∀ f g, smH f = some g → ValidF Tryz.prog gl0 f g := lookS_ok _ (by simp only [List.mem_cons, List.not_mem_nil, or_false, forall_eq_or_imp, forall_eq]; exact ⟨mix_ok, clone_ok⟩)
noncomputable def goal_133 (hv : Nat → Option Pa) (hb : Nat → Option Bool) (v : W8) (t : List UInt8) (n : Int) (s : List UInt8) (ks : List Nat) (Q : Out → List Blk → Gh → Prop) : Prop :=
  callx (e18 smH (fun _ => none) hv hb) (wpx (e18 smH (fun _ => none) hv hb) 1000) 133 [.ptr 0 10 0, .str s, .agg (cells32M ks)] [⟨.exact, true, celT v t n⟩] {} Q
theorem vc_133 (v : W8) (t : List UInt8) (n : Int) (s : List UInt8) (ks : List Nat) (Q : Out → List Blk → Gh → Prop) : goal_133 (lookV [(544781, .str), (544789, .int .i64), (544790, .int .i64), (544791, .int .i64), (544792, .str), (544803, .int .i64), (544804, .int .i64)]) (lookB [(638974, true)]) v t n s ks Q = (
(bif ((decide (((List.length t) + (List.length s)) ≤ (9223372036854775807 : Nat))) && true) then (∃ s_0 : (List UInt8), (((AV.str (t ++ s)) = (AV.str s_0)) ∧
 (bif ((Nat.beq (List.length (cells32M ks)) (List.length (cells32M ks))) && (Nat.ble (64 : Nat) (List.length (cells32M ks)))) then ((Lf (((Nat.blt (0 : Nat) (List.length ((Blk.mk BK.exact true ((AV.int .u32 (Nat.cast (v).1 : Int)) :: ((AV.int .u32 (Nat.cast (v).2 : Int)) :: ((AV.int .u32 (Nat.cast (v).3 : Int)) :: ((AV.int .u32 (Nat.cast (v).4 : Int)) :: ((AV.int .u32 (Nat.cast (v).5 : Int)) :: ((AV.int .u32 (Nat.cast (v).6 : Int)) :: ((AV.int .u32 (Nat.cast (v).7 : Int)) :: ((AV.int .u32 (Nat.cast (v).8 : Int)) :: ((AV.str t) :: ((AV.int .i64 n) :: []))))))))))) :: ((Blk.mk BK.exact (oldL (0 : Nat) (cells32M ks)) (cells32M ks)) :: [])))) = true) ∧
 (((10 : Nat) = (10 : Nat)) ∧
 (((oldL (0 : Nat) ((AV.str s_0) :: ((AV.agg (List.take (64 : Nat) (List.drop (0 : Nat) (cells32M ks)))) :: []))) = true) ∧
 (((noYL ((AV.str s_0) :: ((AV.agg (List.take (64 : Nat) (List.drop (0 : Nat) (cells32M ks)))) :: []))) = true) ∧
 (((oldL (0 : Nat) ((AV.int .u32 (Nat.cast (v).1 : Int)) :: ((AV.int .u32 (Nat.cast (v).2 : Int)) :: ((AV.int .u32 (Nat.cast (v).3 : Int)) :: ((AV.int .u32 (Nat.cast (v).4 : Int)) :: ((AV.int .u32 (Nat.cast (v).5 : Int)) :: ((AV.int .u32 (Nat.cast (v).6 : Int)) :: ((AV.int .u32 (Nat.cast (v).7 : Int)) :: ((AV.int .u32 (Nat.cast (v).8 : Int)) :: ((AV.str t) :: ((AV.int .i64 n) :: []))))))))))) = true) ∧
 ((noYL ((AV.int .u32 (Nat.cast (v).1 : Int)) :: ((AV.int .u32 (Nat.cast (v).2 : Int)) :: ((AV.int .u32 (Nat.cast (v).3 : Int)) :: ((AV.int .u32 (Nat.cast (v).4 : Int)) :: ((AV.int .u32 (Nat.cast (v).5 : Int)) :: ((AV.int .u32 (Nat.cast (v).6 : Int)) :: ((AV.int .u32 (Nat.cast (v).7 : Int)) :: ((AV.int .u32 (Nat.cast (v).8 : Int)) :: ((AV.str t) :: ((AV.int .i64 n) :: []))))))))))) = true))))))) ∧
 (∃ v_1 : W8, (∃ kk_2 : (List Nat), (∃ t_3 : (List UInt8), (∃ n_4 : Int, ((Lf ((((AV.int .u32 (Nat.cast (v).1 : Int)) :: ((AV.int .u32 (Nat.cast (v).2 : Int)) :: ((AV.int .u32 (Nat.cast (v).3 : Int)) :: ((AV.int .u32 (Nat.cast (v).4 : Int)) :: ((AV.int .u32 (Nat.cast (v).5 : Int)) :: ((AV.int .u32 (Nat.cast (v).6 : Int)) :: ((AV.int .u32 (Nat.cast (v).7 : Int)) :: ((AV.int .u32 (Nat.cast (v).8 : Int)) :: ((AV.str t) :: ((AV.int .i64 n) :: [])))))))))) = ((AV.int .u32 (Nat.cast (v_1).1 : Int)) :: ((AV.int .u32 (Nat.cast (v_1).2 : Int)) :: ((AV.int .u32 (Nat.cast (v_1).3 : Int)) :: ((AV.int .u32 (Nat.cast (v_1).4 : Int)) :: ((AV.int .u32 (Nat.cast (v_1).5 : Int)) :: ((AV.int .u32 (Nat.cast (v_1).6 : Int)) :: ((AV.int .u32 (Nat.cast (v_1).7 : Int)) :: ((AV.int .u32 (Nat.cast (v_1).8 : Int)) :: ((AV.str t_3) :: ((AV.int .i64 n_4) :: []))))))))))) ∧
 (((List.take (64 : Nat) (List.drop (0 : Nat) (cells32M ks))) = (cells32M kk_2)) ∧
 ((okK kk_2) ∧
 ((okW8 v_1) ∧
 ((List.length s_0) ≤ (9223372036854775807 : Nat))))))) ∧
 (∀ v'_5 : W8, ((Lf ((v'_5 = (mixM kk_2 ((List.length s_0) / (64 : Nat)) v_1 s_0)) ∧
 (okW8 v'_5))) →
(∃ n_6 : Int, (((AV.int .i64 (Nat.cast (List.length s_0) : Int)) = (AV.int .i64 n_6)) ∧
 (∃ n_7 : Int, (((AV.int .i64 (IntKind.wrap .i64 (Int.tdiv n_6 (64 : Int)))) = (AV.int .i64 n_7)) ∧
 (∃ n_8 : Int, (((AV.int .i64 (IntKind.wrap .i64 (n_7 * (64 : Int)))) = (AV.int .i64 n_8)) ∧
 (bif ((((decide ((0 : Int) ≤ n_8)) && true) && (Nat.ble (Int.toNat n_8) (List.length s_0))) && (Nat.ble (List.length s_0) (List.length s_0))) then (∃ s_9 : (List UInt8), (((AV.str (List.take ((List.length s_0) - (Int.toNat n_8)) (List.drop (Int.toNat n_8) s_0))) = (AV.str s_9)) ∧
 (bif (Nat.ble (List.length s_9) (281474976710656 : Nat)) then (((((oldL (0 : Nat) (cells32M ks)) || (oldL (2 : Nat) (cells32M ks))) && true) = true) ∧
 (∃ n_10 : Int, (((AV.int .i64 (Nat.cast (List.length s) : Int)) = (AV.int .i64 n_10)) ∧
 (∃ n_11 : Int, (((AV.int .i64 (IntKind.wrap .i64 (n_4 + n_10))) = (AV.int .i64 n_11)) ∧
 (Q (Out.ret (AV.tup [])) ((Blk.mk BK.exact true ((AV.int .u32 (Nat.cast (v'_5).1 : Int)) :: ((AV.int .u32 (Nat.cast (v'_5).2 : Int)) :: ((AV.int .u32 (Nat.cast (v'_5).3 : Int)) :: ((AV.int .u32 (Nat.cast (v'_5).4 : Int)) :: ((AV.int .u32 (Nat.cast (v'_5).5 : Int)) :: ((AV.int .u32 (Nat.cast (v'_5).6 : Int)) :: ((AV.int .u32 (Nat.cast (v'_5).7 : Int)) :: ((AV.int .u32 (Nat.cast (v'_5).8 : Int)) :: ((AV.str s_9) :: ((AV.int .i64 n_11) :: []))))))))))) :: []) (Gh.mk (0 : Nat) (0 : Nat) [])))))))
else False)))
else False)))))))))))))))
else False)))
else False)) := by kernel_rfl

noncomputable def goal_134 (hv : Nat → Option Pa) (hb : Nat → Option Bool) (v : W8) (t : List UInt8) (n : Int) (ks : List Nat) (Q : Out → List Blk → Gh → Prop) : Prop :=
  callx (e18 smH (fun _ => none) hv hb) (wpx (e18 smH (fun _ => none) hv hb) 1000) 134 [.agg (celT v t n), .agg (cells32M ks)] [] {} Q
theorem vc_134 (v : W8) (t : List UInt8) (n : Int) (ks : List Nat) (Q : Out → List Blk → Gh → Prop) : goal_134 (lookV [(548878, .str), (548882, .int .i64), (548883, .int .i64), (548884, .int .i64), (548886, .str), (548887, .str), (548891, .int .u64), (548892, .int .u64), (548900, .int .u64), (548901, .int .u8), (548903, .str), (548904, .str), (548910, .agg [(.int .u32), (.int .u32), (.int .u32), (.int .u32), (.int .u32), (.int .u32), (.int .u32), (.int .u32)]), (548916, .int .u32), (548917, .int .u8), (548919, .int .u32), (548920, .int .u8), (548922, .int .u32), (548923, .int .u8), (548925, .int .u8), (548930, .str)]) (lookB [(1548864000, false), (1548872192, false)]) v t n ks Q = (
(bif ((decide (((List.length t) + (1 : Nat)) ≤ (9223372036854775807 : Nat))) && true) then (∃ s_0 : (List UInt8), (((AV.str (t ++ ((UInt8.ofNat (128 : Nat)) :: []))) = (AV.str s_0)) ∧
 (∃ n_1 : Int, (((AV.int .i64 (Nat.cast (List.length t) : Int)) = (AV.int .i64 n_1)) ∧
 (∃ n_2 : Int, (((AV.int .i64 (IntKind.wrap .i64 ((119 : Int) - n_1))) = (AV.int .i64 n_2)) ∧
 (∃ n_3 : Int, (((AV.int .i64 (Int.tmod n_2 (64 : Int))) = (AV.int .i64 n_3)) ∧
 (bif ((((decide ((0 : Int) ≤ n_3)) && (decide (n_3 ≤ n_3))) && (decide (n_3 ≤ (1099511627776 : Int)))) && (decide ((n_3 * (1 : Int)) ≤ (1099511627776 : Int)))) then (bif ((((Nat.beq (List.length (List.flatten (List.replicate (Int.toNat n_3) ((AV.int .u8 (0 : Int)) :: [])))) ((Int.toNat n_3) * (1 : Nat))) && (Nat.ble ((0 : Nat) + (Int.toNat n_3)) ((Int.toNat n_3) * (1 : Nat)))) && true) && (allU8 (List.take (Int.toNat n_3) (List.drop (0 : Nat) (List.flatten (List.replicate (Int.toNat n_3) ((AV.int .u8 (0 : Int)) :: []))))))) then (∃ s_4 : (List UInt8), (((AV.str (List.map toB (List.take (Int.toNat n_3) (List.drop (0 : Nat) (List.flatten (List.replicate (Int.toNat n_3) ((AV.int .u8 (0 : Int)) :: []))))))) = (AV.str s_4)) ∧
 (bif ((decide (((List.length s_0) + (List.length s_4)) ≤ (9223372036854775807 : Nat))) && true) then (∃ s_5 : (List UInt8), (((AV.str (s_0 ++ s_4)) = (AV.str s_5)) ∧
 (∃ n_6 : Int, (((AV.int .u64 (IntKind.wrap .u64 n)) = (AV.int .u64 n_6)) ∧
 (∃ n_7 : Int, (((AV.int .u64 (IntKind.wrap .u64 (n_6 * (8 : Int)))) = (AV.int .u64 n_7)) ∧
 (∃ n_8 : Int, (((AV.int .u64 (Int.fdiv n_7 (72057594037927936 : Int))) = (AV.int .u64 n_8)) ∧
 (∃ n_9 : Int, (((AV.int .u8 (IntKind.wrap .u8 n_8)) = (AV.int .u8 n_9)) ∧
 (∃ s_10 : (List UInt8), (((AV.str ((toB (AV.int .u8 n_9)) :: [])) = (AV.str s_10)) ∧
 (bif ((decide (((List.length s_5) + (List.length s_10)) ≤ (9223372036854775807 : Nat))) && true) then (∃ s_11 : (List UInt8), (((AV.str (s_5 ++ s_10)) = (AV.str s_11)) ∧
 (∃ n_12 : Int, (((AV.int .u64 (Int.fdiv n_7 (281474976710656 : Int))) = (AV.int .u64 n_12)) ∧
 (∃ n_13 : Int, (((AV.int .u8 (IntKind.wrap .u8 n_12)) = (AV.int .u8 n_13)) ∧
 (∃ s_14 : (List UInt8), (((AV.str ((toB (AV.int .u8 n_13)) :: [])) = (AV.str s_14)) ∧
 (bif ((decide (((List.length s_11) + (List.length s_14)) ≤ (9223372036854775807 : Nat))) && true) then (∃ s_15 : (List UInt8), (((AV.str (s_11 ++ s_14)) = (AV.str s_15)) ∧
 (∃ n_16 : Int, (((AV.int .u64 (Int.fdiv n_7 (1099511627776 : Int))) = (AV.int .u64 n_16)) ∧
 (∃ n_17 : Int, (((AV.int .u8 (IntKind.wrap .u8 n_16)) = (AV.int .u8 n_17)) ∧
 (∃ s_18 : (List UInt8), (((AV.str ((toB (AV.int .u8 n_17)) :: [])) = (AV.str s_18)) ∧
 (bif ((decide (((List.length s_15) + (List.length s_18)) ≤ (9223372036854775807 : Nat))) && true) then (∃ s_19 : (List UInt8), (((AV.str (s_15 ++ s_18)) = (AV.str s_19)) ∧
 (∃ n_20 : Int, (((AV.int .u64 (Int.fdiv n_7 (4294967296 : Int))) = (AV.int .u64 n_20)) ∧
 (∃ n_21 : Int, (((AV.int .u8 (IntKind.wrap .u8 n_20)) = (AV.int .u8 n_21)) ∧
 (∃ s_22 : (List UInt8), (((AV.str ((toB (AV.int .u8 n_21)) :: [])) = (AV.str s_22)) ∧
 (bif ((decide (((List.length s_19) + (List.length s_22)) ≤ (9223372036854775807 : Nat))) && true) then (∃ s_23 : (List UInt8), (((AV.str (s_19 ++ s_22)) = (AV.str s_23)) ∧
 (∃ n_24 : Int, (((AV.int .u64 (Int.fdiv n_7 (16777216 : Int))) = (AV.int .u64 n_24)) ∧
 (∃ n_25 : Int, (((AV.int .u8 (IntKind.wrap .u8 n_24)) = (AV.int .u8 n_25)) ∧
 (∃ s_26 : (List UInt8), (((AV.str ((toB (AV.int .u8 n_25)) :: [])) = (AV.str s_26)) ∧
 (bif ((decide (((List.length s_23) + (List.length s_26)) ≤ (9223372036854775807 : Nat))) && true) then (∃ s_27 : (List UInt8), (((AV.str (s_23 ++ s_26)) = (AV.str s_27)) ∧
 (∃ n_28 : Int, (((AV.int .u64 (Int.fdiv n_7 (65536 : Int))) = (AV.int .u64 n_28)) ∧
 (∃ n_29 : Int, (((AV.int .u8 (IntKind.wrap .u8 n_28)) = (AV.int .u8 n_29)) ∧
 (∃ s_30 : (List UInt8), (((AV.str ((toB (AV.int .u8 n_29)) :: [])) = (AV.str s_30)) ∧
 (bif ((decide (((List.length s_27) + (List.length s_30)) ≤ (9223372036854775807 : Nat))) && true) then (∃ s_31 : (List UInt8), (((AV.str (s_27 ++ s_30)) = (AV.str s_31)) ∧
 (∃ n_32 : Int, (((AV.int .u64 (Int.fdiv n_7 (256 : Int))) = (AV.int .u64 n_32)) ∧
 (∃ n_33 : Int, (((AV.int .u8 (IntKind.wrap .u8 n_32)) = (AV.int .u8 n_33)) ∧
 (∃ s_34 : (List UInt8), (((AV.str ((toB (AV.int .u8 n_33)) :: [])) = (AV.str s_34)) ∧
 (bif ((decide (((List.length s_31) + (List.length s_34)) ≤ (9223372036854775807 : Nat))) && true) then (∃ s_35 : (List UInt8), (((AV.str (s_31 ++ s_34)) = (AV.str s_35)) ∧
 (∃ n_36 : Int, (((AV.int .u64 (Int.fdiv n_7 (1 : Int))) = (AV.int .u64 n_36)) ∧
 (∃ n_37 : Int, (((AV.int .u8 (IntKind.wrap .u8 n_36)) = (AV.int .u8 n_37)) ∧
 (∃ s_38 : (List UInt8), (((AV.str ((toB (AV.int .u8 n_37)) :: [])) = (AV.str s_38)) ∧
 (bif ((decide (((List.length s_35) + (List.length s_38)) ≤ (9223372036854775807 : Nat))) && true) then (∃ s_39 : (List UInt8), (((AV.str (s_35 ++ s_38)) = (AV.str s_39)) ∧
 (bif ((Nat.beq (List.length (cells32M ks)) (List.length (cells32M ks))) && (Nat.ble (64 : Nat) (List.length (cells32M ks)))) then ((Lf (((Nat.blt (0 : Nat) (List.length ((Blk.mk BK.exact true ((AV.int .u32 (Nat.cast (v).1 : Int)) :: ((AV.int .u32 (Nat.cast (v).2 : Int)) :: ((AV.int .u32 (Nat.cast (v).3 : Int)) :: ((AV.int .u32 (Nat.cast (v).4 : Int)) :: ((AV.int .u32 (Nat.cast (v).5 : Int)) :: ((AV.int .u32 (Nat.cast (v).6 : Int)) :: ((AV.int .u32 (Nat.cast (v).7 : Int)) :: ((AV.int .u32 (Nat.cast (v).8 : Int)) :: ((AV.str t) :: ((AV.int .i64 n) :: []))))))))))) :: ((Blk.mk BK.exact (oldL (0 : Nat) (cells32M ks)) (cells32M ks)) :: ((Blk.mk BK.exact (oldL (0 : Nat) (List.flatten (List.replicate (Int.toNat n_3) ((AV.int .u8 (0 : Int)) :: [])))) (List.flatten (List.replicate (Int.toNat n_3) ((AV.int .u8 (0 : Int)) :: [])))) :: ((Blk.mk BK.exact true ((AV.int .u8 n_9) :: [])) :: ((Blk.mk BK.exact true ((AV.int .u8 n_13) :: [])) :: ((Blk.mk BK.exact true ((AV.int .u8 n_17) :: [])) :: ((Blk.mk BK.exact true ((AV.int .u8 n_21) :: [])) :: ((Blk.mk BK.exact true ((AV.int .u8 n_25) :: [])) :: ((Blk.mk BK.exact true ((AV.int .u8 n_29) :: [])) :: ((Blk.mk BK.exact true ((AV.int .u8 n_33) :: [])) :: ((Blk.mk BK.exact true ((AV.int .u8 n_37) :: [])) :: []))))))))))))) = true) ∧
 (((10 : Nat) = (10 : Nat)) ∧
 (((oldL (0 : Nat) ((AV.str s_39) :: ((AV.agg (List.take (64 : Nat) (List.drop (0 : Nat) (cells32M ks)))) :: []))) = true) ∧
 (((noYL ((AV.str s_39) :: ((AV.agg (List.take (64 : Nat) (List.drop (0 : Nat) (cells32M ks)))) :: []))) = true) ∧
 (((oldL (0 : Nat) ((AV.int .u32 (Nat.cast (v).1 : Int)) :: ((AV.int .u32 (Nat.cast (v).2 : Int)) :: ((AV.int .u32 (Nat.cast (v).3 : Int)) :: ((AV.int .u32 (Nat.cast (v).4 : Int)) :: ((AV.int .u32 (Nat.cast (v).5 : Int)) :: ((AV.int .u32 (Nat.cast (v).6 : Int)) :: ((AV.int .u32 (Nat.cast (v).7 : Int)) :: ((AV.int .u32 (Nat.cast (v).8 : Int)) :: ((AV.str t) :: ((AV.int .i64 n) :: []))))))))))) = true) ∧
 ((noYL ((AV.int .u32 (Nat.cast (v).1 : Int)) :: ((AV.int .u32 (Nat.cast (v).2 : Int)) :: ((AV.int .u32 (Nat.cast (v).3 : Int)) :: ((AV.int .u32 (Nat.cast (v).4 : Int)) :: ((AV.int .u32 (Nat.cast (v).5 : Int)) :: ((AV.int .u32 (Nat.cast (v).6 : Int)) :: ((AV.int .u32 (Nat.cast (v).7 : Int)) :: ((AV.int .u32 (Nat.cast (v).8 : Int)) :: ((AV.str t) :: ((AV.int .i64 n) :: []))))))))))) = true))))))) ∧
 (∃ v_40 : W8, (∃ kk_41 : (List Nat), (∃ t_42 : (List UInt8), (∃ n_43 : Int, ((Lf ((((AV.int .u32 (Nat.cast (v).1 : Int)) :: ((AV.int .u32 (Nat.cast (v).2 : Int)) :: ((AV.int .u32 (Nat.cast (v).3 : Int)) :: ((AV.int .u32 (Nat.cast (v).4 : Int)) :: ((AV.int .u32 (Nat.cast (v).5 : Int)) :: ((AV.int .u32 (Nat.cast (v).6 : Int)) :: ((AV.int .u32 (Nat.cast (v).7 : Int)) :: ((AV.int .u32 (Nat.cast (v).8 : Int)) :: ((AV.str t) :: ((AV.int .i64 n) :: [])))))))))) = ((AV.int .u32 (Nat.cast (v_40).1 : Int)) :: ((AV.int .u32 (Nat.cast (v_40).2 : Int)) :: ((AV.int .u32 (Nat.cast (v_40).3 : Int)) :: ((AV.int .u32 (Nat.cast (v_40).4 : Int)) :: ((AV.int .u32 (Nat.cast (v_40).5 : Int)) :: ((AV.int .u32 (Nat.cast (v_40).6 : Int)) :: ((AV.int .u32 (Nat.cast (v_40).7 : Int)) :: ((AV.int .u32 (Nat.cast (v_40).8 : Int)) :: ((AV.str t_42) :: ((AV.int .i64 n_43) :: []))))))))))) ∧
 (((List.take (64 : Nat) (List.drop (0 : Nat) (cells32M ks))) = (cells32M kk_41)) ∧
 ((okK kk_41) ∧
 ((okW8 v_40) ∧
 ((List.length s_39) ≤ (9223372036854775807 : Nat))))))) ∧
 (∀ v'_44 : W8, ((Lf ((v'_44 = (mixM kk_41 ((List.length s_39) / (64 : Nat)) v_40 s_39)) ∧
 (okW8 v'_44))) →
(∃ n_45 : Int, (∃ n_46 : Int, (∃ n_47 : Int, (∃ n_48 : Int, (∃ n_49 : Int, (∃ n_50 : Int, (∃ n_51 : Int, (∃ n_52 : Int, (((AV.agg ((AV.int .u32 (Nat.cast (v'_44).1 : Int)) :: ((AV.int .u32 (Nat.cast (v'_44).2 : Int)) :: ((AV.int .u32 (Nat.cast (v'_44).3 : Int)) :: ((AV.int .u32 (Nat.cast (v'_44).4 : Int)) :: ((AV.int .u32 (Nat.cast (v'_44).5 : Int)) :: ((AV.int .u32 (Nat.cast (v'_44).6 : Int)) :: ((AV.int .u32 (Nat.cast (v'_44).7 : Int)) :: ((AV.int .u32 (Nat.cast (v'_44).8 : Int)) :: []))))))))) = (AV.agg ((AV.int .u32 n_45) :: ((AV.int .u32 n_46) :: ((AV.int .u32 n_47) :: ((AV.int .u32 n_48) :: ((AV.int .u32 n_49) :: ((AV.int .u32 n_50) :: ((AV.int .u32 n_51) :: ((AV.int .u32 n_52) :: [])))))))))) ∧
 (∃ n_53 : Int, (((AV.int .u32 (Int.fdiv n_45 (16777216 : Int))) = (AV.int .u32 n_53)) ∧
 (∃ n_54 : Int, (((AV.int .u8 (IntKind.wrap .u8 n_53)) = (AV.int .u8 n_54)) ∧
 (∃ n_55 : Int, (((AV.int .u32 (Int.fdiv n_45 (65536 : Int))) = (AV.int .u32 n_55)) ∧
 (∃ n_56 : Int, (((AV.int .u8 (IntKind.wrap .u8 n_55)) = (AV.int .u8 n_56)) ∧
 (∃ n_57 : Int, (((AV.int .u32 (Int.fdiv n_45 (256 : Int))) = (AV.int .u32 n_57)) ∧
 (∃ n_58 : Int, (((AV.int .u8 (IntKind.wrap .u8 n_57)) = (AV.int .u8 n_58)) ∧
 (∃ n_59 : Int, (((AV.int .u8 (IntKind.wrap .u8 n_45)) = (AV.int .u8 n_59)) ∧
 (∃ n_60 : Int, (((AV.int .u32 (Int.fdiv n_46 (16777216 : Int))) = (AV.int .u32 n_60)) ∧
 (∃ n_61 : Int, (((AV.int .u8 (IntKind.wrap .u8 n_60)) = (AV.int .u8 n_61)) ∧
 (∃ n_62 : Int, (((AV.int .u32 (Int.fdiv n_46 (65536 : Int))) = (AV.int .u32 n_62)) ∧
 (∃ n_63 : Int, (((AV.int .u8 (IntKind.wrap .u8 n_62)) = (AV.int .u8 n_63)) ∧
 (∃ n_64 : Int, (((AV.int .u32 (Int.fdiv n_46 (256 : Int))) = (AV.int .u32 n_64)) ∧
 (∃ n_65 : Int, (((AV.int .u8 (IntKind.wrap .u8 n_64)) = (AV.int .u8 n_65)) ∧
 (∃ n_66 : Int, (((AV.int .u8 (IntKind.wrap .u8 n_46)) = (AV.int .u8 n_66)) ∧
 (∃ n_67 : Int, (((AV.int .u32 (Int.fdiv n_47 (16777216 : Int))) = (AV.int .u32 n_67)) ∧
 (∃ n_68 : Int, (((AV.int .u8 (IntKind.wrap .u8 n_67)) = (AV.int .u8 n_68)) ∧
 (∃ n_69 : Int, (((AV.int .u32 (Int.fdiv n_47 (65536 : Int))) = (AV.int .u32 n_69)) ∧
 (∃ n_70 : Int, (((AV.int .u8 (IntKind.wrap .u8 n_69)) = (AV.int .u8 n_70)) ∧
 (∃ n_71 : Int, (((AV.int .u32 (Int.fdiv n_47 (256 : Int))) = (AV.int .u32 n_71)) ∧
 (∃ n_72 : Int, (((AV.int .u8 (IntKind.wrap .u8 n_71)) = (AV.int .u8 n_72)) ∧
 (∃ n_73 : Int, (((AV.int .u8 (IntKind.wrap .u8 n_47)) = (AV.int .u8 n_73)) ∧
 (∃ n_74 : Int, (((AV.int .u32 (Int.fdiv n_48 (16777216 : Int))) = (AV.int .u32 n_74)) ∧
 (∃ n_75 : Int, (((AV.int .u8 (IntKind.wrap .u8 n_74)) = (AV.int .u8 n_75)) ∧
 (∃ n_76 : Int, (((AV.int .u32 (Int.fdiv n_48 (65536 : Int))) = (AV.int .u32 n_76)) ∧
 (∃ n_77 : Int, (((AV.int .u8 (IntKind.wrap .u8 n_76)) = (AV.int .u8 n_77)) ∧
 (∃ n_78 : Int, (((AV.int .u32 (Int.fdiv n_48 (256 : Int))) = (AV.int .u32 n_78)) ∧
 (∃ n_79 : Int, (((AV.int .u8 (IntKind.wrap .u8 n_78)) = (AV.int .u8 n_79)) ∧
 (∃ n_80 : Int, (((AV.int .u8 (IntKind.wrap .u8 n_48)) = (AV.int .u8 n_80)) ∧
 (∃ n_81 : Int, (((AV.int .u32 (Int.fdiv n_49 (16777216 : Int))) = (AV.int .u32 n_81)) ∧
 (∃ n_82 : Int, (((AV.int .u8 (IntKind.wrap .u8 n_81)) = (AV.int .u8 n_82)) ∧
 (∃ n_83 : Int, (((AV.int .u32 (Int.fdiv n_49 (65536 : Int))) = (AV.int .u32 n_83)) ∧
 (∃ n_84 : Int, (((AV.int .u8 (IntKind.wrap .u8 n_83)) = (AV.int .u8 n_84)) ∧
 (∃ n_85 : Int, (((AV.int .u32 (Int.fdiv n_49 (256 : Int))) = (AV.int .u32 n_85)) ∧
 (∃ n_86 : Int, (((AV.int .u8 (IntKind.wrap .u8 n_85)) = (AV.int .u8 n_86)) ∧
 (∃ n_87 : Int, (((AV.int .u8 (IntKind.wrap .u8 n_49)) = (AV.int .u8 n_87)) ∧
 (∃ n_88 : Int, (((AV.int .u32 (Int.fdiv n_50 (16777216 : Int))) = (AV.int .u32 n_88)) ∧
 (∃ n_89 : Int, (((AV.int .u8 (IntKind.wrap .u8 n_88)) = (AV.int .u8 n_89)) ∧
 (∃ n_90 : Int, (((AV.int .u32 (Int.fdiv n_50 (65536 : Int))) = (AV.int .u32 n_90)) ∧
 (∃ n_91 : Int, (((AV.int .u8 (IntKind.wrap .u8 n_90)) = (AV.int .u8 n_91)) ∧
 (∃ n_92 : Int, (((AV.int .u32 (Int.fdiv n_50 (256 : Int))) = (AV.int .u32 n_92)) ∧
 (∃ n_93 : Int, (((AV.int .u8 (IntKind.wrap .u8 n_92)) = (AV.int .u8 n_93)) ∧
 (∃ n_94 : Int, (((AV.int .u8 (IntKind.wrap .u8 n_50)) = (AV.int .u8 n_94)) ∧
 (∃ n_95 : Int, (((AV.int .u32 (Int.fdiv n_51 (16777216 : Int))) = (AV.int .u32 n_95)) ∧
 (∃ n_96 : Int, (((AV.int .u8 (IntKind.wrap .u8 n_95)) = (AV.int .u8 n_96)) ∧
 (∃ n_97 : Int, (((AV.int .u32 (Int.fdiv n_51 (65536 : Int))) = (AV.int .u32 n_97)) ∧
 (∃ n_98 : Int, (((AV.int .u8 (IntKind.wrap .u8 n_97)) = (AV.int .u8 n_98)) ∧
 (∃ n_99 : Int, (((AV.int .u32 (Int.fdiv n_51 (256 : Int))) = (AV.int .u32 n_99)) ∧
 (∃ n_100 : Int, (((AV.int .u8 (IntKind.wrap .u8 n_99)) = (AV.int .u8 n_100)) ∧
 (∃ n_101 : Int, (((AV.int .u8 (IntKind.wrap .u8 n_51)) = (AV.int .u8 n_101)) ∧
 (∃ n_102 : Int, (((AV.int .u32 (Int.fdiv n_52 (16777216 : Int))) = (AV.int .u32 n_102)) ∧
 (∃ n_103 : Int, (((AV.int .u8 (IntKind.wrap .u8 n_102)) = (AV.int .u8 n_103)) ∧
 (∃ n_104 : Int, (((AV.int .u32 (Int.fdiv n_52 (65536 : Int))) = (AV.int .u32 n_104)) ∧
 (∃ n_105 : Int, (((AV.int .u8 (IntKind.wrap .u8 n_104)) = (AV.int .u8 n_105)) ∧
 (∃ n_106 : Int, (((AV.int .u32 (Int.fdiv n_52 (256 : Int))) = (AV.int .u32 n_106)) ∧
 (∃ n_107 : Int, (((AV.int .u8 (IntKind.wrap .u8 n_106)) = (AV.int .u8 n_107)) ∧
 (∃ n_108 : Int, (((AV.int .u8 (IntKind.wrap .u8 n_52)) = (AV.int .u8 n_108)) ∧
 (∃ s_109 : (List UInt8), (((AV.str ((toB (AV.int .u8 n_54)) :: ((toB (AV.int .u8 n_56)) :: ((toB (AV.int .u8 n_58)) :: ((toB (AV.int .u8 n_59)) :: ((toB (AV.int .u8 n_61)) :: ((toB (AV.int .u8 n_63)) :: ((toB (AV.int .u8 n_65)) :: ((toB (AV.int .u8 n_66)) :: ((toB (AV.int .u8 n_68)) :: ((toB (AV.int .u8 n_70)) :: ((toB (AV.int .u8 n_72)) :: ((toB (AV.int .u8 n_73)) :: ((toB (AV.int .u8 n_75)) :: ((toB (AV.int .u8 n_77)) :: ((toB (AV.int .u8 n_79)) :: ((toB (AV.int .u8 n_80)) :: ((toB (AV.int .u8 n_82)) :: ((toB (AV.int .u8 n_84)) :: ((toB (AV.int .u8 n_86)) :: ((toB (AV.int .u8 n_87)) :: ((toB (AV.int .u8 n_89)) :: ((toB (AV.int .u8 n_91)) :: ((toB (AV.int .u8 n_93)) :: ((toB (AV.int .u8 n_94)) :: ((toB (AV.int .u8 n_96)) :: ((toB (AV.int .u8 n_98)) :: ((toB (AV.int .u8 n_100)) :: ((toB (AV.int .u8 n_101)) :: ((toB (AV.int .u8 n_103)) :: ((toB (AV.int .u8 n_105)) :: ((toB (AV.int .u8 n_107)) :: ((toB (AV.int .u8 n_108)) :: []))))))))))))))))))))))))))))))))) = (AV.str s_109)) ∧
 (Q (Out.ret (AV.str s_109)) [] (Gh.mk (0 : Nat) (0 : Nat) [])))))))))))))))))))))))))))))))))))))))))))))))))))))))))))))))))))))))))))))))))))))))))))))))))))))))))))))))))))))))))))))))))))))
else False)))
else False)))))))))
else False)))))))))
else False)))))))))
else False)))))))))
else False)))))))))
else False)))))))))
else False)))))))))
else False)))))))))))))
else False)))
else False)
else False)))))))))
else False)) := by kernel_rfl

end Go.Proofs.YtifjpcdpmimccaaGreatDoor

/-
  Chapter 17: Marks of the reference; RecordWindows.
-/
import Derived.Test.YtiholnebhmjbjaaM17E
set_option linter.unusedSimpArgs false
set_option linter.unusedVariables false
set_option linter.unusedSectionVars false
namespace Go.Proofs.Ytiholnebhmjbjaa
open Go.RowKit
set_option maxRecDepth 1000000

abbrev X19 := Nat × Int × Nat × Int
def inv_19 (tg : Nat) (s : List UInt8) : LInv where
  α := X19
  pre x := Lf (x.1 ≤ 40 ∧ x.1 ≤ s.length ∧ (-1 ≤ x.2.1 ∧ x.2.1 < 281474976710656) ∧ x.2.2.1 < 18446744073709551616 ∧ 0 ≤ x.2.2.2 ∧ x.2.2.2 ≤ 300 + 100 * x.1)
  st x := ⟨mkT [(1, .lst tg (ofBytes s) s.length 1), (4, .ptr 0 2 0), (5, .ptr 1 2 0), (6, .int .i64 x.2.2.2), (7, .int .i64 (x.1 : Nat))], [⟨.exact, true, [.int .i64 0, .int .u64 0]⟩, ⟨.exact, true, [.int .i64 x.2.1, .int .u64 (x.2.2.1 : Nat)]⟩]⟩
  mu x := 41 - x.1
def smG19 : SM := lookS [(23, cMark)]
theorem smG19_ok : ∀ f g, smG19 f = some g → ValidF Try.prog gl0 f g := lookS_ok _ (by simp only [List.mem_cons, List.not_mem_nil, or_false, forall_eq]; exact markR_ok)
noncomputable def env_19 (hv : Nat → Option Pa) (hb : Nat → Option Bool) (tg : Nat) (s : List UInt8) : Env :=
  e04 smG19 (fun i => bif Nat.beq i 19000 then some (fun _ => [[inv_19 tg s]]) else none) hv hb
noncomputable def goal_19 (hv : Nat → Option Pa) (hb : Nat → Option Bool) (tg : Nat) (st : Int) (s : List UInt8) (Q : Out → List Blk → Gh → Prop) : Prop :=
  callx (env_19 hv hb tg s) (wpx (env_19 hv hb tg s) 1000) 19 [.int .u16 st, .lst tg (ofBytes s) s.length 1] [] {} Q
theorem vc_19 (tg : Nat) (st : Int) (s : List UInt8) (Q : Out → List Blk → Gh → Prop) : goal_19 (lookV [(77836, .int .u16), (77837, .int .i64), (77838, .int .i64), (77840, .int .i64), (77843, .int .i64), (77849, .agg [(.int .i64), (.int .u64)]), (77852, .agg [(.int .i64), (.int .u64)]), (77859, .int .i64), (77861, .int .u8), (77862, .int .u8), (77863, .int .i64), (77864, .int .i64), (77865, .int .i64), (77866, .int .i64), (77846, .int .i64), (77847, .int .i64), (77867, .agg [(.int .i64), (.int .u64)])]) (lookB []) tg st s Q = (
(∃ n_0 : Int, (((AV.int .u16 (Int.tmod st (200 : Int))) = (AV.int .u16 n_0)) ∧
 (∃ n_1 : Int, (((AV.int .i64 (IntKind.wrap .i64 n_0)) = (AV.int .i64 n_1)) ∧
 ((∃ x_2 : (Prod Nat (Prod Int (Prod Nat Int))), ((Lf (((Prod.fst x_2) ≤ (40 : Nat)) ∧
 (((Prod.fst x_2) ≤ (List.length s)) ∧
 ((((- (1 : Int)) ≤ (Prod.fst (Prod.snd x_2))) ∧
 ((Prod.fst (Prod.snd x_2)) < (281474976710656 : Int))) ∧
 (((Prod.fst (Prod.snd (Prod.snd x_2))) < (18446744073709551616 : Nat)) ∧
 (((0 : Int) ≤ (Prod.snd (Prod.snd (Prod.snd x_2)))) ∧
 ((Prod.snd (Prod.snd (Prod.snd x_2))) ≤ ((300 : Int) + ((100 : Int) * (Nat.cast (Prod.fst x_2) : Int)))))))))) ∧
 ((((AV.int .i64 (0 : Int)) :: ((AV.int .u64 (0 : Int)) :: [])) = ((AV.int .i64 (0 : Int)) :: ((AV.int .u64 (0 : Int)) :: []))) ∧
 ((((AV.int .i64 (- (1 : Int))) :: ((AV.int .u64 (0 : Int)) :: [])) = ((AV.int .i64 (Prod.fst (Prod.snd x_2))) :: ((AV.int .u64 (Nat.cast (Prod.fst (Prod.snd (Prod.snd x_2))) : Int)) :: []))) ∧
 (((AV.lst tg (ofBytes s) (List.length s) (1 : Nat)) = (AV.lst tg (ofBytes s) (List.length s) (1 : Nat))) ∧
 (((AV.int .i64 (0 : Int)) = (AV.int .i64 (Nat.cast (Prod.fst x_2) : Int))) ∧
 (((AV.ptr (1 : Nat) (2 : Nat) (0 : Nat)) = (AV.ptr (1 : Nat) (2 : Nat) (0 : Nat))) ∧
 (((AV.ptr (0 : Nat) (2 : Nat) (0 : Nat)) = (AV.ptr (0 : Nat) (2 : Nat) (0 : Nat))) ∧
 (((AV.int .i64 n_1) = (AV.int .i64 (Prod.snd (Prod.snd (Prod.snd x_2))))) ∧
 True))))))))) ∧
 (∀ x_2 : (Prod Nat (Prod Int (Prod Nat Int))), ((Lf (((Prod.fst x_2) ≤ (40 : Nat)) ∧
 (((Prod.fst x_2) ≤ (List.length s)) ∧
 ((((- (1 : Int)) ≤ (Prod.fst (Prod.snd x_2))) ∧
 ((Prod.fst (Prod.snd x_2)) < (281474976710656 : Int))) ∧
 (((Prod.fst (Prod.snd (Prod.snd x_2))) < (18446744073709551616 : Nat)) ∧
 (((0 : Int) ≤ (Prod.snd (Prod.snd (Prod.snd x_2)))) ∧
 ((Prod.snd (Prod.snd (Prod.snd x_2))) ≤ ((300 : Int) + ((100 : Int) * (Nat.cast (Prod.fst x_2) : Int)))))))))) →
(∃ n_3 : Int, (((AV.int .i64 (Nat.cast (Prod.fst x_2) : Int)) = (AV.int .i64 n_3)) ∧
 (∃ n_4 : Int, (((AV.int .i64 (Nat.cast (List.length s) : Int)) = (AV.int .i64 n_4)) ∧
 (bif (decide (n_3 < n_4)) then (∃ n_5 : Int, (((AV.int .i64 (Nat.cast (Prod.fst x_2) : Int)) = (AV.int .i64 n_5)) ∧
 (bif (decide (n_5 < (40 : Int))) then (∃ n_6 : Int, (∃ n_7 : Int, (((AV.agg ((AV.int .i64 (Prod.fst (Prod.snd x_2))) :: ((AV.int .u64 (Nat.cast (Prod.fst (Prod.snd (Prod.snd x_2))) : Int)) :: []))) = (AV.agg ((AV.int .i64 n_6) :: ((AV.int .u64 n_7) :: [])))) ∧
 (∃ k_8 : Nat, ((Lf ((n_7 = (Nat.cast k_8 : Int)) ∧
 ((k_8 < (18446744073709551616 : Nat)) ∧
 ((((- (9223372036854775808 : Int)) ≤ n_6) ∧
 (n_6 ≤ (9223372036854775807 : Int))) ∧
 (((- (9223372036854775808 : Int)) ≤ (Prod.snd (Prod.snd (Prod.snd x_2)))) ∧
 ((Prod.snd (Prod.snd (Prod.snd x_2))) ≤ (9223372036854775807 : Int))))))) ∧
 (∀ a_9 : Int, (∀ b_10 : Nat, (∀ e_11 : Int, ((Lf ((markRM n_6 k_8 (Prod.snd (Prod.snd (Prod.snd x_2)))) = (Prod.mk (Prod.mk a_9 b_10) e_11))) →
(∃ n_12 : Int, (∃ n_13 : Int, (((AV.agg ((AV.int .i64 a_9) :: ((AV.int .u64 (Nat.cast b_10 : Int)) :: []))) = (AV.agg ((AV.int .i64 n_12) :: ((AV.int .u64 n_13) :: [])))) ∧
 (bif (e_11 == (0 : Int)) then (∃ n_14 : Int, (((AV.int .i64 (Nat.cast (Prod.fst x_2) : Int)) = (AV.int .i64 n_14)) ∧
 (bif (((decide ((0 : Int) ≤ n_14)) && (Nat.blt (Int.toNat n_14) (List.length s))) && true) then (bif (Nat.blt ((Int.toNat n_14) * (1 : Nat)) (List.length (ofBytes s))) then (∃ n_15 : Int, (((List.getD (ofBytes s) ((Int.toNat n_14) * (1 : Nat)) AV.undef) = (AV.int .u8 n_15)) ∧
 (∃ n_16 : Int, (((AV.int .u8 (Int.tmod n_15 (90 : Int))) = (AV.int .u8 n_16)) ∧
 (∃ n_17 : Int, (((AV.int .i64 (IntKind.wrap .i64 n_16)) = (AV.int .i64 n_17)) ∧
 (∃ n_18 : Int, (((AV.int .i64 (IntKind.wrap .i64 ((Prod.snd (Prod.snd (Prod.snd x_2))) + n_17))) = (AV.int .i64 n_18)) ∧
 (∃ n_19 : Int, (((AV.int .i64 (IntKind.wrap .i64 (n_18 - (20 : Int)))) = (AV.int .i64 n_19)) ∧
 (∃ n_20 : Int, (((AV.int .i64 (imax (0 : Int) n_19)) = (AV.int .i64 n_20)) ∧
 (∃ n_21 : Int, (((AV.int .i64 (Nat.cast (Prod.fst x_2) : Int)) = (AV.int .i64 n_21)) ∧
 (∃ n_22 : Int, (((AV.int .i64 (IntKind.wrap .i64 (n_21 + (1 : Int)))) = (AV.int .i64 n_22)) ∧
 ((True ∧
 ((0 : Nat) = (0 : Nat))) ∧
 (∃ y_23 : (Prod Nat (Prod Int (Prod Nat Int))), ((Lf (((Prod.fst y_23) ≤ (40 : Nat)) ∧
 (((Prod.fst y_23) ≤ (List.length s)) ∧
 ((((- (1 : Int)) ≤ (Prod.fst (Prod.snd y_23))) ∧
 ((Prod.fst (Prod.snd y_23)) < (281474976710656 : Int))) ∧
 (((Prod.fst (Prod.snd (Prod.snd y_23))) < (18446744073709551616 : Nat)) ∧
 (((0 : Int) ≤ (Prod.snd (Prod.snd (Prod.snd y_23)))) ∧
 ((Prod.snd (Prod.snd (Prod.snd y_23))) ≤ ((300 : Int) + ((100 : Int) * (Nat.cast (Prod.fst y_23) : Int)))))))))) ∧
 ((((41 : Nat) - (Prod.fst y_23)) < ((41 : Nat) - (Prod.fst x_2))) ∧
 ((((AV.int .i64 (0 : Int)) :: ((AV.int .u64 (0 : Int)) :: [])) = ((AV.int .i64 (0 : Int)) :: ((AV.int .u64 (0 : Int)) :: []))) ∧
 ((((AV.int .i64 n_12) :: ((AV.int .u64 n_13) :: [])) = ((AV.int .i64 (Prod.fst (Prod.snd y_23))) :: ((AV.int .u64 (Nat.cast (Prod.fst (Prod.snd (Prod.snd y_23))) : Int)) :: []))) ∧
 (((AV.lst tg (ofBytes s) (List.length s) (1 : Nat)) = (AV.lst tg (ofBytes s) (List.length s) (1 : Nat))) ∧
 (((AV.int .i64 n_22) = (AV.int .i64 (Nat.cast (Prod.fst y_23) : Int))) ∧
 (((AV.ptr (1 : Nat) (2 : Nat) (0 : Nat)) = (AV.ptr (1 : Nat) (2 : Nat) (0 : Nat))) ∧
 (((AV.ptr (0 : Nat) (2 : Nat) (0 : Nat)) = (AV.ptr (0 : Nat) (2 : Nat) (0 : Nat))) ∧
 (((AV.int .i64 n_20) = (AV.int .i64 (Prod.snd (Prod.snd (Prod.snd y_23))))) ∧
 True)))))))))))))))))))))))))))
else False)
else False)))
else (∃ n_14 : Int, (((AV.int .i64 (Nat.cast (Prod.fst x_2) : Int)) = (AV.int .i64 n_14)) ∧
 (bif (((decide ((0 : Int) ≤ n_14)) && (Nat.blt (Int.toNat n_14) (List.length s))) && true) then (bif (Nat.blt ((Int.toNat n_14) * (1 : Nat)) (List.length (ofBytes s))) then (∃ n_15 : Int, (((List.getD (ofBytes s) ((Int.toNat n_14) * (1 : Nat)) AV.undef) = (AV.int .u8 n_15)) ∧
 (∃ n_16 : Int, (((AV.int .u8 (Int.tmod n_15 (90 : Int))) = (AV.int .u8 n_16)) ∧
 (∃ n_17 : Int, (((AV.int .i64 (IntKind.wrap .i64 n_16)) = (AV.int .i64 n_17)) ∧
 (∃ n_18 : Int, (((AV.int .i64 (IntKind.wrap .i64 ((Prod.snd (Prod.snd (Prod.snd x_2))) + n_17))) = (AV.int .i64 n_18)) ∧
 (∃ n_19 : Int, (((AV.int .i64 (IntKind.wrap .i64 (n_18 - (20 : Int)))) = (AV.int .i64 n_19)) ∧
 (∃ n_20 : Int, (((AV.int .i64 (imax (0 : Int) n_19)) = (AV.int .i64 n_20)) ∧
 (∃ n_21 : Int, (((AV.int .i64 (Nat.cast (Prod.fst x_2) : Int)) = (AV.int .i64 n_21)) ∧
 (∃ n_22 : Int, (((AV.int .i64 (IntKind.wrap .i64 (n_21 + (1 : Int)))) = (AV.int .i64 n_22)) ∧
 ((True ∧
 ((0 : Nat) = (0 : Nat))) ∧
 (∃ y_23 : (Prod Nat (Prod Int (Prod Nat Int))), ((Lf (((Prod.fst y_23) ≤ (40 : Nat)) ∧
 (((Prod.fst y_23) ≤ (List.length s)) ∧
 ((((- (1 : Int)) ≤ (Prod.fst (Prod.snd y_23))) ∧
 ((Prod.fst (Prod.snd y_23)) < (281474976710656 : Int))) ∧
 (((Prod.fst (Prod.snd (Prod.snd y_23))) < (18446744073709551616 : Nat)) ∧
 (((0 : Int) ≤ (Prod.snd (Prod.snd (Prod.snd y_23)))) ∧
 ((Prod.snd (Prod.snd (Prod.snd y_23))) ≤ ((300 : Int) + ((100 : Int) * (Nat.cast (Prod.fst y_23) : Int)))))))))) ∧
 ((((41 : Nat) - (Prod.fst y_23)) < ((41 : Nat) - (Prod.fst x_2))) ∧
 ((((AV.int .i64 (0 : Int)) :: ((AV.int .u64 (0 : Int)) :: [])) = ((AV.int .i64 (0 : Int)) :: ((AV.int .u64 (0 : Int)) :: []))) ∧
 ((((AV.int .i64 (Prod.fst (Prod.snd x_2))) :: ((AV.int .u64 (Nat.cast (Prod.fst (Prod.snd (Prod.snd x_2))) : Int)) :: [])) = ((AV.int .i64 (Prod.fst (Prod.snd y_23))) :: ((AV.int .u64 (Nat.cast (Prod.fst (Prod.snd (Prod.snd y_23))) : Int)) :: []))) ∧
 (((AV.lst tg (ofBytes s) (List.length s) (1 : Nat)) = (AV.lst tg (ofBytes s) (List.length s) (1 : Nat))) ∧
 (((AV.int .i64 n_22) = (AV.int .i64 (Nat.cast (Prod.fst y_23) : Int))) ∧
 (((AV.ptr (1 : Nat) (2 : Nat) (0 : Nat)) = (AV.ptr (1 : Nat) (2 : Nat) (0 : Nat))) ∧
 (((AV.ptr (0 : Nat) (2 : Nat) (0 : Nat)) = (AV.ptr (0 : Nat) (2 : Nat) (0 : Nat))) ∧
 (((AV.int .i64 n_20) = (AV.int .i64 (Prod.snd (Prod.snd (Prod.snd y_23))))) ∧
 True)))))))))))))))))))))))))))
else False)
else False))))))))))))))))
else (∃ n_6 : Int, (∃ n_7 : Int, (((AV.agg ((AV.int .i64 (Prod.fst (Prod.snd x_2))) :: ((AV.int .u64 (Nat.cast (Prod.fst (Prod.snd (Prod.snd x_2))) : Int)) :: []))) = (AV.agg ((AV.int .i64 n_6) :: ((AV.int .u64 n_7) :: [])))) ∧
 (Q (Out.ret (AV.agg ((AV.int .i64 n_6) :: ((AV.int .u64 n_7) :: [])))) [] (Gh.mk (0 : Nat) (0 : Nat) []))))))))
else (∃ n_5 : Int, (∃ n_6 : Int, (((AV.agg ((AV.int .i64 (Prod.fst (Prod.snd x_2))) :: ((AV.int .u64 (Nat.cast (Prod.fst (Prod.snd (Prod.snd x_2))) : Int)) :: []))) = (AV.agg ((AV.int .i64 n_5) :: ((AV.int .u64 n_6) :: [])))) ∧
 (Q (Out.ret (AV.agg ((AV.int .i64 n_5) :: ((AV.int .u64 n_6) :: [])))) [] (Gh.mk (0 : Nat) (0 : Nat) [])))))))))))))))))) := by kernel_rfl

theorem getO {s : List UInt8} {j m : Nat} (hj : j < s.length) (hm : m = j) {K : Int → Prop} (hk : K ((s.getD j 0).toNat : Int)) : ∃ n : Int, List.getD (ofBytes s) m AV.undef = AV.int .u8 n ∧ K n := by
  subst hm
  refine ⟨_, ?_, hk⟩
  simp [ofBytes, List.getD, hj]
theorem markRM_in {t : Int} {k : Nat} {q : Int} {a : Int} {b : Nat} {e : Int} (hk : k < 18446744073709551616) (h : markRM t k q = ((a, b), e)) : (-1 ≤ a ∧ a < 281474976710656) ∧ b < 18446744073709551616 := by
  unfold markRM at h
  split at h
  · simp only [Prod.mk.injEq] at h
    obtain ⟨⟨rfl, rfl⟩, _⟩ := h
    omega
  · rename_i hf
    have hf' : freshWM t k q = 0 := Decidable.of_not_not hf
    have hm := mark_lt hk hf'
    obtain ⟨h1, h2, h3⟩ := fresh_parts hf'
    have htr : -1 ≤ t ∧ t < 281474976710656 := by rcases ok_parts h1 with h | h <;> omega
    have hT : -1 ≤ (markWM t k q).1 ∧ (markWM t k q).1 < 281474976710656 := by unfold markWM; split <;> simp only <;> omega
    simp only [Prod.mk.injEq] at h
    rw [h.1] at hm hT
    exact ⟨hT, hm⟩
theorem marks_run (tg : Nat) (st : Int) (s : List UInt8) (hst : 0 ≤ st ∧ st ≤ 65535) (hs : s.length ≤ 9223372036854775807) (Q : Out → List Blk → Gh → Prop)
    (hq : ∀ (a : Int) (b : Nat), -1 ≤ a ∧ a < 281474976710656 → b < 18446744073709551616 → Q (.ret (.agg [.int .i64 a, .int .u64 (b : Nat)])) [] {}) : ∃ hv hb, goal_19 hv hb tg st s Q := by
  obtain ⟨hv, hb', e⟩ : ∃ hv hb, goal_19 hv hb tg st s Q = _ := ⟨_, _, vc_19 tg st s Q⟩
  refine ⟨hv, hb', e.mpr ?_⟩
  clear e
  have hm : Int.tmod st 200 = st % 200 := Int.tmod_eq_emod_of_nonneg hst.1
  refine ⟨_, rfl, ?_⟩
  rw [hm]
  refine wrapI (by omega) (by omega) ⟨⟨(0, -1, 0, st % 200), ⟨by omega, by omega, by dsimp only; omega, by dsimp only; omega, by dsimp only; omega, by dsimp only; omega⟩, rfl, rfl, rfl, rfl, rfl, rfl, rfl, trivial⟩, ?_⟩
  rintro ⟨i, a, b, p⟩ ⟨h1, h2, h3, h4, h5, h6⟩
  dsimp only at h1 h2 h3 h4 h5 h6 ⊢
  have fin := hq a b h3 h4
  refine ⟨_, rfl, _, rfl, splitD (fun h7 => ⟨_, rfl, splitD (fun h8 => ?_) (fun _ => aggW2 fin)⟩) (fun _ => aggW2 fin)⟩
  refine aggW2 ⟨b, ⟨rfl, h4, by omega, by omega⟩, ?_⟩
  rintro a' b' e' ⟨hmk⟩
  obtain ⟨g1, g2⟩ := markRM_in h4 hmk
  have hlt : i < s.length := by omega
  have hc := (s.getD i 0).toNat_lt
  have ht : Int.tmod ((s.getD i 0).toNat : Int) 90 = (((s.getD i 0).toNat % 90 : Nat) : Int) := rfl
  refine aggW2 (splitE (fun _ => ?_) (fun _ => ?_))
  · refine ⟨_, rfl, ckI (by simp; omega) (ckI (by rw [ofB_len]; simp; omega) (getO (j := i) hlt (by simp) ⟨_, rfl, ?_⟩))⟩
    rw [ht]
    generalize (s.getD i 0).toNat = c at *
    refine wrapI (by omega) (by omega) (wrapI (by omega) (by omega) (wrapI (by omega) (by omega) ⟨_, rfl, _, rfl, wrapI (by omega) (by omega) ⟨⟨trivial, rfl⟩, (i + 1, a', b', imax 0 (p + ((c % 90 : Nat) : Int) - 20)), ⟨by dsimp only; omega, by dsimp only; omega, g1, g2, ?_, ?_⟩, by dsimp only; omega, rfl, rfl, rfl, rfl, rfl, rfl, rfl, trivial⟩⟩))
    · dsimp only; unfold imax; split <;> omega
    · dsimp only; unfold imax; split <;> omega
  · refine ⟨_, rfl, ckI (by simp; omega) (ckI (by rw [ofB_len]; simp; omega) (getO (j := i) hlt (by simp) ⟨_, rfl, ?_⟩))⟩
    rw [ht]
    generalize (s.getD i 0).toNat = c at *
    refine wrapI (by omega) (by omega) (wrapI (by omega) (by omega) (wrapI (by omega) (by omega) ⟨_, rfl, _, rfl, wrapI (by omega) (by omega) ⟨⟨trivial, rfl⟩, (i + 1, a, b, imax 0 (p + ((c % 90 : Nat) : Int) - 20)), ⟨by dsimp only; omega, by dsimp only; omega, h3, h4, ?_, ?_⟩, by dsimp only; omega, rfl, rfl, rfl, rfl, rfl, rfl, rfl, trivial⟩⟩))
    · dsimp only; unfold imax; split <;> omega
    · dsimp only; unfold imax; split <;> omega
def cMarks : Con
  | [.int .u16 st, .lst _ l n 1], H, K => ∃ s : List UInt8, Lf (l = ofBytes s ∧ n = s.length ∧ (0 ≤ st ∧ st ≤ 65535) ∧ s.length ≤ 9223372036854775807) ∧ ∀ (a : Int) (b : Nat), Lf ((-1 ≤ a ∧ a < 281474976710656) ∧ b < 18446744073709551616) → K (.ret (.agg [.int .i64 a, .int .u64 (b : Nat)])) H
  | _, _, _ => False
theorem marks_ok : ValidF Try.prog gl0 19 cMarks := by
  refine valid_flat (enters_of (by kernel_rfl)) gl0_noY fun args H Q hc => ?_
  unfold cMarks at hc
  split at hc
  · rename_i st tg l n
    obtain ⟨s, ⟨rfl, rfl, h1, h2⟩, hq⟩ := hc
    obtain ⟨hv, hb', h⟩ := marks_run tg st s h1 h2 (Q := fun o H' _ => H' = [] ∧ (∃ v, o = .ret v ∧ old 0 v = true ∧ noY v = true) ∧ Q o H) (fun a b g1 g2 => ⟨rfl, ⟨_, rfl, rfl, rfl⟩, hq a b ⟨g1, g2⟩⟩)
    exact ⟨by simp [oldL, old, oldL_ofB], by simp [noYL, noY], _, 1000, envFor04 smG19_ok _ _ _, rfl, h⟩
  · exact hc.elim
/-! ## RecordWindows -/
def smR4 : SM := lookS [(10, cTrue), (19, cMarks), (20, cFresh), (21, cFresh), (22, cMark), (23, cMark)]
theorem smR4_ok : ∀ f g, smR4 f = some g → ValidF Try.prog gl0 f g := lookS_ok _ (by simp only [List.mem_cons, List.not_mem_nil, or_false, forall_eq_or_imp, forall_eq]; exact ⟨wakes_ok, marks_ok, fresh_ok, freshR_ok, mark_ok, markR_ok⟩)
noncomputable def goal_4 (hv : Nat → Option Pa) (hb : Nat → Option Bool) (st : Int) (s : List UInt8) (rt : Int) (rk : Nat) (q near : Int) (Q : Out → List Blk → Gh → Prop) : Prop :=
  callx (e04 smR4 (fun _ => none) hv hb) (wpx (e04 smR4 (fun _ => none) hv hb) 1000) 4 [.int .u16 st, .lst 0 (ofBytes s) s.length 1, .agg [.int .i64 rt, .int .u64 (rk : Nat)], .int .i64 q, .int .u8 near] [] {} Q
theorem vc_4 (st : Int) (s : List UInt8) (rt : Int) (rk : Nat) (q : Int) (near : Int) (Q : Out → List Blk → Gh → Prop) : goal_4 (lookV [(16409, .agg [(.int .i64), (.int .u64)]), (16414, .int .u64), (16415, .int .u64), (16418, .agg [(.int .i64), (.int .u64)]), (16423, .int .u64), (16433, .int .u8), (16434, .int .i64), (16435, .int .i64), (16436, .int .i64), (16439, .int .i64), (16441, .int .u8), (16442, .int .i64), (16443, .int .i64), (16459, .agg [(.int .i64), (.int .u64)]), (16465, .agg [(.int .i64), (.int .u64)])]) (lookB []) st s rt rk q near Q = (
(∃ s_0 : (List UInt8), ((Lf (((ofBytes s) = (ofBytes s_0)) ∧
 (((List.length s) = (List.length s_0)) ∧
 ((((0 : Int) ≤ st) ∧
 (st ≤ (65535 : Int))) ∧
 ((List.length s_0) ≤ (9223372036854775807 : Nat)))))) ∧
 (∀ a_1 : Int, (∀ b_2 : Nat, ((Lf ((((- (1 : Int)) ≤ a_1) ∧
 (a_1 < (281474976710656 : Int))) ∧
 (b_2 < (18446744073709551616 : Nat)))) →
(∃ n_3 : Int, (∃ n_4 : Int, (((AV.agg ((AV.int .i64 a_1) :: ((AV.int .u64 (Nat.cast b_2 : Int)) :: []))) = (AV.agg ((AV.int .i64 n_3) :: ((AV.int .u64 n_4) :: [])))) ∧
 (∃ n_5 : Int, (((AV.int .u64 (Nat.cast rk : Int)) = (AV.int .u64 n_5)) ∧
 (∃ n_6 : Int, (((AV.int .u64 (IntKind.wrap .u64 (Nat.cast ((Int.toNat (n_4 % (18446744073709551616 : Int))) ^^^ (Int.toNat (n_5 % (18446744073709551616 : Int)))) : Int))) = (AV.int .u64 n_6)) ∧
 (∃ n_7 : Int, (∃ n_8 : Int, (((AV.agg ((AV.int .i64 rt) :: ((AV.int .u64 (Nat.cast rk : Int)) :: []))) = (AV.agg ((AV.int .i64 n_7) :: ((AV.int .u64 n_8) :: [])))) ∧
 (∃ n_9 : Int, (((AV.int .u64 (Nat.cast rk : Int)) = (AV.int .u64 n_9)) ∧
 (∃ n_10 : Int, (((AV.int .u8 (Int.tmod near (140 : Int))) = (AV.int .u8 n_10)) ∧
 (∃ n_11 : Int, (((AV.int .i64 (IntKind.wrap .i64 n_10)) = (AV.int .i64 n_11)) ∧
 (∃ n_12 : Int, (((AV.int .i64 (IntKind.wrap .i64 (n_3 + n_11))) = (AV.int .i64 n_12)) ∧
 (∃ n_13 : Int, (((AV.int .i64 (IntKind.wrap .i64 (n_12 - (70 : Int)))) = (AV.int .i64 n_13)) ∧
 (∃ n_14 : Int, (((AV.int .i64 (IntKind.wrap .i64 (n_3 - (64 : Int)))) = (AV.int .i64 n_14)) ∧
 (∃ n_15 : Int, (((AV.int .u8 (Int.tmod near (3 : Int))) = (AV.int .u8 n_15)) ∧
 (∃ n_16 : Int, (((AV.int .i64 (IntKind.wrap .i64 n_15)) = (AV.int .i64 n_16)) ∧
 (∃ n_17 : Int, (((AV.int .i64 (IntKind.wrap .i64 (n_14 + n_16))) = (AV.int .i64 n_17)) ∧
 (∃ k_18 : Nat, ((Lf ((n_4 = (Nat.cast k_18 : Int)) ∧
 ((k_18 < (18446744073709551616 : Nat)) ∧
 ((((- (9223372036854775808 : Int)) ≤ n_3) ∧
 (n_3 ≤ (9223372036854775807 : Int))) ∧
 (((- (9223372036854775808 : Int)) ≤ q) ∧
 (q ≤ (9223372036854775807 : Int))))))) ∧
 (∀ e_19 : Int, ((Lf (e_19 = (freshWM n_3 k_18 q))) →
(bif ((eqAVL ((AV.int .i64 n_3) :: ((AV.int .u64 n_4) :: [])) ((AV.int .i64 n_3) :: ((AV.int .u64 n_4) :: []))) && true) then (∃ k_20 : Nat, ((Lf ((n_4 = (Nat.cast k_20 : Int)) ∧
 ((k_20 < (18446744073709551616 : Nat)) ∧
 ((((- (9223372036854775808 : Int)) ≤ n_3) ∧
 (n_3 ≤ (9223372036854775807 : Int))) ∧
 (((- (9223372036854775808 : Int)) ≤ q) ∧
 (q ≤ (9223372036854775807 : Int))))))) ∧
 (∀ e_21 : Int, ((Lf (e_21 = (freshWM n_3 k_20 q))) →
(bif (e_19 != e_21) then (Q (Out.ret (AV.bool false)) [] (Gh.mk (0 : Nat) (0 : Nat) []))
else (∃ k_22 : Nat, ((Lf ((n_4 = (Nat.cast k_22 : Int)) ∧
 ((k_22 < (18446744073709551616 : Nat)) ∧
 ((((- (9223372036854775808 : Int)) ≤ n_3) ∧
 (n_3 ≤ (9223372036854775807 : Int))) ∧
 (((- (9223372036854775808 : Int)) ≤ q) ∧
 (q ≤ (9223372036854775807 : Int))))))) ∧
 (∀ a_23 : Int, (∀ b_24 : Nat, (∀ e_25 : Int, ((Lf ((markRM n_3 k_22 q) = (Prod.mk (Prod.mk a_23 b_24) e_25))) →
(∃ n_26 : Int, (∃ n_27 : Int, (((AV.agg ((AV.int .i64 a_23) :: ((AV.int .u64 (Nat.cast b_24 : Int)) :: []))) = (AV.agg ((AV.int .i64 n_26) :: ((AV.int .u64 n_27) :: [])))) ∧
 (∃ k_28 : Nat, ((Lf ((n_4 = (Nat.cast k_28 : Int)) ∧
 ((k_28 < (18446744073709551616 : Nat)) ∧
 ((((- (9223372036854775808 : Int)) ≤ n_3) ∧
 (n_3 ≤ (9223372036854775807 : Int))) ∧
 (((- (9223372036854775808 : Int)) ≤ q) ∧
 (q ≤ (9223372036854775807 : Int))))))) ∧
 (∀ a_29 : Int, (∀ b_30 : Nat, (∀ e_31 : Int, ((Lf ((markRM n_3 k_28 q) = (Prod.mk (Prod.mk a_29 b_30) e_31))) →
(∃ n_32 : Int, (∃ n_33 : Int, (((AV.agg ((AV.int .i64 a_29) :: ((AV.int .u64 (Nat.cast b_30 : Int)) :: []))) = (AV.agg ((AV.int .i64 n_32) :: ((AV.int .u64 n_33) :: [])))) ∧
 (bif (!((n_26 == n_32) && ((n_27 == n_33) && true))) then (Q (Out.ret (AV.bool false)) [] (Gh.mk (0 : Nat) (0 : Nat) []))
else (bif (e_25 != e_31) then (Q (Out.ret (AV.bool false)) [] (Gh.mk (0 : Nat) (0 : Nat) []))
else (∃ k_34 : Nat, ((Lf ((n_4 = (Nat.cast k_34 : Int)) ∧
 ((k_34 < (18446744073709551616 : Nat)) ∧
 ((((- (9223372036854775808 : Int)) ≤ n_3) ∧
 (n_3 ≤ (9223372036854775807 : Int))) ∧
 (((- (9223372036854775808 : Int)) ≤ n_13) ∧
 (n_13 ≤ (9223372036854775807 : Int))))))) ∧
 (∀ e_35 : Int, ((Lf (e_35 = (freshWM n_3 k_34 n_13))) →
(bif ((eqAVL ((AV.int .i64 n_3) :: ((AV.int .u64 n_4) :: [])) ((AV.int .i64 n_3) :: ((AV.int .u64 n_4) :: []))) && true) then (∃ k_36 : Nat, ((Lf ((n_4 = (Nat.cast k_36 : Int)) ∧
 ((k_36 < (18446744073709551616 : Nat)) ∧
 ((((- (9223372036854775808 : Int)) ≤ n_3) ∧
 (n_3 ≤ (9223372036854775807 : Int))) ∧
 (((- (9223372036854775808 : Int)) ≤ n_13) ∧
 (n_13 ≤ (9223372036854775807 : Int))))))) ∧
 (∀ e_37 : Int, ((Lf (e_37 = (freshWM n_3 k_36 n_13))) →
(bif (e_35 != e_37) then (Q (Out.ret (AV.bool false)) [] (Gh.mk (0 : Nat) (0 : Nat) []))
else (∃ k_38 : Nat, ((Lf ((n_4 = (Nat.cast k_38 : Int)) ∧
 ((k_38 < (18446744073709551616 : Nat)) ∧
 ((((- (9223372036854775808 : Int)) ≤ n_3) ∧
 (n_3 ≤ (9223372036854775807 : Int))) ∧
 (((- (9223372036854775808 : Int)) ≤ n_13) ∧
 (n_13 ≤ (9223372036854775807 : Int))))))) ∧
 (∀ a_39 : Int, (∀ b_40 : Nat, (∀ e_41 : Int, ((Lf ((markRM n_3 k_38 n_13) = (Prod.mk (Prod.mk a_39 b_40) e_41))) →
(∃ n_42 : Int, (∃ n_43 : Int, (((AV.agg ((AV.int .i64 a_39) :: ((AV.int .u64 (Nat.cast b_40 : Int)) :: []))) = (AV.agg ((AV.int .i64 n_42) :: ((AV.int .u64 n_43) :: [])))) ∧
 (∃ k_44 : Nat, ((Lf ((n_4 = (Nat.cast k_44 : Int)) ∧
 ((k_44 < (18446744073709551616 : Nat)) ∧
 ((((- (9223372036854775808 : Int)) ≤ n_3) ∧
 (n_3 ≤ (9223372036854775807 : Int))) ∧
 (((- (9223372036854775808 : Int)) ≤ n_13) ∧
 (n_13 ≤ (9223372036854775807 : Int))))))) ∧
 (∀ a_45 : Int, (∀ b_46 : Nat, (∀ e_47 : Int, ((Lf ((markRM n_3 k_44 n_13) = (Prod.mk (Prod.mk a_45 b_46) e_47))) →
(∃ n_48 : Int, (∃ n_49 : Int, (((AV.agg ((AV.int .i64 a_45) :: ((AV.int .u64 (Nat.cast b_46 : Int)) :: []))) = (AV.agg ((AV.int .i64 n_48) :: ((AV.int .u64 n_49) :: [])))) ∧
 (bif (!((n_42 == n_48) && ((n_43 == n_49) && true))) then (Q (Out.ret (AV.bool false)) [] (Gh.mk (0 : Nat) (0 : Nat) []))
else (bif (e_41 != e_47) then (Q (Out.ret (AV.bool false)) [] (Gh.mk (0 : Nat) (0 : Nat) []))
else (∃ k_50 : Nat, ((Lf ((n_4 = (Nat.cast k_50 : Int)) ∧
 ((k_50 < (18446744073709551616 : Nat)) ∧
 ((((- (9223372036854775808 : Int)) ≤ n_3) ∧
 (n_3 ≤ (9223372036854775807 : Int))) ∧
 (((- (9223372036854775808 : Int)) ≤ n_17) ∧
 (n_17 ≤ (9223372036854775807 : Int))))))) ∧
 (∀ e_51 : Int, ((Lf (e_51 = (freshWM n_3 k_50 n_17))) →
(bif ((eqAVL ((AV.int .i64 n_3) :: ((AV.int .u64 n_4) :: [])) ((AV.int .i64 n_3) :: ((AV.int .u64 n_4) :: []))) && true) then (∃ k_52 : Nat, ((Lf ((n_4 = (Nat.cast k_52 : Int)) ∧
 ((k_52 < (18446744073709551616 : Nat)) ∧
 ((((- (9223372036854775808 : Int)) ≤ n_3) ∧
 (n_3 ≤ (9223372036854775807 : Int))) ∧
 (((- (9223372036854775808 : Int)) ≤ n_17) ∧
 (n_17 ≤ (9223372036854775807 : Int))))))) ∧
 (∀ e_53 : Int, ((Lf (e_53 = (freshWM n_3 k_52 n_17))) →
(bif (e_51 != e_53) then (Q (Out.ret (AV.bool false)) [] (Gh.mk (0 : Nat) (0 : Nat) []))
else (∃ k_54 : Nat, ((Lf ((n_4 = (Nat.cast k_54 : Int)) ∧
 ((k_54 < (18446744073709551616 : Nat)) ∧
 ((((- (9223372036854775808 : Int)) ≤ n_3) ∧
 (n_3 ≤ (9223372036854775807 : Int))) ∧
 (((- (9223372036854775808 : Int)) ≤ n_17) ∧
 (n_17 ≤ (9223372036854775807 : Int))))))) ∧
 (∀ a_55 : Int, (∀ b_56 : Nat, (∀ e_57 : Int, ((Lf ((markRM n_3 k_54 n_17) = (Prod.mk (Prod.mk a_55 b_56) e_57))) →
(∃ n_58 : Int, (∃ n_59 : Int, (((AV.agg ((AV.int .i64 a_55) :: ((AV.int .u64 (Nat.cast b_56 : Int)) :: []))) = (AV.agg ((AV.int .i64 n_58) :: ((AV.int .u64 n_59) :: [])))) ∧
 (∃ k_60 : Nat, ((Lf ((n_4 = (Nat.cast k_60 : Int)) ∧
 ((k_60 < (18446744073709551616 : Nat)) ∧
 ((((- (9223372036854775808 : Int)) ≤ n_3) ∧
 (n_3 ≤ (9223372036854775807 : Int))) ∧
 (((- (9223372036854775808 : Int)) ≤ n_17) ∧
 (n_17 ≤ (9223372036854775807 : Int))))))) ∧
 (∀ a_61 : Int, (∀ b_62 : Nat, (∀ e_63 : Int, ((Lf ((markRM n_3 k_60 n_17) = (Prod.mk (Prod.mk a_61 b_62) e_63))) →
(∃ n_64 : Int, (∃ n_65 : Int, (((AV.agg ((AV.int .i64 a_61) :: ((AV.int .u64 (Nat.cast b_62 : Int)) :: []))) = (AV.agg ((AV.int .i64 n_64) :: ((AV.int .u64 n_65) :: [])))) ∧
 (bif (!((n_58 == n_64) && ((n_59 == n_65) && true))) then (Q (Out.ret (AV.bool false)) [] (Gh.mk (0 : Nat) (0 : Nat) []))
else (bif (e_57 != e_63) then (Q (Out.ret (AV.bool false)) [] (Gh.mk (0 : Nat) (0 : Nat) []))
else (∃ n_66 : Int, (((AV.int .u8 (Int.tmod near (140 : Int))) = (AV.int .u8 n_66)) ∧
 (∃ n_67 : Int, (((AV.int .i64 (IntKind.wrap .i64 n_66)) = (AV.int .i64 n_67)) ∧
 (∃ n_68 : Int, (((AV.int .i64 (IntKind.wrap .i64 (n_3 + n_67))) = (AV.int .i64 n_68)) ∧
 (∃ n_69 : Int, (((AV.int .i64 (IntKind.wrap .i64 (n_68 - (70 : Int)))) = (AV.int .i64 n_69)) ∧
 (∃ n_70 : Int, (((AV.int .i64 (IntKind.wrap .i64 (n_3 - (64 : Int)))) = (AV.int .i64 n_70)) ∧
 (∃ n_71 : Int, (((AV.int .u8 (Int.tmod near (3 : Int))) = (AV.int .u8 n_71)) ∧
 (∃ n_72 : Int, (((AV.int .i64 (IntKind.wrap .i64 n_71)) = (AV.int .i64 n_72)) ∧
 (∃ n_73 : Int, (((AV.int .i64 (IntKind.wrap .i64 (n_70 + n_72))) = (AV.int .i64 n_73)) ∧
 (∃ k_74 : Nat, ((Lf ((n_8 = (Nat.cast k_74 : Int)) ∧
 ((k_74 < (18446744073709551616 : Nat)) ∧
 ((((- (9223372036854775808 : Int)) ≤ n_7) ∧
 (n_7 ≤ (9223372036854775807 : Int))) ∧
 (((- (9223372036854775808 : Int)) ≤ q) ∧
 (q ≤ (9223372036854775807 : Int))))))) ∧
 (∀ e_75 : Int, ((Lf (e_75 = (freshWM n_7 k_74 q))) →
(bif ((eqAVL ((AV.int .i64 n_7) :: ((AV.int .u64 n_8) :: [])) ((AV.int .i64 n_7) :: ((AV.int .u64 n_8) :: []))) && true) then (∃ k_76 : Nat, ((Lf ((n_8 = (Nat.cast k_76 : Int)) ∧
 ((k_76 < (18446744073709551616 : Nat)) ∧
 ((((- (9223372036854775808 : Int)) ≤ n_7) ∧
 (n_7 ≤ (9223372036854775807 : Int))) ∧
 (((- (9223372036854775808 : Int)) ≤ q) ∧
 (q ≤ (9223372036854775807 : Int))))))) ∧
 (∀ e_77 : Int, ((Lf (e_77 = (freshWM n_7 k_76 q))) →
(bif (e_75 != e_77) then (Q (Out.ret (AV.bool false)) [] (Gh.mk (0 : Nat) (0 : Nat) []))
else (∃ k_78 : Nat, ((Lf ((n_8 = (Nat.cast k_78 : Int)) ∧
 ((k_78 < (18446744073709551616 : Nat)) ∧
 ((((- (9223372036854775808 : Int)) ≤ n_7) ∧
 (n_7 ≤ (9223372036854775807 : Int))) ∧
 (((- (9223372036854775808 : Int)) ≤ q) ∧
 (q ≤ (9223372036854775807 : Int))))))) ∧
 (∀ a_79 : Int, (∀ b_80 : Nat, (∀ e_81 : Int, ((Lf ((markRM n_7 k_78 q) = (Prod.mk (Prod.mk a_79 b_80) e_81))) →
(∃ n_82 : Int, (∃ n_83 : Int, (((AV.agg ((AV.int .i64 a_79) :: ((AV.int .u64 (Nat.cast b_80 : Int)) :: []))) = (AV.agg ((AV.int .i64 n_82) :: ((AV.int .u64 n_83) :: [])))) ∧
 (∃ k_84 : Nat, ((Lf ((n_8 = (Nat.cast k_84 : Int)) ∧
 ((k_84 < (18446744073709551616 : Nat)) ∧
 ((((- (9223372036854775808 : Int)) ≤ n_7) ∧
 (n_7 ≤ (9223372036854775807 : Int))) ∧
 (((- (9223372036854775808 : Int)) ≤ q) ∧
 (q ≤ (9223372036854775807 : Int))))))) ∧
 (∀ a_85 : Int, (∀ b_86 : Nat, (∀ e_87 : Int, ((Lf ((markRM n_7 k_84 q) = (Prod.mk (Prod.mk a_85 b_86) e_87))) →
(∃ n_88 : Int, (∃ n_89 : Int, (((AV.agg ((AV.int .i64 a_85) :: ((AV.int .u64 (Nat.cast b_86 : Int)) :: []))) = (AV.agg ((AV.int .i64 n_88) :: ((AV.int .u64 n_89) :: [])))) ∧
 (bif (!((n_82 == n_88) && ((n_83 == n_89) && true))) then (Q (Out.ret (AV.bool false)) [] (Gh.mk (0 : Nat) (0 : Nat) []))
else (bif (e_81 != e_87) then (Q (Out.ret (AV.bool false)) [] (Gh.mk (0 : Nat) (0 : Nat) []))
else (∃ k_90 : Nat, ((Lf ((n_8 = (Nat.cast k_90 : Int)) ∧
 ((k_90 < (18446744073709551616 : Nat)) ∧
 ((((- (9223372036854775808 : Int)) ≤ n_7) ∧
 (n_7 ≤ (9223372036854775807 : Int))) ∧
 (((- (9223372036854775808 : Int)) ≤ n_69) ∧
 (n_69 ≤ (9223372036854775807 : Int))))))) ∧
 (∀ e_91 : Int, ((Lf (e_91 = (freshWM n_7 k_90 n_69))) →
(bif ((eqAVL ((AV.int .i64 n_7) :: ((AV.int .u64 n_8) :: [])) ((AV.int .i64 n_7) :: ((AV.int .u64 n_8) :: []))) && true) then (∃ k_92 : Nat, ((Lf ((n_8 = (Nat.cast k_92 : Int)) ∧
 ((k_92 < (18446744073709551616 : Nat)) ∧
 ((((- (9223372036854775808 : Int)) ≤ n_7) ∧
 (n_7 ≤ (9223372036854775807 : Int))) ∧
 (((- (9223372036854775808 : Int)) ≤ n_69) ∧
 (n_69 ≤ (9223372036854775807 : Int))))))) ∧
 (∀ e_93 : Int, ((Lf (e_93 = (freshWM n_7 k_92 n_69))) →
(bif (e_91 != e_93) then (Q (Out.ret (AV.bool false)) [] (Gh.mk (0 : Nat) (0 : Nat) []))
else (∃ k_94 : Nat, ((Lf ((n_8 = (Nat.cast k_94 : Int)) ∧
 ((k_94 < (18446744073709551616 : Nat)) ∧
 ((((- (9223372036854775808 : Int)) ≤ n_7) ∧
 (n_7 ≤ (9223372036854775807 : Int))) ∧
 (((- (9223372036854775808 : Int)) ≤ n_69) ∧
 (n_69 ≤ (9223372036854775807 : Int))))))) ∧
 (∀ a_95 : Int, (∀ b_96 : Nat, (∀ e_97 : Int, ((Lf ((markRM n_7 k_94 n_69) = (Prod.mk (Prod.mk a_95 b_96) e_97))) →
(∃ n_98 : Int, (∃ n_99 : Int, (((AV.agg ((AV.int .i64 a_95) :: ((AV.int .u64 (Nat.cast b_96 : Int)) :: []))) = (AV.agg ((AV.int .i64 n_98) :: ((AV.int .u64 n_99) :: [])))) ∧
 (∃ k_100 : Nat, ((Lf ((n_8 = (Nat.cast k_100 : Int)) ∧
 ((k_100 < (18446744073709551616 : Nat)) ∧
 ((((- (9223372036854775808 : Int)) ≤ n_7) ∧
 (n_7 ≤ (9223372036854775807 : Int))) ∧
 (((- (9223372036854775808 : Int)) ≤ n_69) ∧
 (n_69 ≤ (9223372036854775807 : Int))))))) ∧
 (∀ a_101 : Int, (∀ b_102 : Nat, (∀ e_103 : Int, ((Lf ((markRM n_7 k_100 n_69) = (Prod.mk (Prod.mk a_101 b_102) e_103))) →
(∃ n_104 : Int, (∃ n_105 : Int, (((AV.agg ((AV.int .i64 a_101) :: ((AV.int .u64 (Nat.cast b_102 : Int)) :: []))) = (AV.agg ((AV.int .i64 n_104) :: ((AV.int .u64 n_105) :: [])))) ∧
 (bif (!((n_98 == n_104) && ((n_99 == n_105) && true))) then (Q (Out.ret (AV.bool false)) [] (Gh.mk (0 : Nat) (0 : Nat) []))
else (bif (e_97 != e_103) then (Q (Out.ret (AV.bool false)) [] (Gh.mk (0 : Nat) (0 : Nat) []))
else (∃ k_106 : Nat, ((Lf ((n_8 = (Nat.cast k_106 : Int)) ∧
 ((k_106 < (18446744073709551616 : Nat)) ∧
 ((((- (9223372036854775808 : Int)) ≤ n_7) ∧
 (n_7 ≤ (9223372036854775807 : Int))) ∧
 (((- (9223372036854775808 : Int)) ≤ n_73) ∧
 (n_73 ≤ (9223372036854775807 : Int))))))) ∧
 (∀ e_107 : Int, ((Lf (e_107 = (freshWM n_7 k_106 n_73))) →
(bif ((eqAVL ((AV.int .i64 n_7) :: ((AV.int .u64 n_8) :: [])) ((AV.int .i64 n_7) :: ((AV.int .u64 n_8) :: []))) && true) then (∃ k_108 : Nat, ((Lf ((n_8 = (Nat.cast k_108 : Int)) ∧
 ((k_108 < (18446744073709551616 : Nat)) ∧
 ((((- (9223372036854775808 : Int)) ≤ n_7) ∧
 (n_7 ≤ (9223372036854775807 : Int))) ∧
 (((- (9223372036854775808 : Int)) ≤ n_73) ∧
 (n_73 ≤ (9223372036854775807 : Int))))))) ∧
 (∀ e_109 : Int, ((Lf (e_109 = (freshWM n_7 k_108 n_73))) →
(bif (e_107 != e_109) then (Q (Out.ret (AV.bool false)) [] (Gh.mk (0 : Nat) (0 : Nat) []))
else (∃ k_110 : Nat, ((Lf ((n_8 = (Nat.cast k_110 : Int)) ∧
 ((k_110 < (18446744073709551616 : Nat)) ∧
 ((((- (9223372036854775808 : Int)) ≤ n_7) ∧
 (n_7 ≤ (9223372036854775807 : Int))) ∧
 (((- (9223372036854775808 : Int)) ≤ n_73) ∧
 (n_73 ≤ (9223372036854775807 : Int))))))) ∧
 (∀ a_111 : Int, (∀ b_112 : Nat, (∀ e_113 : Int, ((Lf ((markRM n_7 k_110 n_73) = (Prod.mk (Prod.mk a_111 b_112) e_113))) →
(∃ n_114 : Int, (∃ n_115 : Int, (((AV.agg ((AV.int .i64 a_111) :: ((AV.int .u64 (Nat.cast b_112 : Int)) :: []))) = (AV.agg ((AV.int .i64 n_114) :: ((AV.int .u64 n_115) :: [])))) ∧
 (∃ k_116 : Nat, ((Lf ((n_8 = (Nat.cast k_116 : Int)) ∧
 ((k_116 < (18446744073709551616 : Nat)) ∧
 ((((- (9223372036854775808 : Int)) ≤ n_7) ∧
 (n_7 ≤ (9223372036854775807 : Int))) ∧
 (((- (9223372036854775808 : Int)) ≤ n_73) ∧
 (n_73 ≤ (9223372036854775807 : Int))))))) ∧
 (∀ a_117 : Int, (∀ b_118 : Nat, (∀ e_119 : Int, ((Lf ((markRM n_7 k_116 n_73) = (Prod.mk (Prod.mk a_117 b_118) e_119))) →
(∃ n_120 : Int, (∃ n_121 : Int, (((AV.agg ((AV.int .i64 a_117) :: ((AV.int .u64 (Nat.cast b_118 : Int)) :: []))) = (AV.agg ((AV.int .i64 n_120) :: ((AV.int .u64 n_121) :: [])))) ∧
 (bif (!((n_114 == n_120) && ((n_115 == n_121) && true))) then (Q (Out.ret (AV.bool false)) [] (Gh.mk (0 : Nat) (0 : Nat) []))
else (bif (e_113 != e_119) then (Q (Out.ret (AV.bool false)) [] (Gh.mk (0 : Nat) (0 : Nat) []))
else (∃ n_122 : Int, (((AV.int .u8 (Int.tmod near (140 : Int))) = (AV.int .u8 n_122)) ∧
 (∃ n_123 : Int, (((AV.int .i64 (IntKind.wrap .i64 n_122)) = (AV.int .i64 n_123)) ∧
 (∃ n_124 : Int, (((AV.int .i64 (IntKind.wrap .i64 (n_3 + n_123))) = (AV.int .i64 n_124)) ∧
 (∃ n_125 : Int, (((AV.int .i64 (IntKind.wrap .i64 (n_124 - (70 : Int)))) = (AV.int .i64 n_125)) ∧
 (∃ n_126 : Int, (((AV.int .i64 (IntKind.wrap .i64 (n_3 - (64 : Int)))) = (AV.int .i64 n_126)) ∧
 (∃ n_127 : Int, (((AV.int .u8 (Int.tmod near (3 : Int))) = (AV.int .u8 n_127)) ∧
 (∃ n_128 : Int, (((AV.int .i64 (IntKind.wrap .i64 n_127)) = (AV.int .i64 n_128)) ∧
 (∃ n_129 : Int, (((AV.int .i64 (IntKind.wrap .i64 (n_126 + n_128))) = (AV.int .i64 n_129)) ∧
 (∃ k_130 : Nat, ((Lf ((n_6 = (Nat.cast k_130 : Int)) ∧
 ((k_130 < (18446744073709551616 : Nat)) ∧
 ((((- (9223372036854775808 : Int)) ≤ n_3) ∧
 (n_3 ≤ (9223372036854775807 : Int))) ∧
 (((- (9223372036854775808 : Int)) ≤ q) ∧
 (q ≤ (9223372036854775807 : Int))))))) ∧
 (∀ e_131 : Int, ((Lf (e_131 = (freshWM n_3 k_130 q))) →
(bif ((eqAVL ((AV.int .i64 n_3) :: ((AV.int .u64 n_6) :: [])) ((AV.int .i64 n_3) :: ((AV.int .u64 n_6) :: []))) && true) then (∃ k_132 : Nat, ((Lf ((n_6 = (Nat.cast k_132 : Int)) ∧
 ((k_132 < (18446744073709551616 : Nat)) ∧
 ((((- (9223372036854775808 : Int)) ≤ n_3) ∧
 (n_3 ≤ (9223372036854775807 : Int))) ∧
 (((- (9223372036854775808 : Int)) ≤ q) ∧
 (q ≤ (9223372036854775807 : Int))))))) ∧
 (∀ e_133 : Int, ((Lf (e_133 = (freshWM n_3 k_132 q))) →
(bif (e_131 != e_133) then (Q (Out.ret (AV.bool false)) [] (Gh.mk (0 : Nat) (0 : Nat) []))
else (∃ k_134 : Nat, ((Lf ((n_6 = (Nat.cast k_134 : Int)) ∧
 ((k_134 < (18446744073709551616 : Nat)) ∧
 ((((- (9223372036854775808 : Int)) ≤ n_3) ∧
 (n_3 ≤ (9223372036854775807 : Int))) ∧
 (((- (9223372036854775808 : Int)) ≤ q) ∧
 (q ≤ (9223372036854775807 : Int))))))) ∧
 (∀ a_135 : Int, (∀ b_136 : Nat, (∀ e_137 : Int, ((Lf ((markRM n_3 k_134 q) = (Prod.mk (Prod.mk a_135 b_136) e_137))) →
(∃ n_138 : Int, (∃ n_139 : Int, (((AV.agg ((AV.int .i64 a_135) :: ((AV.int .u64 (Nat.cast b_136 : Int)) :: []))) = (AV.agg ((AV.int .i64 n_138) :: ((AV.int .u64 n_139) :: [])))) ∧
 (∃ k_140 : Nat, ((Lf ((n_6 = (Nat.cast k_140 : Int)) ∧
 ((k_140 < (18446744073709551616 : Nat)) ∧
 ((((- (9223372036854775808 : Int)) ≤ n_3) ∧
 (n_3 ≤ (9223372036854775807 : Int))) ∧
 (((- (9223372036854775808 : Int)) ≤ q) ∧
 (q ≤ (9223372036854775807 : Int))))))) ∧
 (∀ a_141 : Int, (∀ b_142 : Nat, (∀ e_143 : Int, ((Lf ((markRM n_3 k_140 q) = (Prod.mk (Prod.mk a_141 b_142) e_143))) →
(∃ n_144 : Int, (∃ n_145 : Int, (((AV.agg ((AV.int .i64 a_141) :: ((AV.int .u64 (Nat.cast b_142 : Int)) :: []))) = (AV.agg ((AV.int .i64 n_144) :: ((AV.int .u64 n_145) :: [])))) ∧
 (bif (!((n_138 == n_144) && ((n_139 == n_145) && true))) then (Q (Out.ret (AV.bool false)) [] (Gh.mk (0 : Nat) (0 : Nat) []))
else (bif (e_137 != e_143) then (Q (Out.ret (AV.bool false)) [] (Gh.mk (0 : Nat) (0 : Nat) []))
else (∃ k_146 : Nat, ((Lf ((n_6 = (Nat.cast k_146 : Int)) ∧
 ((k_146 < (18446744073709551616 : Nat)) ∧
 ((((- (9223372036854775808 : Int)) ≤ n_3) ∧
 (n_3 ≤ (9223372036854775807 : Int))) ∧
 (((- (9223372036854775808 : Int)) ≤ n_125) ∧
 (n_125 ≤ (9223372036854775807 : Int))))))) ∧
 (∀ e_147 : Int, ((Lf (e_147 = (freshWM n_3 k_146 n_125))) →
(bif ((eqAVL ((AV.int .i64 n_3) :: ((AV.int .u64 n_6) :: [])) ((AV.int .i64 n_3) :: ((AV.int .u64 n_6) :: []))) && true) then (∃ k_148 : Nat, ((Lf ((n_6 = (Nat.cast k_148 : Int)) ∧
 ((k_148 < (18446744073709551616 : Nat)) ∧
 ((((- (9223372036854775808 : Int)) ≤ n_3) ∧
 (n_3 ≤ (9223372036854775807 : Int))) ∧
 (((- (9223372036854775808 : Int)) ≤ n_125) ∧
 (n_125 ≤ (9223372036854775807 : Int))))))) ∧
 (∀ e_149 : Int, ((Lf (e_149 = (freshWM n_3 k_148 n_125))) →
(bif (e_147 != e_149) then (Q (Out.ret (AV.bool false)) [] (Gh.mk (0 : Nat) (0 : Nat) []))
else (∃ k_150 : Nat, ((Lf ((n_6 = (Nat.cast k_150 : Int)) ∧
 ((k_150 < (18446744073709551616 : Nat)) ∧
 ((((- (9223372036854775808 : Int)) ≤ n_3) ∧
 (n_3 ≤ (9223372036854775807 : Int))) ∧
 (((- (9223372036854775808 : Int)) ≤ n_125) ∧
 (n_125 ≤ (9223372036854775807 : Int))))))) ∧
 (∀ a_151 : Int, (∀ b_152 : Nat, (∀ e_153 : Int, ((Lf ((markRM n_3 k_150 n_125) = (Prod.mk (Prod.mk a_151 b_152) e_153))) →
(∃ n_154 : Int, (∃ n_155 : Int, (((AV.agg ((AV.int .i64 a_151) :: ((AV.int .u64 (Nat.cast b_152 : Int)) :: []))) = (AV.agg ((AV.int .i64 n_154) :: ((AV.int .u64 n_155) :: [])))) ∧
 (∃ k_156 : Nat, ((Lf ((n_6 = (Nat.cast k_156 : Int)) ∧
 ((k_156 < (18446744073709551616 : Nat)) ∧
 ((((- (9223372036854775808 : Int)) ≤ n_3) ∧
 (n_3 ≤ (9223372036854775807 : Int))) ∧
 (((- (9223372036854775808 : Int)) ≤ n_125) ∧
 (n_125 ≤ (9223372036854775807 : Int))))))) ∧
 (∀ a_157 : Int, (∀ b_158 : Nat, (∀ e_159 : Int, ((Lf ((markRM n_3 k_156 n_125) = (Prod.mk (Prod.mk a_157 b_158) e_159))) →
(∃ n_160 : Int, (∃ n_161 : Int, (((AV.agg ((AV.int .i64 a_157) :: ((AV.int .u64 (Nat.cast b_158 : Int)) :: []))) = (AV.agg ((AV.int .i64 n_160) :: ((AV.int .u64 n_161) :: [])))) ∧
 (bif (!((n_154 == n_160) && ((n_155 == n_161) && true))) then (Q (Out.ret (AV.bool false)) [] (Gh.mk (0 : Nat) (0 : Nat) []))
else (bif (e_153 != e_159) then (Q (Out.ret (AV.bool false)) [] (Gh.mk (0 : Nat) (0 : Nat) []))
else (∃ k_162 : Nat, ((Lf ((n_6 = (Nat.cast k_162 : Int)) ∧
 ((k_162 < (18446744073709551616 : Nat)) ∧
 ((((- (9223372036854775808 : Int)) ≤ n_3) ∧
 (n_3 ≤ (9223372036854775807 : Int))) ∧
 (((- (9223372036854775808 : Int)) ≤ n_129) ∧
 (n_129 ≤ (9223372036854775807 : Int))))))) ∧
 (∀ e_163 : Int, ((Lf (e_163 = (freshWM n_3 k_162 n_129))) →
(bif ((eqAVL ((AV.int .i64 n_3) :: ((AV.int .u64 n_6) :: [])) ((AV.int .i64 n_3) :: ((AV.int .u64 n_6) :: []))) && true) then (∃ k_164 : Nat, ((Lf ((n_6 = (Nat.cast k_164 : Int)) ∧
 ((k_164 < (18446744073709551616 : Nat)) ∧
 ((((- (9223372036854775808 : Int)) ≤ n_3) ∧
 (n_3 ≤ (9223372036854775807 : Int))) ∧
 (((- (9223372036854775808 : Int)) ≤ n_129) ∧
 (n_129 ≤ (9223372036854775807 : Int))))))) ∧
 (∀ e_165 : Int, ((Lf (e_165 = (freshWM n_3 k_164 n_129))) →
(bif (e_163 != e_165) then (Q (Out.ret (AV.bool false)) [] (Gh.mk (0 : Nat) (0 : Nat) []))
else (∃ k_166 : Nat, ((Lf ((n_6 = (Nat.cast k_166 : Int)) ∧
 ((k_166 < (18446744073709551616 : Nat)) ∧
 ((((- (9223372036854775808 : Int)) ≤ n_3) ∧
 (n_3 ≤ (9223372036854775807 : Int))) ∧
 (((- (9223372036854775808 : Int)) ≤ n_129) ∧
 (n_129 ≤ (9223372036854775807 : Int))))))) ∧
 (∀ a_167 : Int, (∀ b_168 : Nat, (∀ e_169 : Int, ((Lf ((markRM n_3 k_166 n_129) = (Prod.mk (Prod.mk a_167 b_168) e_169))) →
(∃ n_170 : Int, (∃ n_171 : Int, (((AV.agg ((AV.int .i64 a_167) :: ((AV.int .u64 (Nat.cast b_168 : Int)) :: []))) = (AV.agg ((AV.int .i64 n_170) :: ((AV.int .u64 n_171) :: [])))) ∧
 (∃ k_172 : Nat, ((Lf ((n_6 = (Nat.cast k_172 : Int)) ∧
 ((k_172 < (18446744073709551616 : Nat)) ∧
 ((((- (9223372036854775808 : Int)) ≤ n_3) ∧
 (n_3 ≤ (9223372036854775807 : Int))) ∧
 (((- (9223372036854775808 : Int)) ≤ n_129) ∧
 (n_129 ≤ (9223372036854775807 : Int))))))) ∧
 (∀ a_173 : Int, (∀ b_174 : Nat, (∀ e_175 : Int, ((Lf ((markRM n_3 k_172 n_129) = (Prod.mk (Prod.mk a_173 b_174) e_175))) →
(∃ n_176 : Int, (∃ n_177 : Int, (((AV.agg ((AV.int .i64 a_173) :: ((AV.int .u64 (Nat.cast b_174 : Int)) :: []))) = (AV.agg ((AV.int .i64 n_176) :: ((AV.int .u64 n_177) :: [])))) ∧
 (bif (!((n_170 == n_176) && ((n_171 == n_177) && true))) then (Q (Out.ret (AV.bool false)) [] (Gh.mk (0 : Nat) (0 : Nat) []))
else (bif (e_169 != e_175) then (Q (Out.ret (AV.bool false)) [] (Gh.mk (0 : Nat) (0 : Nat) []))
else (∃ n_178 : Int, (((AV.int .u8 (Int.tmod near (140 : Int))) = (AV.int .u8 n_178)) ∧
 (∃ n_179 : Int, (((AV.int .i64 (IntKind.wrap .i64 n_178)) = (AV.int .i64 n_179)) ∧
 (∃ n_180 : Int, (((AV.int .i64 (IntKind.wrap .i64 (n_3 + n_179))) = (AV.int .i64 n_180)) ∧
 (∃ n_181 : Int, (((AV.int .i64 (IntKind.wrap .i64 (n_180 - (70 : Int)))) = (AV.int .i64 n_181)) ∧
 (∃ n_182 : Int, (((AV.int .i64 (IntKind.wrap .i64 (n_3 - (64 : Int)))) = (AV.int .i64 n_182)) ∧
 (∃ n_183 : Int, (((AV.int .u8 (Int.tmod near (3 : Int))) = (AV.int .u8 n_183)) ∧
 (∃ n_184 : Int, (((AV.int .i64 (IntKind.wrap .i64 n_183)) = (AV.int .i64 n_184)) ∧
 (∃ n_185 : Int, (((AV.int .i64 (IntKind.wrap .i64 (n_182 + n_184))) = (AV.int .i64 n_185)) ∧
 (∃ k_186 : Nat, ((Lf ((n_9 = (Nat.cast k_186 : Int)) ∧
 ((k_186 < (18446744073709551616 : Nat)) ∧
 ((((- (9223372036854775808 : Int)) ≤ n_3) ∧
 (n_3 ≤ (9223372036854775807 : Int))) ∧
 (((- (9223372036854775808 : Int)) ≤ q) ∧
 (q ≤ (9223372036854775807 : Int))))))) ∧
 (∀ e_187 : Int, ((Lf (e_187 = (freshWM n_3 k_186 q))) →
(bif ((eqAVL ((AV.int .i64 n_3) :: ((AV.int .u64 n_9) :: [])) ((AV.int .i64 n_3) :: ((AV.int .u64 n_9) :: []))) && true) then (∃ k_188 : Nat, ((Lf ((n_9 = (Nat.cast k_188 : Int)) ∧
 ((k_188 < (18446744073709551616 : Nat)) ∧
 ((((- (9223372036854775808 : Int)) ≤ n_3) ∧
 (n_3 ≤ (9223372036854775807 : Int))) ∧
 (((- (9223372036854775808 : Int)) ≤ q) ∧
 (q ≤ (9223372036854775807 : Int))))))) ∧
 (∀ e_189 : Int, ((Lf (e_189 = (freshWM n_3 k_188 q))) →
(bif (e_187 != e_189) then (Q (Out.ret (AV.bool false)) [] (Gh.mk (0 : Nat) (0 : Nat) []))
else (∃ k_190 : Nat, ((Lf ((n_9 = (Nat.cast k_190 : Int)) ∧
 ((k_190 < (18446744073709551616 : Nat)) ∧
 ((((- (9223372036854775808 : Int)) ≤ n_3) ∧
 (n_3 ≤ (9223372036854775807 : Int))) ∧
 (((- (9223372036854775808 : Int)) ≤ q) ∧
 (q ≤ (9223372036854775807 : Int))))))) ∧
 (∀ a_191 : Int, (∀ b_192 : Nat, (∀ e_193 : Int, ((Lf ((markRM n_3 k_190 q) = (Prod.mk (Prod.mk a_191 b_192) e_193))) →
(∃ n_194 : Int, (∃ n_195 : Int, (((AV.agg ((AV.int .i64 a_191) :: ((AV.int .u64 (Nat.cast b_192 : Int)) :: []))) = (AV.agg ((AV.int .i64 n_194) :: ((AV.int .u64 n_195) :: [])))) ∧
 (∃ k_196 : Nat, ((Lf ((n_9 = (Nat.cast k_196 : Int)) ∧
 ((k_196 < (18446744073709551616 : Nat)) ∧
 ((((- (9223372036854775808 : Int)) ≤ n_3) ∧
 (n_3 ≤ (9223372036854775807 : Int))) ∧
 (((- (9223372036854775808 : Int)) ≤ q) ∧
 (q ≤ (9223372036854775807 : Int))))))) ∧
 (∀ a_197 : Int, (∀ b_198 : Nat, (∀ e_199 : Int, ((Lf ((markRM n_3 k_196 q) = (Prod.mk (Prod.mk a_197 b_198) e_199))) →
(∃ n_200 : Int, (∃ n_201 : Int, (((AV.agg ((AV.int .i64 a_197) :: ((AV.int .u64 (Nat.cast b_198 : Int)) :: []))) = (AV.agg ((AV.int .i64 n_200) :: ((AV.int .u64 n_201) :: [])))) ∧
 (bif (!((n_194 == n_200) && ((n_195 == n_201) && true))) then (Q (Out.ret (AV.bool false)) [] (Gh.mk (0 : Nat) (0 : Nat) []))
else (bif (e_193 != e_199) then (Q (Out.ret (AV.bool false)) [] (Gh.mk (0 : Nat) (0 : Nat) []))
else (∃ k_202 : Nat, ((Lf ((n_9 = (Nat.cast k_202 : Int)) ∧
 ((k_202 < (18446744073709551616 : Nat)) ∧
 ((((- (9223372036854775808 : Int)) ≤ n_3) ∧
 (n_3 ≤ (9223372036854775807 : Int))) ∧
 (((- (9223372036854775808 : Int)) ≤ n_181) ∧
 (n_181 ≤ (9223372036854775807 : Int))))))) ∧
 (∀ e_203 : Int, ((Lf (e_203 = (freshWM n_3 k_202 n_181))) →
(bif ((eqAVL ((AV.int .i64 n_3) :: ((AV.int .u64 n_9) :: [])) ((AV.int .i64 n_3) :: ((AV.int .u64 n_9) :: []))) && true) then (∃ k_204 : Nat, ((Lf ((n_9 = (Nat.cast k_204 : Int)) ∧
 ((k_204 < (18446744073709551616 : Nat)) ∧
 ((((- (9223372036854775808 : Int)) ≤ n_3) ∧
 (n_3 ≤ (9223372036854775807 : Int))) ∧
 (((- (9223372036854775808 : Int)) ≤ n_181) ∧
 (n_181 ≤ (9223372036854775807 : Int))))))) ∧
 (∀ e_205 : Int, ((Lf (e_205 = (freshWM n_3 k_204 n_181))) →
(bif (e_203 != e_205) then (Q (Out.ret (AV.bool false)) [] (Gh.mk (0 : Nat) (0 : Nat) []))
else (∃ k_206 : Nat, ((Lf ((n_9 = (Nat.cast k_206 : Int)) ∧
 ((k_206 < (18446744073709551616 : Nat)) ∧
 ((((- (9223372036854775808 : Int)) ≤ n_3) ∧
 (n_3 ≤ (9223372036854775807 : Int))) ∧
 (((- (9223372036854775808 : Int)) ≤ n_181) ∧
 (n_181 ≤ (9223372036854775807 : Int))))))) ∧
 (∀ a_207 : Int, (∀ b_208 : Nat, (∀ e_209 : Int, ((Lf ((markRM n_3 k_206 n_181) = (Prod.mk (Prod.mk a_207 b_208) e_209))) →
(∃ n_210 : Int, (∃ n_211 : Int, (((AV.agg ((AV.int .i64 a_207) :: ((AV.int .u64 (Nat.cast b_208 : Int)) :: []))) = (AV.agg ((AV.int .i64 n_210) :: ((AV.int .u64 n_211) :: [])))) ∧
 (∃ k_212 : Nat, ((Lf ((n_9 = (Nat.cast k_212 : Int)) ∧
 ((k_212 < (18446744073709551616 : Nat)) ∧
 ((((- (9223372036854775808 : Int)) ≤ n_3) ∧
 (n_3 ≤ (9223372036854775807 : Int))) ∧
 (((- (9223372036854775808 : Int)) ≤ n_181) ∧
 (n_181 ≤ (9223372036854775807 : Int))))))) ∧
 (∀ a_213 : Int, (∀ b_214 : Nat, (∀ e_215 : Int, ((Lf ((markRM n_3 k_212 n_181) = (Prod.mk (Prod.mk a_213 b_214) e_215))) →
(∃ n_216 : Int, (∃ n_217 : Int, (((AV.agg ((AV.int .i64 a_213) :: ((AV.int .u64 (Nat.cast b_214 : Int)) :: []))) = (AV.agg ((AV.int .i64 n_216) :: ((AV.int .u64 n_217) :: [])))) ∧
 (bif (!((n_210 == n_216) && ((n_211 == n_217) && true))) then (Q (Out.ret (AV.bool false)) [] (Gh.mk (0 : Nat) (0 : Nat) []))
else (bif (e_209 != e_215) then (Q (Out.ret (AV.bool false)) [] (Gh.mk (0 : Nat) (0 : Nat) []))
else (∃ k_218 : Nat, ((Lf ((n_9 = (Nat.cast k_218 : Int)) ∧
 ((k_218 < (18446744073709551616 : Nat)) ∧
 ((((- (9223372036854775808 : Int)) ≤ n_3) ∧
 (n_3 ≤ (9223372036854775807 : Int))) ∧
 (((- (9223372036854775808 : Int)) ≤ n_185) ∧
 (n_185 ≤ (9223372036854775807 : Int))))))) ∧
 (∀ e_219 : Int, ((Lf (e_219 = (freshWM n_3 k_218 n_185))) →
(bif ((eqAVL ((AV.int .i64 n_3) :: ((AV.int .u64 n_9) :: [])) ((AV.int .i64 n_3) :: ((AV.int .u64 n_9) :: []))) && true) then (∃ k_220 : Nat, ((Lf ((n_9 = (Nat.cast k_220 : Int)) ∧
 ((k_220 < (18446744073709551616 : Nat)) ∧
 ((((- (9223372036854775808 : Int)) ≤ n_3) ∧
 (n_3 ≤ (9223372036854775807 : Int))) ∧
 (((- (9223372036854775808 : Int)) ≤ n_185) ∧
 (n_185 ≤ (9223372036854775807 : Int))))))) ∧
 (∀ e_221 : Int, ((Lf (e_221 = (freshWM n_3 k_220 n_185))) →
(bif (e_219 != e_221) then (Q (Out.ret (AV.bool false)) [] (Gh.mk (0 : Nat) (0 : Nat) []))
else (∃ k_222 : Nat, ((Lf ((n_9 = (Nat.cast k_222 : Int)) ∧
 ((k_222 < (18446744073709551616 : Nat)) ∧
 ((((- (9223372036854775808 : Int)) ≤ n_3) ∧
 (n_3 ≤ (9223372036854775807 : Int))) ∧
 (((- (9223372036854775808 : Int)) ≤ n_185) ∧
 (n_185 ≤ (9223372036854775807 : Int))))))) ∧
 (∀ a_223 : Int, (∀ b_224 : Nat, (∀ e_225 : Int, ((Lf ((markRM n_3 k_222 n_185) = (Prod.mk (Prod.mk a_223 b_224) e_225))) →
(∃ n_226 : Int, (∃ n_227 : Int, (((AV.agg ((AV.int .i64 a_223) :: ((AV.int .u64 (Nat.cast b_224 : Int)) :: []))) = (AV.agg ((AV.int .i64 n_226) :: ((AV.int .u64 n_227) :: [])))) ∧
 (∃ k_228 : Nat, ((Lf ((n_9 = (Nat.cast k_228 : Int)) ∧
 ((k_228 < (18446744073709551616 : Nat)) ∧
 ((((- (9223372036854775808 : Int)) ≤ n_3) ∧
 (n_3 ≤ (9223372036854775807 : Int))) ∧
 (((- (9223372036854775808 : Int)) ≤ n_185) ∧
 (n_185 ≤ (9223372036854775807 : Int))))))) ∧
 (∀ a_229 : Int, (∀ b_230 : Nat, (∀ e_231 : Int, ((Lf ((markRM n_3 k_228 n_185) = (Prod.mk (Prod.mk a_229 b_230) e_231))) →
(∃ n_232 : Int, (∃ n_233 : Int, (((AV.agg ((AV.int .i64 a_229) :: ((AV.int .u64 (Nat.cast b_230 : Int)) :: []))) = (AV.agg ((AV.int .i64 n_232) :: ((AV.int .u64 n_233) :: [])))) ∧
 (bif (!((n_226 == n_232) && ((n_227 == n_233) && true))) then (Q (Out.ret (AV.bool false)) [] (Gh.mk (0 : Nat) (0 : Nat) []))
else (bif (e_225 != e_231) then (Q (Out.ret (AV.bool false)) [] (Gh.mk (0 : Nat) (0 : Nat) []))
else (Q (Out.ret (AV.bool true)) [] (Gh.mk (0 : Nat) (0 : Nat) [])))))))))))))))))))))))))))
else False))))))))))))))))))))))))))))))
else False))))))))))))))))))))))))))))))
else False))))))))))))))))))))))))))))))))))))))))))))))
else False))))))))))))))))))))))))))))))
else False))))))))))))))))))))))))))))))
else False))))))))))))))))))))))))))))))))))))))))))))))
else False))))))))))))))))))))))))))))))
else False))))))))))))))))))))))))))))))
else False))))))))))))))))))))))))))))))))))))))))))))))
else False))))))))))))))))))))))))))))))
else False))))))))))))))))))))))))))))))
else False))))))))))))))))))))))))))))))))))))))) := by kernel_rfl

/-- a round of the law: the program's Fresh and Mark answer as the reference's -/
theorem rnd4 {t : Int} {k : Nat} {n : Int} (hk : k < 18446744073709551616) (ht : -9223372036854775808 ≤ t ∧ t ≤ 9223372036854775807) (hn : -9223372036854775808 ≤ n ∧ n ≤ 9223372036854775807) {A R : Prop} (h : R) :
    ∃ k1 : Nat, Lf (((k : Nat) : Int) = (k1 : Int) ∧ k1 < 18446744073709551616 ∧ (-9223372036854775808 ≤ t ∧ t ≤ 9223372036854775807) ∧ -9223372036854775808 ≤ n ∧ n ≤ 9223372036854775807) ∧ ∀ e1 : Int, Lf (e1 = freshWM t k1 n) →
      bif eqAVL [AV.int .i64 t, AV.int .u64 (k : Nat)] [AV.int .i64 t, AV.int .u64 (k : Nat)] && true then
        ∃ k2 : Nat, Lf (((k : Nat) : Int) = (k2 : Int) ∧ k2 < 18446744073709551616 ∧ (-9223372036854775808 ≤ t ∧ t ≤ 9223372036854775807) ∧ -9223372036854775808 ≤ n ∧ n ≤ 9223372036854775807) ∧ ∀ e2 : Int, Lf (e2 = freshWM t k2 n) →
          bif e1 != e2 then A else
            ∃ k3 : Nat, Lf (((k : Nat) : Int) = (k3 : Int) ∧ k3 < 18446744073709551616 ∧ (-9223372036854775808 ≤ t ∧ t ≤ 9223372036854775807) ∧ -9223372036854775808 ≤ n ∧ n ≤ 9223372036854775807) ∧ ∀ (a1 : Int) (b1 : Nat) (e3 : Int), Lf (markRM t k3 n = ((a1, b1), e3)) →
              ∃ n1 n2 : Int, AV.agg [.int .i64 a1, .int .u64 (b1 : Nat)] = AV.agg [.int .i64 n1, .int .u64 n2] ∧
                ∃ k4 : Nat, Lf (((k : Nat) : Int) = (k4 : Int) ∧ k4 < 18446744073709551616 ∧ (-9223372036854775808 ≤ t ∧ t ≤ 9223372036854775807) ∧ -9223372036854775808 ≤ n ∧ n ≤ 9223372036854775807) ∧ ∀ (a2 : Int) (b2 : Nat) (e4 : Int), Lf (markRM t k4 n = ((a2, b2), e4)) →
                  ∃ n3 n4 : Int, AV.agg [.int .i64 a2, .int .u64 (b2 : Nat)] = AV.agg [.int .i64 n3, .int .u64 n4] ∧
                    bif !((n1 == n3) && ((n2 == n4) && true)) then A else (bif e3 != e4 then A else R)
      else False := by
  refine ⟨k, ⟨rfl, hk, ht, hn⟩, ?_⟩
  rintro e1 ⟨rfl⟩
  have e : eqAVL [AV.int .i64 t, AV.int .u64 (k : Nat)] [AV.int .i64 t, AV.int .u64 (k : Nat)] = true := by simp [eqAVL, eqAV]
  refine ckI (by rw [e]; rfl) ⟨k, ⟨rfl, hk, ht, hn⟩, ?_⟩
  rintro e2 ⟨rfl⟩
  refine splitNE (fun h => absurd rfl h) (fun _ => ⟨k, ⟨rfl, hk, ht, hn⟩, ?_⟩)
  rintro a1 b1 e3 ⟨h1⟩
  refine aggW2 ⟨k, ⟨rfl, hk, ht, hn⟩, ?_⟩
  rintro a2 b2 e4 ⟨h2⟩
  rw [h1, Prod.mk.injEq, Prod.mk.injEq] at h2
  obtain ⟨⟨rfl, rfl⟩, rfl⟩ := h2
  refine aggW2 ?_
  have e' : (!((a1 == a1) && (((b1 : Int) == (b1 : Int)) && true))) = false := by simp
  rw [e', cond_false]
  exact splitNE (fun h => absurd rfl h) (fun _ => h)
theorem xor_lt {a b : Nat} (ha : a < 18446744073709551616) (hb : b < 18446744073709551616) : a ^^^ b < 18446744073709551616 := Nat.xor_lt_two_pow (n := 64) ha hb
theorem windows_run (st : Int) (s : List UInt8) (rt : Int) (rk : Nat) (q near : Int) (hst : 0 ≤ st ∧ st ≤ 65535) (hs : s.length ≤ 9223372036854775807) (hrt : -9223372036854775808 ≤ rt ∧ rt ≤ 9223372036854775807) (hrk : rk < 18446744073709551616) (hqr : -9223372036854775808 ≤ q ∧ q ≤ 9223372036854775807) (hn : 0 ≤ near ∧ near ≤ 255)
    (Q : Out → List Blk → Gh → Prop) (hq : Q (.ret (.bool true)) [] {}) : ∃ hv hb, goal_4 hv hb st s rt rk q near Q := by
  obtain ⟨hv, hb', e⟩ : ∃ hv hb, goal_4 hv hb st s rt rk q near Q = _ := ⟨_, _, vc_4 st s rt rk q near Q⟩
  refine ⟨hv, hb', e.mpr ?_⟩
  clear e
  refine ⟨s, ⟨rfl, rfl, hst, hs⟩, ?_⟩
  rintro a b ⟨g1, g2⟩
  have t1 : Int.tmod near 140 = near % 140 := Int.tmod_eq_emod_of_nonneg hn.1
  have t2 : Int.tmod near 3 = near % 3 := Int.tmod_eq_emod_of_nonneg hn.1
  refine aggW2 ⟨_, rfl, ?_⟩
  rw [show Int.toNat (((b : Nat) : Int) % 18446744073709551616) = b by omega, show Int.toNat (((rk : Nat) : Int) % 18446744073709551616) = rk by omega]
  have hx := xor_lt g2 hrk
  generalize b ^^^ rk = x at *
  refine wrapW hx (aggW2 ⟨_, rfl, _, rfl, ?_⟩)
  rw [t1]
  refine wrapI (by omega) (by omega) (wrapI (by omega) (by omega) (wrapI (by omega) (by omega) (wrapI (by omega) (by omega) ⟨_, rfl, ?_⟩)))
  rw [t2]
  refine wrapI (by omega) (by omega) (wrapI (by omega) (by omega) ?_)
  have ga : -9223372036854775808 ≤ a ∧ a ≤ 9223372036854775807 := by omega
  have n1 : -9223372036854775808 ≤ a + near % 140 - 70 ∧ a + near % 140 - 70 ≤ 9223372036854775807 := by omega
  have n2 : -9223372036854775808 ≤ a - 64 + near % 3 ∧ a - 64 + near % 3 ≤ 9223372036854775807 := by omega
  refine rnd4 g2 ga hqr (rnd4 g2 ga n1 (rnd4 g2 ga n2 ?_))
  refine ⟨_, rfl, wrapI (by omega) (by omega) (wrapI (by omega) (by omega) (wrapI (by omega) (by omega) (wrapI (by omega) (by omega) ⟨_, rfl, wrapI (by omega) (by omega) (wrapI (by omega) (by omega) ?_)⟩)))⟩
  refine rnd4 hrk hrt hqr (rnd4 hrk hrt n1 (rnd4 hrk hrt n2 ?_))
  refine ⟨_, rfl, wrapI (by omega) (by omega) (wrapI (by omega) (by omega) (wrapI (by omega) (by omega) (wrapI (by omega) (by omega) ⟨_, rfl, wrapI (by omega) (by omega) (wrapI (by omega) (by omega) ?_)⟩)))⟩
  refine rnd4 hx ga hqr (rnd4 hx ga n1 (rnd4 hx ga n2 ?_))
  refine ⟨_, rfl, wrapI (by omega) (by omega) (wrapI (by omega) (by omega) (wrapI (by omega) (by omega) (wrapI (by omega) (by omega) ⟨_, rfl, wrapI (by omega) (by omega) (wrapI (by omega) (by omega) ?_)⟩)))⟩
  exact rnd4 hrk ga hqr (rnd4 hrk ga n1 (rnd4 hrk ga n2 hq))
end Go.Proofs.Ytiholnebhmjbjaa

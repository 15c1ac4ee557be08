/-
  Chapter 17: RecordCodes.
-/
import Derived.Test.YtiholnebhmjbjaaM17J
set_option linter.unusedSimpArgs false
set_option linter.unusedVariables false
set_option linter.unusedSectionVars false
namespace Go.Proofs.Ytiholnebhmjbjaa
open Go.RowKit
set_option maxRecDepth 1000000

def smK3 : SM := lookS [(10, cTrue), (11, cPieces), (12, cFew17), (13, cEnc), (14, cEnc), (15, cEdit17), (16, cDec), (17, cDec), (18, cSame)]
theorem smK3_ok : ∀ f g, smK3 f = some g → ValidF Try.prog gl0 f g := lookS_ok _ (by simp only [List.mem_cons, List.not_mem_nil, or_false, forall_eq_or_imp, forall_eq]; exact ⟨wakes_ok, pieces_ok, few17_ok, enc_ok, renc_ok, edit17_ok, dec_ok, rdec_ok, same_ok⟩)
noncomputable def goal_3 (hv : Nat → Option Pa) (hb : Nat → Option Bool) (ps : List Pc) (rw_ : List Rc) (a1 b1 : Int) (t1 : List UInt8) (a2 b2 : Int) (t2 s : List UInt8) (Q : Out → List Blk → Gh → Prop) : Prop :=
  callx (e04 smK3 (fun _ => none) hv hb) (wpx (e04 smK3 (fun _ => none) hv hb) 1000) 3 [.lst 0 (cellsPM ps) ps.length 5, .lst 0 (cellsRM rw_) rw_.length 4, .agg [.int .u16 a1, .int .u16 b1, .str t1, .int .u16 a2, .int .u16 b2, .str t2], .str s] [] {} Q
theorem vc_3 (ps : List Pc) (rw_ : List Rc) (a1 : Int) (b1 : Int) (t1 : List UInt8) (a2 : Int) (b2 : Int) (t2 : List UInt8) (s : List UInt8) (Q : Out → List Blk → Gh → Prop) : goal_3 (lookV [(12361, .int .i64), (12362, .int .i64), (12363, .str)]) (lookB []) ps rw_ a1 b1 t1 a2 b2 t2 s Q = (
(∃ ps_0 : (List Pc), ((Lf (((cellsPM ps) = (cellsPM ps_0)) ∧
 (((List.length ps) = (List.length ps_0)) ∧
 (∀ p_1 : Pc, ((Membership.mem ps_0 p_1) →
(pcOk p_1)))))) ∧
 (∀ rs_1 : (List Rc), ((Lf (((List.length rs_1) = (Min.min (List.length ps_0) (6 : Nat))) ∧
 ((List.all rs_1 rightRM) = true))) →
(∃ l_2 : (List Rc), ((Lf (((cellsRM rw_) = (cellsRM l_2)) ∧
 ((List.length rw_) = (List.length l_2)))) ∧
 (∀ rs_3 : (List Rc), ((Lf (rs_3 = (fewRM (List.take (6 : Nat) l_2)))) →
(∃ l_4 : (List Rc), ((Lf (((cellsRM rs_1) = (cellsRM l_4)) ∧
 (((List.length rs_1) = (List.length l_4)) ∧
 ((List.length l_4) ≤ (100 : Nat))))) ∧
 (∀ s_5 : (List UInt8), (∀ e_6 : Int, ((Lf ((encM l_4) = (Prod.mk s_5 e_6))) →
(∃ l_7 : (List Rc), ((Lf (((cellsRM rs_1) = (cellsRM l_7)) ∧
 (((List.length rs_1) = (List.length l_7)) ∧
 ((List.length l_7) ≤ (100 : Nat))))) ∧
 (∀ s_8 : (List UInt8), (∀ e_9 : Int, ((Lf ((encM l_7) = (Prod.mk s_8 e_9))) →
(bif (!(eqB s_5 s_8)) then (Q (Out.ret (AV.bool false)) [] (Gh.mk (0 : Nat) (0 : Nat) []))
else (bif (e_6 != e_9) then (Q (Out.ret (AV.bool false)) [] (Gh.mk (0 : Nat) (0 : Nat) []))
else (∃ l_10 : (List Rc), ((Lf (((cellsRM rs_3) = (cellsRM l_10)) ∧
 (((List.length rs_3) = (List.length l_10)) ∧
 ((List.length l_10) ≤ (100 : Nat))))) ∧
 (∀ s_11 : (List UInt8), (∀ e_12 : Int, ((Lf ((encM l_10) = (Prod.mk s_11 e_12))) →
(∃ l_13 : (List Rc), ((Lf (((cellsRM rs_3) = (cellsRM l_13)) ∧
 (((List.length rs_3) = (List.length l_13)) ∧
 ((List.length l_13) ≤ (100 : Nat))))) ∧
 (∀ s_14 : (List UInt8), (∀ e_15 : Int, ((Lf ((encM l_13) = (Prod.mk s_14 e_15))) →
(bif (!(eqB s_11 s_14)) then (Q (Out.ret (AV.bool false)) [] (Gh.mk (0 : Nat) (0 : Nat) []))
else (bif (e_12 != e_15) then (Q (Out.ret (AV.bool false)) [] (Gh.mk (0 : Nat) (0 : Nat) []))
else (∃ l_16 : (List Rc), ((Lf (((cellsRM rs_1) = (cellsRM l_16)) ∧
 (((List.length rs_1) = (List.length l_16)) ∧
 ((List.length l_16) ≤ (100 : Nat))))) ∧
 (∀ s_17 : (List UInt8), (∀ e_18 : Int, ((Lf ((encM l_16) = (Prod.mk s_17 e_18))) →
(∃ n_19 : Int, (((AV.int .i64 (Nat.cast (List.length s) : Int)) = (AV.int .i64 n_19)) ∧
 (∃ n_20 : Int, (((AV.int .i64 (imin n_19 (1210 : Int))) = (AV.int .i64 n_20)) ∧
 (bif (((decide ((0 : Int) ≤ n_20)) && true) && (Nat.ble (Int.toNat n_20) (List.length s))) then (∃ s_21 : (List UInt8), (((AV.str (List.take ((Int.toNat n_20) - (0 : Nat)) (List.drop (0 : Nat) s))) = (AV.str s_21)) ∧
 ((Lf ((((0 : Int) ≤ a1) ∧
 (a1 ≤ (65535 : Int))) ∧
 ((((0 : Int) ≤ b1) ∧
 (b1 ≤ (65535 : Int))) ∧
 ((List.length s_17) ≤ (100000 : Nat))))) ∧
 (∀ r_22 : (List UInt8), ((Lf ((List.length r_22) ≤ ((List.length s_17) + (40 : Nat)))) →
(bif ((eqAVL ((AV.int .u16 a1) :: ((AV.int .u16 b1) :: ((AV.str t1) :: []))) ((AV.int .u16 a1) :: ((AV.int .u16 b1) :: ((AV.str t1) :: [])))) && true) then (bif ((eqAVL ((AV.int .u16 a2) :: ((AV.int .u16 b2) :: ((AV.str t2) :: []))) ((AV.int .u16 a2) :: ((AV.int .u16 b2) :: ((AV.str t2) :: [])))) && true) then ((Lf ((((0 : Int) ≤ a1) ∧
 (a1 ≤ (65535 : Int))) ∧
 ((((0 : Int) ≤ b1) ∧
 (b1 ≤ (65535 : Int))) ∧
 ((List.length s_17) ≤ (100000 : Nat))))) ∧
 (∀ r_23 : (List UInt8), ((Lf ((List.length r_23) ≤ ((List.length s_17) + (40 : Nat)))) →
(bif ((eqAVL ((AV.int .u16 a2) :: ((AV.int .u16 b2) :: ((AV.str t2) :: []))) ((AV.int .u16 a2) :: ((AV.int .u16 b2) :: ((AV.str t2) :: [])))) && true) then ((Lf ((((0 : Int) ≤ a2) ∧
 (a2 ≤ (65535 : Int))) ∧
 ((((0 : Int) ≤ b2) ∧
 (b2 ≤ (65535 : Int))) ∧
 ((List.length r_23) ≤ (100000 : Nat))))) ∧
 (∀ r_24 : (List UInt8), ((Lf ((List.length r_24) ≤ ((List.length r_23) + (40 : Nat)))) →
((Lf ((List.length s_17) ≤ (9223372036854775807 : Nat))) ∧
 (∀ l_25 : (List Rc), (∀ e_26 : Int, ((Lf ((decM s_17) = (Prod.mk l_25 e_26))) →
((Lf ((List.length s_17) ≤ (9223372036854775807 : Nat))) ∧
 (∀ l_27 : (List Rc), (∀ e_28 : Int, ((Lf ((decM s_17) = (Prod.mk l_27 e_28))) →
(bif (e_26 != e_28) then (Q (Out.ret (AV.bool false)) [] (Gh.mk (0 : Nat) (0 : Nat) []))
else (∃ l_29 : (List Rc), (∃ k_30 : (List Rc), ((Lf ((((cellsRM l_25) = (cellsRM l_29)) ∧
 ((List.length l_25) = (List.length l_29))) ∧
 ((((cellsRM l_27) = (cellsRM k_30)) ∧
 ((List.length l_27) = (List.length k_30))) ∧
 ((List.length l_29) ≤ (1000000 : Nat))))) ∧
 (∀ b_31 : Bool, ((Lf (b_31 = (sameRM l_29 k_30))) →
(bif b_31 then ((Lf ((List.length r_22) ≤ (9223372036854775807 : Nat))) ∧
 (∀ l_32 : (List Rc), (∀ e_33 : Int, ((Lf ((decM r_22) = (Prod.mk l_32 e_33))) →
((Lf ((List.length r_22) ≤ (9223372036854775807 : Nat))) ∧
 (∀ l_34 : (List Rc), (∀ e_35 : Int, ((Lf ((decM r_22) = (Prod.mk l_34 e_35))) →
(bif (e_33 != e_35) then (Q (Out.ret (AV.bool false)) [] (Gh.mk (0 : Nat) (0 : Nat) []))
else (∃ l_36 : (List Rc), (∃ k_37 : (List Rc), ((Lf ((((cellsRM l_32) = (cellsRM l_36)) ∧
 ((List.length l_32) = (List.length l_36))) ∧
 ((((cellsRM l_34) = (cellsRM k_37)) ∧
 ((List.length l_34) = (List.length k_37))) ∧
 ((List.length l_36) ≤ (1000000 : Nat))))) ∧
 (∀ b_38 : Bool, ((Lf (b_38 = (sameRM l_36 k_37))) →
(bif b_38 then ((Lf ((List.length r_24) ≤ (9223372036854775807 : Nat))) ∧
 (∀ l_39 : (List Rc), (∀ e_40 : Int, ((Lf ((decM r_24) = (Prod.mk l_39 e_40))) →
((Lf ((List.length r_24) ≤ (9223372036854775807 : Nat))) ∧
 (∀ l_41 : (List Rc), (∀ e_42 : Int, ((Lf ((decM r_24) = (Prod.mk l_41 e_42))) →
(bif (e_40 != e_42) then (Q (Out.ret (AV.bool false)) [] (Gh.mk (0 : Nat) (0 : Nat) []))
else (∃ l_43 : (List Rc), (∃ k_44 : (List Rc), ((Lf ((((cellsRM l_39) = (cellsRM l_43)) ∧
 ((List.length l_39) = (List.length l_43))) ∧
 ((((cellsRM l_41) = (cellsRM k_44)) ∧
 ((List.length l_41) = (List.length k_44))) ∧
 ((List.length l_43) ≤ (1000000 : Nat))))) ∧
 (∀ b_45 : Bool, ((Lf (b_45 = (sameRM l_43 k_44))) →
(bif b_45 then ((Lf ((List.length s_21) ≤ (9223372036854775807 : Nat))) ∧
 (∀ l_46 : (List Rc), (∀ e_47 : Int, ((Lf ((decM s_21) = (Prod.mk l_46 e_47))) →
((Lf ((List.length s_21) ≤ (9223372036854775807 : Nat))) ∧
 (∀ l_48 : (List Rc), (∀ e_49 : Int, ((Lf ((decM s_21) = (Prod.mk l_48 e_49))) →
(bif (e_47 != e_49) then (Q (Out.ret (AV.bool false)) [] (Gh.mk (0 : Nat) (0 : Nat) []))
else (∃ l_50 : (List Rc), (∃ k_51 : (List Rc), ((Lf ((((cellsRM l_46) = (cellsRM l_50)) ∧
 ((List.length l_46) = (List.length l_50))) ∧
 ((((cellsRM l_48) = (cellsRM k_51)) ∧
 ((List.length l_48) = (List.length k_51))) ∧
 ((List.length l_50) ≤ (1000000 : Nat))))) ∧
 (∀ b_52 : Bool, ((Lf (b_52 = (sameRM l_50 k_51))) →
(bif b_52 then (Q (Out.ret (AV.bool true)) [] (Gh.mk (0 : Nat) (0 : Nat) []))
else (Q (Out.ret (AV.bool false)) [] (Gh.mk (0 : Nat) (0 : Nat) [])))))))))))))))))
else (Q (Out.ret (AV.bool false)) [] (Gh.mk (0 : Nat) (0 : Nat) [])))))))))))))))))
else (Q (Out.ret (AV.bool false)) [] (Gh.mk (0 : Nat) (0 : Nat) [])))))))))))))))))
else (Q (Out.ret (AV.bool false)) [] (Gh.mk (0 : Nat) (0 : Nat) []))))))))))))))))))))
else False))))
else False)
else False))))))
else False))))))))))))))))))))))))))))))))))))))))))) := by kernel_rfl

theorem enc_le (l : List Rc) : (encM l).1.length ≤ 1200 := by
  unfold encM
  split
  · simp
  · split
    · split
      · simp
      · dsimp only; omega
    · simp
theorem encRnd {l : List Rc} (hl : l.length ≤ 100) {A R : Prop} (h : R) :
    ∃ l1 : List Rc, Lf (cellsRM l = cellsRM l1 ∧ l.length = l1.length ∧ l1.length ≤ 100) ∧ ∀ s1 e1, Lf (encM l1 = (s1, e1)) →
      ∃ l2 : List Rc, Lf (cellsRM l = cellsRM l2 ∧ l.length = l2.length ∧ l2.length ≤ 100) ∧ ∀ s2 e2, Lf (encM l2 = (s2, e2)) →
        bif !(eqB s1 s2) then A else (bif e1 != e2 then A else R) := by
  refine ⟨l, ⟨rfl, rfl, hl⟩, ?_⟩
  rintro s1 e1 ⟨h1⟩
  refine ⟨l, ⟨rfl, rfl, hl⟩, ?_⟩
  rintro s2 e2 ⟨h2⟩
  rw [h1, Prod.mk.injEq] at h2
  obtain ⟨rfl, rfl⟩ := h2
  rw [eqB_refl]
  exact splitNE (fun h => absurd rfl h) (fun _ => h)
theorem decRnd {s : List UInt8} (hs : s.length ≤ 1000000) {A R : Prop} (h : R) :
    Lf (s.length ≤ 9223372036854775807) ∧ ∀ l1 e1, Lf (decM s = (l1, e1)) → Lf (s.length ≤ 9223372036854775807) ∧ ∀ l2 e2, Lf (decM s = (l2, e2)) →
      bif e1 != e2 then A else ∃ l k : List Rc, Lf ((cellsRM l1 = cellsRM l ∧ l1.length = l.length) ∧ (cellsRM l2 = cellsRM k ∧ l2.length = k.length) ∧ l.length ≤ 1000000) ∧ ∀ b, Lf (b = sameRM l k) → bif b then R else A := by
  refine ⟨⟨by omega⟩, ?_⟩
  rintro l1 e1 ⟨h1⟩
  refine ⟨⟨by omega⟩, ?_⟩
  rintro l2 e2 ⟨h2⟩
  have hl := dec_len s
  rw [h1] at hl
  dsimp only at hl
  rw [h1, Prod.mk.injEq] at h2
  obtain ⟨rfl, rfl⟩ := h2
  refine splitNE (fun h => absurd rfl h) (fun _ => ⟨l1, l1, ⟨⟨rfl, rfl⟩, ⟨rfl, rfl⟩, by omega⟩, ?_⟩)
  rintro b ⟨rfl⟩
  rw [same_yes rfl]
  exact h
theorem codes_run (ps : List Pc) (rw_ : List Rc) (a1 b1 : Int) (t1 : List UInt8) (a2 b2 : Int) (t2 s : List UInt8) (hp : ∀ p ∈ ps, pcOk p) (ha1 : 0 ≤ a1 ∧ a1 ≤ 65535) (hb1 : 0 ≤ b1 ∧ b1 ≤ 65535) (ha2 : 0 ≤ a2 ∧ a2 ≤ 65535) (hb2 : 0 ≤ b2 ∧ b2 ≤ 65535)
    (Q : Out → List Blk → Gh → Prop) (hq : Q (.ret (.bool true)) [] {}) : ∃ hv hb, goal_3 hv hb ps rw_ a1 b1 t1 a2 b2 t2 s Q := by
  obtain ⟨hv, hb', e⟩ : ∃ hv hb, goal_3 hv hb ps rw_ a1 b1 t1 a2 b2 t2 s Q = _ := ⟨_, _, vc_3 ps rw_ a1 b1 t1 a2 b2 t2 s Q⟩
  refine ⟨hv, hb', e.mpr ?_⟩
  clear e
  refine ⟨ps, ⟨rfl, rfl, hp⟩, ?_⟩
  rintro rs ⟨r1, r2⟩
  refine ⟨rw_, ⟨rfl, rfl⟩, ?_⟩
  rintro fs ⟨hf⟩
  have hfl : fs.length ≤ 100 := by rw [hf, few17_len, List.length_take]; omega
  refine encRnd (by omega) (encRnd hfl ⟨rs, ⟨rfl, rfl, by omega⟩, ?_⟩)
  rintro u e ⟨he⟩
  have hul := enc_le rs
  rw [he] at hul
  dsimp only at hul
  have eA : ∀ (a b : Int) (t : List UInt8), eqAVL [AV.int .u16 a, AV.int .u16 b, AV.str t] [AV.int .u16 a, AV.int .u16 b, AV.str t] = true := fun a b t => by simp [eqAVL, eqAV, eqB_refl]
  refine ⟨_, rfl, iminI (b := 1210) rfl (ckI (by simp; omega) ⟨s.take 1210, by rw [take_imin], ⟨ha1, hb1, by omega⟩, ?_⟩)⟩
  rintro r1 ⟨h1⟩
  refine ckI (by rw [eA]; rfl) (ckI (by rw [eA]; rfl) ⟨⟨ha1, hb1, by omega⟩, ?_⟩)
  rintro r2 ⟨h2⟩
  refine ckI (by rw [eA]; rfl) ⟨⟨ha2, hb2, by omega⟩, ?_⟩
  rintro r3 ⟨h3⟩
  exact decRnd (by omega) (decRnd (by omega) (decRnd (by omega) (decRnd (by rw [List.length_take]; omega) hq)))
end Go.Proofs.Ytiholnebhmjbjaa

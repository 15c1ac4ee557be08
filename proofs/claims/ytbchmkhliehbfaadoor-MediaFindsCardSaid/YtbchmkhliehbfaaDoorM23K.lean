/-
  Chapter 23: MediaKinds.
-/
import Derived.Test.YtbchmkhliehbfaaDoorM23J
set_option linter.unusedSimpArgs false
set_option linter.unusedVariables false
namespace Go.Proofs.YtbchmkhliehbfaaDoor
open Go.RowKit
set_option maxRecDepth 1000000

def smK : SM := lookS [(10, cDraft), (15, cEncode), (19, cTrue), (26, cDemux)]
theorem smK_ok : ∀ f g, smK f = some g → ValidF Tryd.prog gl0 f g := lookS_ok _ (by simp only [List.mem_cons, List.not_mem_nil, or_false, forall_eq_or_imp, forall_eq]; exact ⟨draft_ok, encode_ok, works_ok, demux_ok⟩)
noncomputable def goal_8 (hv : Nat → Option Pa) (hb : Nat → Option Bool) (mk : Bool) (ty seq ti ss : Int) (tc : Nat) (ks : List Int) (tx : Nat) (ps : List Xt) (pad : Int) (pl raw : List UInt8) (Q : Out → List Blk → Gh → Prop) : Prop :=
  callx (e23 smK (fun _ => none) hv hb) (wpx (e23 smK (fun _ => none) hv hb) 1000) 8 [.agg (draftM mk ty seq ti ss tc ks tx ps pad pl), .str raw] [] {} Q
def vc_8_1 (raw : List UInt8) (Q : Out → List Blk → Gh → Prop) : Prop := (
(∃ n_0 : Int, (((AV.int .i64 (Nat.cast (List.length raw) : Int)) = (AV.int .i64 n_0)) ∧
 (∃ n_1 : Int, (((AV.int .i64 (imin n_0 (2 : Int))) = (AV.int .i64 n_1)) ∧
 (bif (((decide ((0 : Int) ≤ n_1)) && true) && (Nat.ble (Int.toNat n_1) (List.length raw))) then (∃ s_2 : (List UInt8), (((AV.str (List.take ((Int.toNat n_1) - (0 : Nat)) (List.drop (0 : Nat) raw))) = (AV.str s_2)) ∧
 ((Lf ((List.length raw) ≤ (9223372036854775807 : Nat))) ∧
 (∀ r_3 : Int, ((Lf (r_3 = (demuxM raw))) →
((Lf ((List.length s_2) ≤ (9223372036854775807 : Nat))) ∧
 (∀ r_4 : Int, ((Lf (r_4 = (demuxM s_2))) →
(bif (r_3 == r_4) then (Q (Out.ret (AV.bool true)) [] (Gh.mk (0 : Nat) (0 : Nat) []))
else (Q (Out.ret (AV.bool false)) [] (Gh.mk (0 : Nat) (0 : Nat) [])))))))))))
else False))))))
theorem vc_8 (mk : Bool) (ty : Int) (seq : Int) (ti : Int) (ss : Int) (tc : Nat) (ks : List Int) (tx : Nat) (ps : List Xt) (pad : Int) (pl : List UInt8) (raw : List UInt8) (Q : Out → List Blk → Gh → Prop) : goal_8 (lookV [(32808, .str), (32818, .int .i64), (32819, .int .i64), (32820, .str)]) (lookB []) mk ty seq ti ss tc ks tx ps pad pl raw Q = (
(∃ ks_0 : (List Int), (∃ ps_1 : (List Xt), ((Lf ((draftK (cells32M ks) (List.length ks) (cellsPcM ps) (List.length ps) ks_0 ps_1) ∧
 ((((0 : Int) ≤ ty) ∧
 (ty ≤ (255 : Int))) ∧
 ((((0 : Int) ≤ seq) ∧
 (seq ≤ (65535 : Int))) ∧
 ((((0 : Int) ≤ ti) ∧
 (ti ≤ (4294967295 : Int))) ∧
 ((((0 : Int) ≤ ss) ∧
 (ss ≤ (4294967295 : Int))) ∧
 (((0 : Int) ≤ pad) ∧
 (pad ≤ (255 : Int))))))))) ∧
 (∀ ty'_2 : Int, (∀ cs_3 : (List Int), (∀ ex_4 : (List Xt), (∀ p'_5 : (List UInt8), ((Lf ((ty'_2 = (ty % (128 : Int))) ∧
 ((cs_3 = (List.take (3 : Nat) ks_0)) ∧
 ((ex_4 = (pcsM (0 : Int) (List.take (4 : Nat) ps_1))) ∧
 (p'_5 = (List.take (60 : Nat) pl)))))) →
(∃ cs_6 : (List Int), (∃ ex_7 : (List Xt), ((Lf ((medK (cellsI cs_3) (List.length cs_3) (cellsXM ex_4) (List.length ex_4) cs_6 ex_7) ∧
 ((List.length p'_5) ≤ (1000000000 : Nat)))) ∧
 (∀ s_8 : (List UInt8), (∀ e_9 : Int, ((Lf ((Prod.mk s_8 e_9) = (encRM mk ty'_2 seq ti ss cs_6 ex_7 pad p'_5))) →
(bif mk then (bif (decide (ty'_2 ≥ (64 : Int))) then (bif (decide (ty'_2 ≤ (95 : Int))) then (bif (e_9 == (0 : Int)) then ((Lf ((List.length s_8) ≤ (9223372036854775807 : Nat))) ∧
 (∀ r_10 : Int, ((Lf (r_10 = (demuxM s_8))) →
(bif (r_10 == (5 : Int)) then (bif (Nat.ble (2 : Nat) (List.length s_8)) then (∃ s_11 : (List UInt8), (((AV.str (List.take (2 : Nat) (List.drop (0 : Nat) s_8))) = (AV.str s_11)) ∧
 ((Lf ((List.length s_11) ≤ (9223372036854775807 : Nat))) ∧
 (∀ r_12 : Int, ((Lf (r_12 = (demuxM s_11))) →
(bif (r_12 == (5 : Int)) then (vc_8_1 raw Q)
else (Q (Out.ret (AV.bool false)) [] (Gh.mk (0 : Nat) (0 : Nat) []))))))))
else False)
else (Q (Out.ret (AV.bool false)) [] (Gh.mk (0 : Nat) (0 : Nat) []))))))
else (Q (Out.ret (AV.bool false)) [] (Gh.mk (0 : Nat) (0 : Nat) [])))
else (bif (e_9 == (0 : Int)) then ((Lf ((List.length s_8) ≤ (9223372036854775807 : Nat))) ∧
 (∀ r_10 : Int, ((Lf (r_10 = (demuxM s_8))) →
(bif (r_10 == (4 : Int)) then (bif (Nat.ble (2 : Nat) (List.length s_8)) then (∃ s_11 : (List UInt8), (((AV.str (List.take (2 : Nat) (List.drop (0 : Nat) s_8))) = (AV.str s_11)) ∧
 ((Lf ((List.length s_11) ≤ (9223372036854775807 : Nat))) ∧
 (∀ r_12 : Int, ((Lf (r_12 = (demuxM s_11))) →
(bif (r_12 == (4 : Int)) then (vc_8_1 raw Q)
else (Q (Out.ret (AV.bool false)) [] (Gh.mk (0 : Nat) (0 : Nat) []))))))))
else False)
else (Q (Out.ret (AV.bool false)) [] (Gh.mk (0 : Nat) (0 : Nat) []))))))
else (Q (Out.ret (AV.bool false)) [] (Gh.mk (0 : Nat) (0 : Nat) []))))
else (bif (e_9 == (0 : Int)) then ((Lf ((List.length s_8) ≤ (9223372036854775807 : Nat))) ∧
 (∀ r_10 : Int, ((Lf (r_10 = (demuxM s_8))) →
(bif (r_10 == (4 : Int)) then (bif (Nat.ble (2 : Nat) (List.length s_8)) then (∃ s_11 : (List UInt8), (((AV.str (List.take (2 : Nat) (List.drop (0 : Nat) s_8))) = (AV.str s_11)) ∧
 ((Lf ((List.length s_11) ≤ (9223372036854775807 : Nat))) ∧
 (∀ r_12 : Int, ((Lf (r_12 = (demuxM s_11))) →
(bif (r_12 == (4 : Int)) then (vc_8_1 raw Q)
else (Q (Out.ret (AV.bool false)) [] (Gh.mk (0 : Nat) (0 : Nat) []))))))))
else False)
else (Q (Out.ret (AV.bool false)) [] (Gh.mk (0 : Nat) (0 : Nat) []))))))
else (Q (Out.ret (AV.bool false)) [] (Gh.mk (0 : Nat) (0 : Nat) []))))
else (bif (e_9 == (0 : Int)) then ((Lf ((List.length s_8) ≤ (9223372036854775807 : Nat))) ∧
 (∀ r_10 : Int, ((Lf (r_10 = (demuxM s_8))) →
(bif (r_10 == (4 : Int)) then (bif (Nat.ble (2 : Nat) (List.length s_8)) then (∃ s_11 : (List UInt8), (((AV.str (List.take (2 : Nat) (List.drop (0 : Nat) s_8))) = (AV.str s_11)) ∧
 ((Lf ((List.length s_11) ≤ (9223372036854775807 : Nat))) ∧
 (∀ r_12 : Int, ((Lf (r_12 = (demuxM s_11))) →
(bif (r_12 == (4 : Int)) then (vc_8_1 raw Q)
else (Q (Out.ret (AV.bool false)) [] (Gh.mk (0 : Nat) (0 : Nat) []))))))))
else False)
else (Q (Out.ret (AV.bool false)) [] (Gh.mk (0 : Nat) (0 : Nat) []))))))
else (Q (Out.ret (AV.bool false)) [] (Gh.mk (0 : Nat) (0 : Nat) []))))))))))))))))))) := by kernel_rfl

theorem demux_take (s : List UInt8) : demuxM (s.take 2) = demuxM s := by
  match s with
  | [] => rfl
  | [c] => rfl
  | c :: d :: l => rfl
theorem raw_ok (raw : List UInt8) (hr : raw.length ≤ 9223372036854775807) (Q : Out → List Blk → Gh → Prop) (hq : Q (.ret (.bool true)) [] {}) : vc_8_1 raw Q := by
  refine ⟨_, rfl, iminI (b := 2) rfl (ckI (by simp; omega) ⟨raw.take 2, by rw [take_imin], ⟨hr⟩, ?_⟩)⟩
  rintro r ⟨hr3⟩
  refine ⟨⟨by rw [List.length_take]; omega⟩, ?_⟩
  rintro r' ⟨hr4⟩
  rw [demux_take] at hr4
  exact splitE (fun _ => hq) (fun h => absurd (by rw [hr3, hr4]) h)
theorem pcs_ok : ∀ (l : List Xt) (a : Int) (n : Nat), l.length ≤ n → 0 ≤ a → a + 60 * n ≤ 255 → extsOkM a (pcsM a l) = true
  | [], _, _, _, _, _ => rfl
  | x :: l, a, n, hl, ha, hn => by
    have h1 := Int.emod_nonneg x.1 (b := 60) (by decide)
    have h2 := Int.emod_lt_of_pos x.1 (b := 60) (by decide)
    rw [List.length_cons] at hl
    rw [pcsM, extsOkM, pcs_ok l _ (n - 1) (by omega) (by omega) (by omega), Bool.and_true]
    refine decide_eq_true ⟨by dsimp only; omega, by dsimp only; omega, ?_⟩
    rw [List.length_take]; omega
theorem pcs_data : ∀ (l : List Xt) (a : Int), ∀ x ∈ pcsM a l, x.2.length ≤ 20
  | [], _, x, h => by simp [pcsM] at h
  | y :: l, a, x, h => by
    rw [pcsM] at h
    rcases List.mem_cons.1 h with rfl | h
    · rw [List.length_take]; omega
    · exact pcs_data l _ x h
theorem extB_len2 (sh : Bool) : ∀ (l : List Xt), (∀ x ∈ l, x.2.length ≤ 20) → (extBM sh l).length ≤ 22 * l.length
  | [], _ => by simp [extBM]
  | x :: l, h => by
    have h1 := extB_len2 sh l fun y hy => h y (by simp [hy])
    have h2 := h x (by simp)
    have h3 := piece_len sh x
    have e : extBM sh (x :: l) = pieceM sh x ++ x.2 ++ extBM sh l := rfl
    rw [e, List.length_append, List.length_append, List.length_cons]
    omega
/-- a drafted packet is valid, and not too long -/
theorem draft_right {mk : Bool} {ty seq ti ss : Int} {ks : List Int} {ps : List Xt} {pad : Int} {pl : List UInt8} (hk32 : ∀ x ∈ ks, 0 ≤ x ∧ x ≤ 4294967295) (hty : 0 ≤ ty ∧ ty ≤ 255) (hseq : 0 ≤ seq ∧ seq ≤ 65535) (hti : 0 ≤ ti ∧ ti ≤ 4294967295) (hss : 0 ≤ ss ∧ ss ≤ 4294967295) (hpad : 0 ≤ pad ∧ pad ≤ 255) :
    rightM (ty % 128) seq ti ss (ks.take 3) (pcsM 0 (ps.take 4)) pad = true ∧ totalM mk (ty % 128) seq ti ss (ks.take 3) (pcsM 0 (ps.take 4)) pad (pl.take 60) ≤ 1200 := by
  have hc3 : (ks.take 3).length ≤ 3 := by rw [List.length_take]; omega
  have hp4 : (pcsM 0 (ps.take 4)).length ≤ 4 := by rw [pcs_len, List.length_take]; omega
  have hok := pcs_ok (ps.take 4) 0 4 (by rw [List.length_take]; omega) (by omega) (by omega)
  have hdt := pcs_data (ps.take 4) 0
  have hbl := extB_len2 (shortM (pcsM 0 (ps.take 4))) _ hdt
  have hpl : (pl.take 60).length ≤ 60 := by rw [List.length_take]; omega
  refine ⟨?_, ?_⟩
  · rw [rightM, hok, Bool.and_true]
    refine decide_eq_true ⟨by omega, by omega, by omega, by omega, by omega, by omega, by omega, by omega, fun x hx => ?_, by omega, by omega, by omega, by omega⟩
    have := hk32 x (List.mem_of_mem_take hx)
    omega
  · have hh : (headM mk (ty % 128) seq ti ss (ks.take 3) (pcsM 0 (ps.take 4)) pad).length ≤ 200 := by
      unfold headM
      rw [List.length_append, head_len]
      split
      · simp; omega
      · rw [List.length_append, put_len, extPM, List.length_append, zerosM, List.length_replicate]
        simp
        omega
    unfold totalM
    omega
theorem oct0 {n : Int} (h : 0 ≤ n ∧ n ≤ 255) : ((octM n 0).toNat : Int) = n := by
  unfold octM
  rw [Int.pow_zero, Int.ediv_one, UInt8.toNat_ofNat']
  omega
theorem enc_start (mk : Bool) (ty seq ti ss : Int) (cs : List Int) (ex : List Xt) (pad : Int) (pl : List UInt8) : ∃ r, encM mk ty seq ti ss cs ex pad pl = octM (fstM cs ex.length pad) 0 :: octM (kindM mk ty) 0 :: r := by
  simp only [encM, headM, headBM, putM, beM, List.cons_append, List.nil_append]
  exact ⟨_, rfl⟩
theorem enc_demux {mk : Bool} {ty seq ti ss : Int} {cs : List Int} {ex : List Xt} {pad : Int} {pl : List UInt8} (hty : 0 ≤ ty ∧ ty ≤ 127) (hcs : cs.length ≤ 15) : demuxM (encM mk ty seq ti ss cs ex pad pl) = if mk = true ∧ 64 ≤ ty ∧ ty ≤ 95 then 5 else 4 := by
  obtain ⟨r, hr⟩ := enc_start mk ty seq ti ss cs ex pad pl
  have hf : 128 ≤ fstM cs ex.length pad ∧ fstM cs ex.length pad < 192 := by
    unfold fstM
    (repeat' split) <;> omega
  have hkd : 0 ≤ kindM mk ty ∧ kindM mk ty ≤ 255 := by
    unfold kindM
    split <;> omega
  have o1 := oct0 (n := fstM cs ex.length pad) (by omega)
  have o2 := oct0 hkd
  rw [hr]
  simp only [demuxM]
  rw [if_neg (by omega), if_neg (by omega), if_neg (by omega), if_pos (by omega)]
  have kf : kindM false ty = ty := by simp [kindM]
  have kt : kindM true ty = ty + 128 := by simp [kindM]
  cases mk
  · rw [kf] at o2 ⊢
    rw [if_neg (by omega), if_neg (by simp)]
  · rw [kt] at o2 ⊢
    by_cases h : 64 ≤ ty ∧ ty ≤ 95
    · rw [if_pos (by omega), if_pos ⟨rfl, h⟩]
    · rw [if_neg (by omega), if_neg (fun hh => h hh.2)]
theorem kinds_run (mk : Bool) (ty seq ti ss : Int) (tc : Nat) (ks : List Int) (tx : Nat) (ps : List Xt) (pad : Int) (pl raw : List UInt8) (hdk : draftK (cells32M ks) ks.length (cellsPcM ps) ps.length ks ps) (hty : 0 ≤ ty ∧ ty ≤ 255) (hseq : 0 ≤ seq ∧ seq ≤ 65535) (hti : 0 ≤ ti ∧ ti ≤ 4294967295) (hss : 0 ≤ ss ∧ ss ≤ 4294967295) (hpad : 0 ≤ pad ∧ pad ≤ 255) (hraw : raw.length ≤ 9223372036854775807) (Q : Out → List Blk → Gh → Prop) (hq : Q (.ret (.bool true)) [] {}) : ∃ hv hb, goal_8 hv hb mk ty seq ti ss tc ks tx ps pad pl raw Q := by
  obtain ⟨hv, hb', e⟩ : ∃ hv hb, goal_8 hv hb mk ty seq ti ss tc ks tx ps pad pl raw Q = _ := ⟨_, _, vc_8 mk ty seq ti ss tc ks tx ps pad pl raw Q⟩
  refine ⟨hv, hb', e.mpr ?_⟩
  clear e
  refine ⟨ks, ps, ⟨hdk, hty, hseq, hti, hss, hpad⟩, ?_⟩
  rintro ty' cs ex p' ⟨e1, e2, e3, e4⟩
  have hk32 := hdk.2.2.2.2.2.2.1
  obtain ⟨d1, d2⟩ := draft_right (mk := mk) (ps := ps) (pl := pl) hk32 hty hseq hti hss hpad
  have hdt := pcs_data (ps.take 4) 0
  rw [← e1, ← e2, ← e3] at d1
  rw [← e1, ← e2, ← e3, ← e4] at d2
  rw [← e3] at hdt
  have hc3 : cs.length ≤ 3 := by rw [e2, List.length_take]; omega
  have hx4 : ex.length ≤ 4 := by rw [e3, pcs_len, List.length_take]; omega
  have hp60 : p'.length ≤ 60 := by rw [e4, List.length_take]; omega
  refine ⟨cs, ex, ⟨⟨rfl, rfl, rfl, rfl, by omega, by omega, fun x hx => by have := hdt x hx; omega⟩, by omega⟩, ?_⟩
  rintro s e ⟨he⟩
  rw [encRM, if_neg (by rw [d1]; simp), if_neg (by omega)] at he
  have hs := congrArg Prod.fst he
  have hee := congrArg Prod.snd he
  dsimp only at hs hee
  have dm := enc_demux (mk := mk) (ty := ty') (seq := seq) (ti := ti) (ss := ss) (cs := cs) (ex := ex) (pad := pad) (pl := p') (by omega) (by omega)
  rw [← hs] at dm
  have hsl : s.length ≤ 20000 := by
    have hb := head_bound mk ty' seq ti ss cs ex pad (by omega) (by omega) (right_of d1).2.2.2.1
    rw [hs, encM, List.length_append, List.length_append, padM]
    split
    · rw [List.length_append, List.length_replicate, put_len]
      simp
      omega
    · simp
      omega
  have hs2 : 2 ≤ s.length := by
    obtain ⟨r, hr⟩ := enc_start mk ty' seq ti ss cs ex pad p'
    rw [hs, hr]
    simp
  have done : ∀ w : Int, demuxM s = w → (bif e == 0 then (Lf (s.length ≤ 9223372036854775807) ∧ ∀ r : Int, Lf (r = demuxM s) → bif r == w then (bif Nat.ble 2 s.length then (∃ s' : List UInt8, AV.str (List.take 2 (List.drop 0 s)) = AV.str s' ∧ Lf (s'.length ≤ 9223372036854775807) ∧ ∀ r' : Int, Lf (r' = demuxM s') → bif r' == w then vc_8_1 raw Q else Q (.ret (.bool false)) [] (Gh.mk 0 0 [])) else False) else Q (.ret (.bool false)) [] (Gh.mk 0 0 [])) else Q (.ret (.bool false)) [] (Gh.mk 0 0 [])) := fun w hw => by
    refine splitE (fun _ => ⟨⟨by omega⟩, ?_⟩) (fun h => absurd hee h)
    rintro r ⟨hr⟩
    refine splitE (fun _ => ckI (by simp; omega) ⟨s.take 2, by rw [List.drop_zero], ⟨by rw [List.length_take]; omega⟩, ?_⟩) (fun h => absurd (by rw [hr, hw]) h)
    rintro r' ⟨hr'⟩
    rw [demux_take] at hr'
    exact splitE (fun _ => raw_ok raw hraw Q hq) (fun h => absurd (by rw [hr', hw]) h)
  refine splitI (fun hm => splitD (fun h1 => splitD (fun h2 => ?_) (fun h2 => ?_)) (fun h1 => ?_)) (fun hm => ?_)
  · exact done 5 (by rw [dm, if_pos ⟨hm, by omega, by omega⟩])
  · exact done 4 (by rw [dm, if_neg (fun hh => h2 hh.2.2)])
  · exact done 4 (by rw [dm, if_neg (fun hh => h1 hh.2.1)])
  · exact done 4 (by rw [dm, if_neg (fun hh => by rw [hm] at hh; cases hh.1)])
end Go.Proofs.YtbchmkhliehbfaaDoor

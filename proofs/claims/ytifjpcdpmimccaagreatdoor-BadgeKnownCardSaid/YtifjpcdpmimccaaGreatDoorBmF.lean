/-
  Chapter 18: the sample wakes: residual.
-/
import Derived.Test.YtifjpcdpmimccaaGreatDoorBmE
set_option linter.unusedSimpArgs false
set_option linter.unusedVariables false
set_option linter.unusedSectionVars false
namespace Go.Proofs.YtifjpcdpmimccaaGreatDoor
open Go.RowKit
set_option maxRecDepth 1000000

def smW : SM := lookS [(35, cRepeat), (22, cEncB), (14, cDecB), (23, cPrt), (28, cMatchV), (17, cCkp), (41, cLow), (30, cAccV), (21, cChk)]
theorem smW_ok : ∀ f g, smW f = some g → ValidF Tryz.prog gl0 f g := lookS_ok _ (by simp only [List.mem_cons, List.not_mem_nil, or_false, forall_eq_or_imp, forall_eq]; exact ⟨repeat_ok, encB_ok, decB_ok, prt_ok, matchV_ok, ckp_ok, low_ok, accV_ok, chk_ok⟩)
noncomputable def goal_10 (hv : Nat → Option Pa) (hb : Nat → Option Bool) (Q : Out → List Blk → Gh → Prop) : Prop :=
  callx (e18 smW (fun _ => none) hv hb) (wpx (e18 smW (fun _ => none) hv hb) 1000) 10 [] [] {} Q
theorem vc_10 (Q : Out → List Blk → Gh → Prop) : goal_10 (lookV [(41017, .int .i64), (294918, .int .i64), (294926, .str), (41032, .str)]) (lookB []) Q = (Lf (List.length [UInt8.ofNat 97, UInt8.ofNat 98] ≤ 9223372036854775807) ∧ ∀ s_0 : List
 UInt8, ∀ e_1 : Int, Lf (encBM [UInt8.ofNat 97, UInt8.ofNat 98] (repM [UInt8.ofNat 7] 32) 1 2 3 = Prod.mk s_0 e_1) → Lf (s_0.length ≤ 1000000) ∧ ∀ n_2 k_3 : List UInt8, ∀ f_4 u_5 m_6 e_7 : Int, Lf (decBM s_0 = Prod.mk n_2 (Prod.mk k_3
 (Prod.mk f_4 (Prod.mk u_5 (Prod.mk m_6 e_7))))) → Lf (List.length [UInt8.ofNat 97, UInt8.ofNat 98] ≤ 9223372036854775807) ∧ ∀ s_8 : List UInt8, ∀ e_9 : Int, Lf (prtM [UInt8.ofNat 97, UInt8.ofNat 98] (repM [UInt8.ofNat 7] 32) 1 2 3 =
 Prod.mk s_8 e_9) → ∃ l_10 : List (List UInt8), Lf (([AV.str s_8] = cellsSM l_10 ∧ 1 = l_10.length) ∧ List.length [UInt8.ofNat 97, UInt8.ofNat 98] ≤ 9223372036854775807 ∧ ∀ s_11 : List UInt8, Membership.mem l_10 s_11 → s_11.length ≤
 9223372036854775807) ∧ ∀ i_11 e_12 : Int, Lf (matchM [UInt8.ofNat 97, UInt8.ofNat 98] (repM [UInt8.ofNat 7] 32) 1 2 3 l_10 = Prod.mk i_11 e_12) → bif e_1 == 0 then bif eqB s_0 [UInt8.ofNat 102, UInt8.ofNat 100, UInt8.ofNat 1, UInt8.ofNat
 0, UInt8.ofNat 0, UInt8.ofNat 0, UInt8.ofNat 0, UInt8.ofNat 0, UInt8.ofNat 3, UInt8.ofNat 0, UInt8.ofNat 0, UInt8.ofNat 0, UInt8.ofNat 0, UInt8.ofNat 0, UInt8.ofNat 1, UInt8.ofNat 0, UInt8.ofNat 0, UInt8.ofNat 0, UInt8.ofNat 0, UInt8.ofNat
 0, UInt8.ofNat 2, UInt8.ofNat 2, UInt8.ofNat 97, UInt8.ofNat 98, UInt8.ofNat 7, UInt8.ofNat 7, UInt8.ofNat 7, UInt8.ofNat 7, UInt8.ofNat 7, UInt8.ofNat 7, UInt8.ofNat 7, UInt8.ofNat 7, UInt8.ofNat 7, UInt8.ofNat 7, UInt8.ofNat 7,
 UInt8.ofNat 7, UInt8.ofNat 7, UInt8.ofNat 7, UInt8.ofNat 7, UInt8.ofNat 7, UInt8.ofNat 7, UInt8.ofNat 7, UInt8.ofNat 7, UInt8.ofNat 7, UInt8.ofNat 7, UInt8.ofNat 7, UInt8.ofNat 7, UInt8.ofNat 7, UInt8.ofNat 7, UInt8.ofNat 7, UInt8.ofNat 7,
 UInt8.ofNat 7, UInt8.ofNat 7, UInt8.ofNat 7, UInt8.ofNat 7, UInt8.ofNat 7] then bif e_7 == 0 then bif eqB n_2 [UInt8.ofNat 97, UInt8.ofNat 98] && (eqB k_3 (repM [UInt8.ofNat 7] 32) && (f_4 == 1 && (u_5 == 2 && (m_6 == 3 && true)))) then
 bif e_9 == 0 then exI .i64 (s_8.length : Int) fun n_13 => bif n_13 == 103 then exI .i64 (s_8.length : Int) fun n_14 => bif decide (n_14 ≥ 8) then ckQ (Nat.ble 8 s_8.length) (exS (.str ((s_8.drop 0).take 8)) fun s_15 => bif eqB s_15
 [UInt8.ofNat 115, UInt8.ofNat 104, UInt8.ofNat 97, UInt8.ofNat 45, UInt8.ofNat 50, UInt8.ofNat 53, UInt8.ofNat 54, UInt8.ofNat 32] then Lf (s_8.length ≤ 9223372036854775807) ∧ ∀ e_16 : Int, Lf (e_16 = ckpM s_8) → bif e_16 == 0 then Lf
 (s_8.length ≤ 1000000 ∧ List.all s_8 (fun (c_17 : UInt8) => Nat.blt (UInt8.toNat c_17) 128) = true) ∧ ∀ x_17 : List UInt8, Lf (x_17 = lowM s_8) → ckQ (decide (x_17.length + 1 ≤ 9223372036854775807) && true) (exS (.str (x_17 ++ [UInt8.ofNat
 97])) fun s_18 => Lf (s_18.length ≤ 9223372036854775807) ∧ ∀ e_19 : Int, Lf (e_19 = ckpM s_18) → bif e_19 == 5 then bif e_12 == 0 then bif i_11 == 0 then ∃ l_20 : List (List UInt8), Lf (([AV.str s_8] = cellsSM l_20 ∧ 1 = l_20.length) ∧
 List.length [UInt8.ofNat 97, UInt8.ofNat 98] ≤ 9223372036854775807 ∧ ∀ s_21 : List UInt8, Membership.mem l_20 s_21 → s_21.length ≤ 9223372036854775807) ∧ ∀ e_21 : Int, Lf (e_21 = accM [UInt8.ofNat 97, UInt8.ofNat 98] (repM [UInt8.ofNat 7]
 32) 1 2 3 l_20 2) → bif e_21 == 0 then ∃ l_22 : List (List UInt8), Lf (([AV.str s_8] = cellsSM l_22 ∧ 1 = l_22.length) ∧ List.length [UInt8.ofNat 97, UInt8.ofNat 98] ≤ 9223372036854775807 ∧ ∀ s_23 : List UInt8, Membership.mem l_22 s_23 →
 s_23.length ≤ 9223372036854775807) ∧ ∀ e_23 : Int, Lf (e_23 = accM [UInt8.ofNat 97, UInt8.ofNat 98] (repM [UInt8.ofNat 7] 32) 1 2 3 l_22 3) → bif e_23 == 10 then Lf (List.length [UInt8.ofNat 97, UInt8.ofNat 98] ≤ 9223372036854775807) ∧ ∀
 e_24 : Int, Lf (e_24 = chkM [UInt8.ofNat 97, UInt8.ofNat 98] (repM [UInt8.ofNat 7] 32) 1 2 3) → bif e_24 == 0 then Lf (([] : List UInt8).length ≤ 9223372036854775807) ∧ ∀ e_25 : Int, Lf (e_25 = chkM [] [] 0 0 0) → bif e_25 == 180 then Q
 (.ret (.bool true)) [] {} else Q (.ret (.bool false)) [] {} else Q (.ret (.bool false)) [] {} else Q (.ret (.bool false)) [] {} else Q (.ret (.bool false)) [] {} else Q (.ret (.bool false)) [] {} else Q (.ret (.bool false)) [] {} else Q
 (.ret (.bool false)) [] {}) else Q (.ret (.bool false)) [] {} else Q (.ret (.bool false)) [] {}) else Q (.ret (.bool false)) [] {} else Q (.ret (.bool false)) [] {} else Q (.ret (.bool false)) [] {} else Q (.ret (.bool false)) [] {} else Q
 (.ret (.bool false)) [] {} else Q (.ret (.bool false)) [] {} else Q (.ret (.bool false)) [] {}) := by kernel_rfl

end Go.Proofs.YtifjpcdpmimccaaGreatDoor

set_option linter.unusedSimpArgs false
set_option linter.unusedVariables false
set_option linter.unusedSectionVars false
namespace Go.Proofs.YtifjpcdpmimccaaGreatDoor
open Go.RowKit
set_option maxRecDepth 1000000

abbrev nS : List UInt8 := [UInt8.ofNat 97, UInt8.ofNat 98]
abbrev kS : List UInt8 := repM [UInt8.ofNat 7] 32
theorem rightS : rightBM nS kS 1 2 3 = true := by decide
theorem encS : encBM nS kS 1 2 3 = (octBM nS kS 1 2 3, 0) := by rw [encBM, if_pos rightS]
theorem decS : decBM (octBM nS kS 1 2 3) = (nS, kS, 1, 2, 3, 0) := by decide
theorem jt_eq : ∀ d : List UInt8, (Lib.joinTail [58] (hx d)).length = 3 * d.length
  | [] => rfl
  | c :: t => by
    have := jt_eq t
    have e : Lib.joinTail [58] (hx (c :: t)) = ([58] ++ hex2M c) ++ Lib.joinTail [58] (hx t) := rfl
    rw [e, List.length_append, this, List.length_cons, show ([58] ++ hex2M c : List UInt8).length = 3 from rfl]
    omega
theorem shown_len {d : List UInt8} (h : d.length = 32) : (shownM d).length = 103 := by
  match d, h with
  | c :: t, h =>
    have e : joinM (hx (c :: t)) [58] = hex2M c ++ Lib.joinTail [58] (hx t) := Lib.join_cons _ _ _
    show (preM ++ joinM (hx (c :: t)) [58]).length = 103
    rw [e, List.length_append, List.length_append, jt_eq, show preM.length = 8 from rfl, show (hex2M c).length = 2 from rfl]
    rw [List.length_cons] at h
    omega
theorem shown_hd (d : List UInt8) : (shownM d).take 8 = preM := rfl
theorem hex_ok (j x : Nat) (hj : j % 3 ≠ 2) (h : x < 16) : chOk j (hexL.getD x (UInt8.ofNat 0)) = true := by
  have : ∀ y : Fin 16, decide (0 ≤ idxM hexL ((hexL.getD y (UInt8.ofNat 0)).toNat : Int)) = true := by decide
  rw [chOk, if_neg hj]
  exact this ⟨x, h⟩
theorem hex_low (x : Nat) (h : x < 16) : Nat.blt (hexL.getD x (UInt8.ofNat 0)).toNat 128 = true := by
  have : ∀ y : Fin 16, Nat.blt (hexL.getD y (UInt8.ofNat 0)).toNat 128 = true := by decide
  exact this ⟨x, h⟩
theorem hi16 (c : UInt8) : c.toNat / 16 < 16 := by have := c.toNat_lt; omega
theorem lo16 (c : UInt8) : c.toNat % 16 < 16 := by omega
theorem jt_cons (c : UInt8) (t : List UInt8) : Lib.joinTail [58] (hx (c :: t)) = 58 :: hexL.getD (c.toNat / 16) (UInt8.ofNat 0) :: hexL.getD (c.toNat % 16) (UInt8.ofNat 0) :: Lib.joinTail [58] (hx t) := rfl
theorem join_hx (c : UInt8) (t : List UInt8) : joinM (hx (c :: t)) [58] = hexL.getD (c.toNat / 16) (UInt8.ofNat 0) :: hexL.getD (c.toNat % 16) (UInt8.ofNat 0) :: Lib.joinTail [58] (hx t) := Lib.join_cons _ _ _
theorem jt_ok : ∀ (t : List UInt8) (j0 : Nat), j0 % 3 = 2 → ∀ j, j < 3 * t.length → chOk (j0 + j) ((Lib.joinTail [58] (hx t)).getD j 0) = true
  | [], _, _, j, h => by simp at h
  | c :: t, j0, h0, j, h => by
    rw [jt_cons]
    rw [List.length_cons] at h
    match j, h with
    | 0, _ => rw [chOk, if_pos (by omega)]; rfl
    | 1, _ => exact hex_ok _ _ (by omega) (hi16 c)
    | 2, _ => exact hex_ok _ _ (by omega) (lo16 c)
    | j + 3, h =>
      have := jt_ok t (j0 + 3) (by omega) j (by omega)
      rw [show j0 + (j + 3) = j0 + 3 + j by omega]
      exact this
theorem shown_fing {d : List UInt8} (h : d.length = 32) : fingM (shownM d) = true := by
  have hl := shown_len h
  refine (fing_iff _).2 ⟨by omega, by rw [shown_hd]; exact eqB_refl _, by rw [List.length_drop, hl], fun j hj => ?_⟩
  have e : (shownM d).drop 8 = joinM (hx d) [58] := rfl
  rw [e]
  match d, h with
  | c :: t, h =>
    rw [join_hx]
    rw [List.length_cons] at h
    match j, hj with
    | 0, _ => exact hex_ok _ _ (by omega) (hi16 c)
    | 1, _ => exact hex_ok _ _ (by omega) (lo16 c)
    | j + 2, hj =>
      have := jt_ok t 2 (by omega) j (by omega)
      rw [show j + 2 = 2 + j by omega]
      rw [Nat.add_comm 2 j]
      rw [Nat.add_comm 2 j] at this
      exact this
theorem jt_low : ∀ t : List UInt8, (Lib.joinTail [58] (hx t)).all (fun c => Nat.blt c.toNat 128) = true
  | [] => rfl
  | c :: t => by
    rw [jt_cons, List.all_cons, List.all_cons, List.all_cons, jt_low t, hex_low _ (hi16 c), hex_low _ (lo16 c)]
    rfl
theorem shown_low (d : List UInt8) : (shownM d).all (fun c => Nat.blt c.toNat 128) = true := by
  rw [shownM, List.all_append, Bool.and_eq_true]
  refine ⟨by decide, ?_⟩
  match d with
  | [] => rfl
  | c :: t =>
    show (joinM (hx (c :: t)) [58]).all _ = true
    rw [join_hx, List.all_cons, List.all_cons, jt_low t, hex_low _ (hi16 c), hex_low _ (lo16 c)]
    rfl
theorem bT {b : Bool} {A B : Prop} (h : b = true) (ha : A) : bif b then A else B := by
  rw [h]; exact ha
theorem low_len (s : List UInt8) : (lowM s).length = s.length := by
  simp [lowM, Lib.toLowerA]
theorem wakes_run (Q : Out → List Blk → Gh → Prop) (hq : Q (.ret (.bool true)) [] {}) : ∃ hv hb, goal_10 hv hb Q := by
  obtain ⟨hv', hb', e'⟩ : ∃ hv hb, goal_10 hv hb Q = _ := ⟨_, _, vc_10 Q⟩
  refine ⟨hv', hb', e'.mpr ?_⟩
  clear e'
  have hS : prtM nS kS 1 2 3 = (shB nS kS 1 2 3, 0) := by rw [prtM, if_pos rightS]; rfl
  generalize hsh : shB nS kS 1 2 3 = sh at hS
  have sl : sh.length = 103 := hsh ▸ shown_len (sumS_len _)
  have sf : fingM sh = true := hsh ▸ shown_fing (sumS_len _)
  have sw : sh.all (fun c => Nat.blt c.toNat 128) = true := hsh ▸ shown_low _
  have s8 : sh.take 8 = preM := hsh ▸ shown_hd _
  have hM : matchM nS kS 1 2 3 [sh] = (0, 0) := by
    rw [matchM, if_pos rightS, if_neg (by simp), if_pos (by simp [sf]), hsh]
    simp [List.findIdx?_cons, eqB_refl]
  have hl : ∀ s ∈ [sh], s.length ≤ 9223372036854775807 := fun s h => by
    rw [List.mem_singleton] at h
    subst h; omega
  refine ⟨⟨by decide⟩, ?_⟩
  rintro s0 e1 ⟨h0⟩
  rw [encS] at h0
  obtain ⟨rfl, rfl⟩ := Prod.mk.inj h0
  refine ⟨⟨by decide⟩, ?_⟩
  rintro n2 k3 f4 u5 m6 e7 ⟨h1⟩
  rw [decS] at h1
  simp only [Prod.mk.injEq] at h1
  obtain ⟨rfl, rfl, rfl, rfl, rfl, rfl⟩ := h1
  refine ⟨⟨by decide⟩, ?_⟩
  rintro s8' e9 ⟨h2⟩
  rw [hS] at h2
  obtain ⟨rfl, rfl⟩ := Prod.mk.inj h2
  refine ⟨[sh], ⟨⟨rfl, rfl⟩, by decide, hl⟩, ?_⟩
  rintro i11 e12 ⟨h3⟩
  rw [hM] at h3
  obtain ⟨rfl, rfl⟩ := Prod.mk.inj h3
  refine bT rfl (bT (by decide) (bT rfl (bT (by decide) (bT rfl ⟨_, rfl, bT (by rw [sl]; rfl) ⟨_, rfl, bT (by rw [sl]; rfl) (ckI (by rw [sl]; rfl) ⟨_, rfl, bT (by show eqB (sh.take 8) preM = true; rw [s8]; exact eqB_refl _) ⟨⟨by omega⟩, ?_⟩⟩)⟩⟩))))
  rintro e16 ⟨rfl⟩
  refine bT (by rw [ckpM, if_pos sf]; rfl) ⟨⟨by omega, sw⟩, ?_⟩
  rintro x17 ⟨rfl⟩
  have ll : (lowM sh).length = 103 := by rw [low_len, sl]
  refine ckI (by rw [ll]; rfl) ⟨_, rfl, ⟨by rw [List.length_append, ll]; decide⟩, ?_⟩
  rintro e19 ⟨rfl⟩
  have nf : ¬ fingM (lowM sh ++ [UInt8.ofNat 97]) = true := fun h => by
    have := ((fing_iff _).1 h).2.2.1
    rw [List.length_drop, List.length_append, ll] at this
    simp at this
  refine bT (by rw [ckpM, if_neg nf]; rfl) (bT rfl (bT rfl ⟨[sh], ⟨⟨rfl, rfl⟩, by decide, hl⟩, ?_⟩))
  rintro e21 ⟨rfl⟩
  refine bT (by rw [accM, hM]; rfl) ⟨[sh], ⟨⟨rfl, rfl⟩, by decide, hl⟩, ?_⟩
  rintro e23 ⟨rfl⟩
  refine bT (by rw [accM, hM]; rfl) ⟨⟨by decide⟩, ?_⟩
  rintro e24 ⟨rfl⟩
  refine bT (by rw [chkM, if_pos rightS]; rfl) ⟨⟨by decide⟩, ?_⟩
  rintro e25 ⟨rfl⟩
  exact bT (by decide) hq
def cWakes : Con
  | [], H, K => K (.ret (.bool true)) H
  | _, _, _ => False
theorem wakes_ok : ValidF Tryz.prog gl0 10 cWakes := by
  refine valid_flat (enters_of (by kernel_rfl)) gl0_noY fun args H Q hc => ?_
  unfold cWakes at hc
  split at hc
  · obtain ⟨hv, hb', h⟩ := wakes_run (Q := fun o H' _ => H' = [] ∧ (∃ v, o = .ret v ∧ old 0 v = true ∧ noY v = true) ∧ Q o H) ⟨rfl, ⟨_, rfl, rfl, rfl⟩, hc⟩
    exact ⟨rfl, rfl, _, 1000, envFor18 smW_ok _ _ _, rfl, h⟩
  · exact hc.elim
end Go.Proofs.YtifjpcdpmimccaaGreatDoor
